/- Joined texts: Sl, Agg, Ga, Gb, Gc, Gd, Unr, Ge, Mp, MpL, Gf, Gg. -/
import Derived.Laws.StructEq
import Derived.Test.YtdebkbfnngkdlaaGreatDoorProg
import Derived.LoopNIn
import Derived.Shelf.Small.Strs
import Derived.Maps.Own
import Derived.StringKeys
import Derived.Maps.Views
import Derived.Lib.SliceRun
import Derived.Maps.OwnSet
import Derived.Test.YtdebkbfnngkdlaaGreatDoorIa1
section
namespace Go.V
open Go.Base Go.RowKit
set_option linter.unusedVariables false
set_option linter.unusedSimpArgs false
section
variable {α : Type} {R : Rp α} {Z : Nat → Prop} {w : World} {xs ys : List α} {g o n c : Nat}
/-- .. the last ones. -/
theorem SlR.dropN (h : SlR R Z w (.slice (some ⟨g, o, none⟩) n c) xs) {i : Nat} (hi : i ≤ xs.length) {ad : Addr} (had : c - i ≠ 0 → ad = ⟨g, o + i * R.sz, none⟩) {m : Nat} (hm : m = xs.length - i) : SlR R Z w (.slice (some ad) m (c - i)) (xs.drop i) := by
  subst hm
  obtain ⟨A', c', e, h1, h2, h3⟩ := h
  injection e with e1 e2 e3
  subst e1; subst e3
  refine ⟨_, c - i, by rw [List.length_drop], by rw [List.length_drop]; omega, by rw [List.length_drop]; omega, fun j x hj => ?_⟩
  rw [List.getElem?_drop] at hj
  have hlt := (List.getElem?_eq_some_iff.1 hj).1
  obtain ⟨g', o', cs, hA, hz, hg, hok, hc⟩ := h3 (i + j) x hj
  injection hA with hA
  injection hA with e4 e5
  subst e4; subst e5
  refine ⟨g, o + i * R.sz, cs, by rw [had (by omega)], hz, hg, hok, fun q u hq => ?_⟩
  have := hc q u hq
  rwa [Nat.add_mul, ← Nat.add_assoc o] at this
/-- The cells of a slice that is read. -/
theorem SlR.cells {Z' : Nat → Prop} (hz : ∀ x cs, R.ok Z w x cs → R.ok Z' w x cs) : ∀ {ys : List α} {o n c : Nat}, SlR R Z w (.slice (some ⟨g, o, none⟩) n c) ys → ∃ news, Cells R Z' w ys news ∧ ∀ j u, news[j]? = some u → w.cell? ⟨g, o + j, none⟩ = some u
  | [], o, n, c, _ => ⟨[], rfl, fun j u h => by simp at h⟩
  | y :: ys, o, n, c, h => by
    have hd := h.dropN (i := 1) (by simp) (ad := ⟨g, o + 1 * R.sz, none⟩) (fun _ => rfl) (m := ys.length) (by simp)
    simp only [List.drop_succ_cons, List.drop_zero] at hd
    obtain ⟨A', c', e, h1, h2, h3⟩ := h
    injection e with e1 e2 e3
    subst e1
    obtain ⟨g', o', cs, hA, _, hg, hok, hc⟩ := h3 0 y (by simp)
    injection hA with hA
    injection hA with e4 e5
    subst e4; subst e5
    obtain ⟨r, hr, hrc⟩ := SlR.cells hz hd
    refine ⟨cs ++ r, ⟨cs, r, rfl, hz _ _ hok, hr⟩, fun j u hj => ?_⟩
    have hl := R.len hok
    rcases Nat.lt_or_ge j cs.length with hjl | hjl
    · rw [List.getElem?_append_left hjl] at hj
      have := hc j u hj
      rwa [Nat.zero_mul, Nat.add_zero] at this
    · rw [List.getElem?_append_right hjl] at hj
      have := hrc _ u hj
      rwa [Nat.one_mul, show o + R.sz + (j - cs.length) = o + j by omega] at this
end
section
variable {α : Type} {R : Rp α} {Z : Nat → Prop} {w : World} {xs ys : List α} {base : Nat} {e : TypeId} {v : Value} {A : Option Addr} {m c : Nat}
variable {ro : Option Nat} {P : Program} {Q : Exit → Act → World → Prop} {a : Act} {ops : Array Oper} {rest : List Oper} {d : Option Tmp} {ty : TypeId} {pos : String} {aft : Array Edge} {gd : Option (Nat × Bool)}
theorem app0 {t : TypeId} {s x : Operand} {n0 c0 : Nat} {A0 : Option Addr} (hs : a.eval s = .slice A0 n0 c0) (hx : a.eval x = .slice A 0 c) (ht : P.underlying t = some (.slice e)) (hinfo : (P.info? e).map (·.size) = some R.sz) (hle : n0 ≤ c0)
    (k : L ro P ops Q rest (a.put d (.slice A0 n0 c0)) w) : St ro P ops Q rest ⟨d, .call ⟨.builtin .append, #[s, x], #[t, t]⟩, ty, pos, aft, gd⟩ a w := by
  obtain ⟨i, hi, hsz⟩ := Option.map_eq_some_iff.1 hinfo
  refine St.val (v := .slice A0 n0 c0) (w' := w) ?_ k
  simp only [execOp, resolve, invoke, builtin, Sem.run_bind, Sem.run_pure, Result.andThen_ok, List.map_toArray, List.map_cons, List.map_nil, hs, hx]
  cases A <;> cases A0 <;> simp [Builtin.append_, Builtin.lenOf, Builtin.firstCells, loadCells, loadCellsFrom, storeCells, sizeOf, typeInfo, run_underlying ht, hi, Sem.run_bind, hle]
theorem appS {t : TypeId} {s x : Operand} {z : Value} {bytes : Nat} (hs : a.eval s = v) (hx : a.eval x = .slice A m c) (ht : P.underlying t = some (.slice e))
    (hinfo : (P.info? e).map (fun i => (i.zero, i.size, i.bytes)) = some (some z, R.sz, bytes)) (hzs : z.cells.size = R.sz) (hsz : 0 < R.sz) (hown : OwR R NoZ w base e v xs) (hS : SlR R Z w (.slice A m c) ys) (hz : ∀ x cs, R.ok Z w x cs → R.ok NoZ w x cs)
    (hbytes : (xs.length + ys.length) * bytes ≤ 140737488355328) (hb0 : 0 < bytes) (hbase : base ≤ w.heap.size)
    (k : ∀ A' c' w1, OwR R NoZ w1 base e (.slice A' (xs.length + ys.length) c') (xs ++ ys) → Fr (v.ownBlock.toList) w w1 → L ro P ops Q rest (a.put d (.slice A' (xs.length + ys.length) c')) w1) : St ro P ops Q rest ⟨d, .call ⟨.builtin .append, #[s, x], #[t, t]⟩, ty, pos, aft, gd⟩ a w := by
  obtain rfl : m = ys.length := by obtain ⟨A', c', e, _⟩ := hS; injection e with e1 e2 e3
  cases ys with
  | nil =>
    obtain ⟨i, hi, hzz⟩ := Option.map_eq_some_iff.1 hinfo
    simp only [Prod.mk.injEq] at hzz
    have hown' := hown
    obtain ⟨A0, c0, rfl⟩ := hown.slice
    have hle : xs.length ≤ c0 := by
      obtain ⟨cs, h1, _⟩ := hown'
      rcases h1.2 with ⟨he, h⟩ | ⟨g, cap, cur, he, _, _, hnc, _⟩
      · injection he; omega
      · injection he with e1 e2 e3; omega
    refine app0 (R := R) hs hx ht (by rw [hi]; exact congrArg some hzz.2.1) hle ?_
    have := k A0 c0 w
    rw [List.append_nil] at this
    exact this hown (Fr.refl _ _)
  | cons y ys =>
    obtain ⟨g, o, rfl, _, _⟩ := hS.addr (by simp)
    obtain ⟨news, h1, h2⟩ := hS.cells hz
    refine app hs ⟨g, o, none⟩ _ c hx ht hinfo hzs hsz hown rfl h1 (fun j u hj => ?_) hbytes hb0 hbase fun A' c' w1 ho hf _ => k A' c' w1 (ho.zone (fun _ _ q => q.1) (fun _ _ q => q)) hf
    rw [show (⟨g, o, none⟩ : Addr).add j = ⟨g, o + j, none⟩ by unfold Addr.add; split <;> simp_all]
    exact h2 j u hj
/-- An empty row. -/
theorem OwR.empty {g : Nat} (hB : Blk w g [] e) (hg : base ≤ g) : OwR R NoZ w base e (.slice (some ⟨g, 0, none⟩) 0 0) [] :=
  ⟨[], ⟨by simp, .inr ⟨g, 0, #[], rfl, hg, hB, Nat.le_refl _, Nat.zero_le _, by simp, by simp⟩⟩, rfl, fun b hb hz => hz⟩
theorem OwR.rebase {base' : Nat} (h : OwR R NoZ w base e v xs) (hb : base' ≤ base) : OwR R NoZ w base' e v xs := by
  obtain ⟨cs, h1, h2, h3⟩ := h
  refine ⟨cs, ⟨h1.1, ?_⟩, h2, h3⟩
  rcases h1.2 with h | ⟨g, cap, cur, he, hg, hr⟩
  · exact .inl h
  · exact .inr ⟨g, cap, cur, he, Nat.le_trans hb hg, hr⟩
end
section
variable {α : Type} {R : Rp α} {Z : Nat → Prop} {w : World} {xs : List α} {A : Option Addr} {n c : Nat}
/-- The first ones, wherever the slice lies. -/
theorem SlR.tk (h : SlR R Z w (.slice A n c) xs) {i : Nat} (hi : i ≤ xs.length) : SlR R Z w (.slice A i c) (xs.take i) := by
  obtain ⟨A', c', e, h1, h2, h3⟩ := h
  injection e with e1 e2 e3
  subst e1; subst e3
  refine ⟨_, _, by rw [List.length_take, Nat.min_eq_left hi], by rw [List.length_take]; omega, by rw [List.length_take]; omega, fun j x hj => ?_⟩
  rw [List.getElem?_take] at hj
  split at hj
  · exact h3 j x hj
  · cases hj
theorem SlR.old {v : Value} (h : SlR R Z w v xs) : SlR R (fun k => k < w.heap.size) w v xs := h.zone fun _ hb _ => hb
theorem SlR.tke (h : SlR R Z w (.slice A n c) xs) (i : Nat) : SlR R Z w (.slice A (xs.take i).length c) (xs.take i) := by
  rcases Nat.lt_or_ge xs.length i with hi | hi
  · rw [List.take_of_length_le (by omega)]
    obtain ⟨A', c', e, h1⟩ := h
    injection e with e1 e2 e3
    subst e1; subst e3
    exact ⟨_, _, rfl, h1⟩
  · have := h.tk hi
    rwa [show (xs.take i).length = i by rw [List.length_take]; omega]
def cutA (A : Option Addr) (l c sz : Nat) : Option Addr := if c = l then A else A.map (·.add (l * sz))
theorem SlR.dr (h : SlR R Z w (.slice A n c) xs) {i : Nat} (hi : i ≤ xs.length) : SlR R Z w (.slice (cutA A i c R.sz) (xs.length - i) (c - i)) (xs.drop i) := by
  obtain ⟨A', c', e, h1, h2, h3⟩ := h
  injection e with e1 e2 e3
  subst e1; subst e3
  refine ⟨_, c - i, by rw [List.length_drop], by rw [List.length_drop]; omega, by rw [List.length_drop]; omega, fun j x hj => ?_⟩
  rw [List.getElem?_drop] at hj
  obtain ⟨g, o, cs, hA, hZ, hg, hok, hc⟩ := h3 (i + j) x hj
  have hlt : i + j < xs.length := (List.getElem?_eq_some_iff.1 hj).1
  refine ⟨g, o + i * R.sz, cs, ?_, hZ, hg, hok, fun k u hk => ?_⟩
  · unfold cutA
    rw [if_neg (by omega), hA]
    have : (⟨g, o, none⟩ : Addr).add (i * R.sz) = ⟨g, o + i * R.sz, none⟩ := by unfold Addr.add; split <;> simp_all
    simp [this]
  · have := hc k u hk
    rwa [show o + (i + j) * R.sz + k = o + i * R.sz + j * R.sz + k by rw [Nat.add_mul]; omega] at this
theorem SlR.cp (h : SlR R Z w (.slice A n c) xs) : n = xs.length ∧ xs.length ≤ c := by
  obtain ⟨A', c', e, h1, h2, h3⟩ := h
  injection e with e1 e2 e3
  exact ⟨e2, by omega⟩
end
section
variable {P : Program} {w : World}
def sl1 (P : Program) (t : TypeId) : Option Nat := match P.underlying t with
  | some (.slice e) => (P.info? e).map (·.size)
  | _ => none
/-- A cut of a slice: from one number on, up to another. -/
def It.cut (A : Option Addr) (n c : Nat) (l h : Int) (sz : Nat) (hb : 0 ≤ l ∧ l ≤ h ∧ h ≤ c := by omega) : It P w where
  c R o := match o.op with
    | .slice t x lo hi none => .vs [opv R x, match lo with | some q => opv R q | none => some (.int .i64 0), match hi with | some q => opv R q | none => some (.int .i64 n)] (sl1 P t == some sz)
    | _ => .bad
  want := .vs [some (.slice A n c), some (.int .i64 l), some (.int .i64 h)] true
  x := .slice (cutA A l.toNat c sz) (h.toNat - l.toNat) (c - l.toNat)
  h := fun a R o he hk => by
    obtain ⟨d, op, ty, pos, aft, g⟩ := o
    cases op <;> simp only [reduceCtorEq] at hk
    case slice t x lo hi mx =>
      cases mx with
      | some _ => cases hk
      | none =>
        injection hk with h1 h2
        injection h1 with h1 h3
        injection h3 with h3 h4
        injection h4 with h4 _
        have hx := opv_eval he h1
        have ht : sl1 P t = some sz := by simpa using h2
        obtain ⟨ha, hb1, hc1⟩ := hb
        unfold sl1 at ht
        split at ht
        · rename_i e hte
          obtain ⟨i, hi', hsz⟩ := Option.map_eq_some_iff.1 ht
          have hbd : (Instr.sliceBounds true n c (lo.map a.eval) (hi.map a.eval) none).run P w = .ok (l.toNat, h.toNat, c) w := by
            have h5 : 0 ≤ h := by omega
            unfold Instr.sliceBounds
            cases hi with
            | none =>
              simp only [Option.some.injEq, Value.int.injEq, true_and] at h4
              subst h4
              cases lo with
              | none =>
                simp only [Option.some.injEq, Value.int.injEq, true_and] at h3
                subst h3
                simp [Sem.run_bind]
              | some q =>
                have hq := opv_eval he h3
                simp [Sem.run_bind, hq, Instr.sliceBound, asIntOf, ha, hb1]
            | some p =>
              have hp := opv_eval he h4
              cases lo with
              | none =>
                simp only [Option.some.injEq, Value.int.injEq, true_and] at h3
                subst h3
                simp [Sem.run_bind, hp, Instr.sliceBound, asIntOf, h5, hc1]
              | some q =>
                have hq := opv_eval he h3
                simp [Sem.run_bind, hp, hq, Instr.sliceBound, asIntOf, h5, hc1, ha]
                intro hlt
                omega
          simp only [execOp, hx]
          unfold Instr.sliceAt
          simp only [Sem.run_bind, run_underlying hte, Result.andThen_ok, Option.map_none]
          unfold Instr.slice
          simp only [Sem.run_bind, run_underlying hte, Result.andThen_ok]
          rw [hbd]
          simp only [Result.andThen_ok, sizeOf, typeInfo, run_program, Sem.run_bind, hi', hsz, Sem.run_pure, cutA]
        · cases ht
theorem cutA_zero (A : Option Addr) (c sz : Nat) : cutA A 0 c sz = A := by
  unfold cutA
  split
  · rfl
  · cases A <;> simp [Addr.add]
/-- .. from the first on. -/
def It.cut0 (A : Option Addr) (n c : Nat) (h : Int) (m sz : Nat) (hb : 0 ≤ h ∧ h ≤ c ∧ h = m := by omega) : It P w :=
  let i : It P w := .cut A n c 0 h sz ⟨by omega, by omega, by omega⟩
  { c := i.c, want := i.want, x := .slice A m c, h := fun a R o he hc => by
      have := i.h a R o he hc
      rw [this]
      show Result.ok (Next.value (.slice (cutA A (0 : Int).toNat c sz) (h.toNat - (0 : Int).toNat) (c - (0 : Int).toNat))) w = _
      rw [Int.toNat_zero, cutA_zero, Nat.sub_zero, Nat.sub_zero, hb.2.2, Int.toNat_natCast] }
/-- .. from one on, to the end. -/
def It.cutE (A : Option Addr) (n c : Nat) (l : Int) (m sz : Nat) (hb : l = m ∧ m ≤ n ∧ n ≤ c := by omega) : It P w :=
  let i : It P w := .cut A n c l n sz ⟨by omega, by omega, by omega⟩
  { c := i.c, want := i.want, x := .slice (cutA A m c sz) (n - m) (c - m), h := fun a R o he hc => by
      have := i.h a R o he hc
      rw [this]
      show Result.ok (Next.value (.slice (cutA A l.toNat c sz) ((n : Int).toNat - l.toNat) (c - l.toNat))) w = _
      rw [hb.1, Int.toNat_natCast, Int.toNat_natCast] }
end
/-! ### Texts of one's own -/
section
variable {w w1 : World} {base g n c : Nat} {e : TypeId} {l l' : List ByteArray}
theorem cells_str {Z : Nat → Prop} : ∀ {l : List ByteArray} {cs : List Value}, Cells Rp.str Z w l cs ↔ cs = l.map Value.string
  | [], cs => Iff.rfl
  | x :: l, cs => by
    constructor
    · rintro ⟨c, r, rfl, hc, hr⟩
      have hc' : c = [.string x] := hc
      rw [hc', (cells_str (Z := Z) (l := l)).1 hr]
      rfl
    · rintro rfl
      exact ⟨[.string x], l.map Value.string, rfl, rfl, (cells_str (Z := Z) (l := l)).2 rfl⟩
theorem OwR.mkS {cur : List Value} (hB : Blk w g cur e) (hc : cur.length = c) (hn : l.length ≤ c) (hcm : c ≤ maxLen) (hg : base ≤ g) (ht : cur.take l.length = l.map Value.string) : OwR Rp.str NoZ w base e (.slice (some ⟨g, 0, none⟩) l.length c) l := by
  have hsz : Rp.str.sz = 1 := rfl
  refine ⟨l.map Value.string, ⟨by rw [hsz]; simp, .inr ⟨g, c, cur.toArray, rfl, hg, hB, hn, hcm, by rw [hsz]; simpa using hc, by rw [hsz, Nat.mul_one]; simpa using ht⟩⟩, cells_str.2 rfl, fun b _ hz => hz⟩
variable {ro : Option Nat} {P : Program} {Q : Exit → Act → World → Prop} {a : Act} {ops : Array Oper} {rest : List Oper} {ty : TypeId} {pos : String} {aft : Array Edge} {gd : Option (Nat × Bool)}
theorem OwR.is {v : Value} (h : OwR Rp.str NoZ w base e v l) : SlR Rp.str (fun _ => True) w v l := h.read (fun _ _ _ => trivial) (fun _ _ _ => trivial)
end
end Go.V
end
section
namespace Go.V
open Go.Plan (wpL)
open Go.RowKit Go.Base
set_option linter.unusedVariables false
section
variable {P : Program}
theorem run_part {w : World} {t : TypeId} {cs : Array Value} {o : Nat} {v : Value} (h : scalar P t = true) (hv : cs[o]? = some v) : (part t cs o).run P w = .ok v w := by
  unfold part
  rw [Sem.run_bind, isAgg_scalar h]
  simp [hv]
def intT (P : Program) (t : TypeId) : Bool := match P.underlying t with
  | some (.int _) => true
  | _ => false
section
variable {ro : Option Nat} {Q : Exit → Act → World → Prop} {a : Act} {w : World} {ops : Array Oper} {rest : List Oper} {d : Option Tmp} {ty : TypeId} {pos : String} {aft : Array Edge} {g : Option (Nat × Bool)}
end
end
end Go.V
end
section
namespace Go.Proofs.YtdebkbfnngkdlaaGreatDoor
open Go.V Go.Base
open Go.RowKit (Below)
attribute [local irreducible] Act.put Act.eval
set_option linter.unusedVariables false
set_option linter.unusedSimpArgs false
set_option maxHeartbeats 4000000
set_option maxRecDepth 20000
/-! ### What may be in a store: by places -/
noncomputable def bP (p : Prop) : Bool := @decide p (Classical.propDecidable p)
theorem bP_yes {p : Prop} (h : p) : true = bP p := by unfold bP; exact (@decide_eq_true p (Classical.propDecidable p) h).symm
theorem bP_no {p : Prop} (h : ¬ p) : false = bP p := by unfold bP; exact (@decide_eq_false p (Classical.propDecidable p) h).symm
theorem bP_dec {p : Prop} [Decidable p] : decide p = bP p := by
  by_cases h : p
  · rw [decide_eq_true h]; exact bP_yes h
  · rw [decide_eq_false h]; exact bP_no h
/-- All places are good. -/
def AllG (G : Nat → Prop) (n : Nat) : Prop := ∀ i, i < n → G i
theorem AllG.zero (G : Nat → Prop) : AllG G 0 := fun i hi => absurd hi (by omega)
theorem AllG.step {G : Nat → Prop} {n : Nat} (h : AllG G n) (hg : G n) : AllG G (n + 1) := fun i hi => by
  rcases Nat.lt_or_ge i n with h1 | h1
  · exact h i h1
  · obtain rfl : i = n := by omega
    exact hg
theorem AllG.le {G : Nat → Prop} {n m : Nat} (h : AllG G n) (hm : m ≤ n) : AllG G m := fun i hi => h i (by omega)
theorem AllG.no {G : Nat → Prop} {n i : Nat} (hi : i < n) (hg : ¬ G i) : ¬ AllG G n := fun h => hg (h i hi)
def scR : Rp (ByteArray × Int) := Rp.flat (⟨#[]⟩, 0) 2 (fun x => [.string x.1, .int .i64 x.2]) (fun _ => rfl) (fun x u hu => by simp at hu; rcases hu with rfl | rfl <;> rfl)
def fdR : Rp (ByteArray × ByteArray) := Rp.flat (⟨#[]⟩, ⟨#[]⟩) 2 (fun x => [.string x.1, .string x.2]) (fun _ => rfl) (fun x u hu => by simp at hu; rcases hu with rfl | rfl <;> rfl)
def gT (l : List ByteArray) (r : Bool) (i : Nat) : Prop := (at_ Rp.str l (i : Int)).size ≤ 65536 ∧ (r = true → 0 < i → slt (at_ Rp.str l ((i : Int) - 1)) (at_ Rp.str l (i : Int)))
def gF (l : List (ByteArray × ByteArray)) (i : Nat) : Prop := (at_ fdR l (i : Int)).1.size ≤ 65536 ∧ (at_ fdR l (i : Int)).2.size ≤ 65536 ∧ (0 < i → slt (at_ fdR l ((i : Int) - 1)).1 (at_ fdR l (i : Int)).1)
def ahd (x y : ByteArray × Int) : Prop := x.2 < y.2 ∨ (x.2 = y.2 ∧ slt x.1 y.1)
instance (x y : ByteArray × Int) : Decidable (ahd x y) := inferInstanceAs (Decidable (_ ∨ _))
def gM (l : List (ByteArray × Int)) (i : Nat) : Prop := (at_ scR l (i : Int)).1.size ≤ 65536 ∧ (0 < i → ahd (at_ scR l ((i : Int) - 1)) (at_ scR l (i : Int)))
theorem rsized_any (w : World) (n : Int) : Calls Tryz.prog 104 #[.int .i64 n] w (fun e w' => e = .returned (.bool (bP (1 ≤ n ∧ n ≤ 65536))) ∧ Fr [] w w') := by
 have hF := Fr.refl [] w
 refine V.en 9 Tryz.func104 fun a h1 => ?_
 refine V.sr h1 [] 2 2 [] fun a h4 => ?_
 refine V.sg fun K5 k6 => ?_
 refine V.run h4 [] 3 3 4 [(5, .bool (decide (n ≥ 1)))] fun a h7 => ?_
 by_cases hg8 : n ≥ 1
 ·
  have h9 := h7.kt 5 hg8
  refine V.re h9 [] 6 8 [(2, .bool (decide (n ≤ 65536)))] fun a h10 => k6 _ _ ?_
  refine V.ret ?_
  refine V.r1 h10 (.bool (decide (n ≤ 65536))) ?_
  exact ⟨congrArg (fun b => Ending.returned (Value.bool b)) (bP_dec.trans (congrArg bP (propext ⟨fun h => by omega, fun h => by omega⟩))), hF⟩
 ·
  have h11 := h7.kf 5 hg8
  refine V.re h11 [] 6 8 [(2, .bool false)] fun a h12 => k6 _ _ ?_
  refine V.ret ?_
  refine V.r1 h12 (.bool false) ?_
  exact ⟨congrArg (fun b => Ending.returned (Value.bool b)) (bP_no (by omega)), hF⟩
theorem sized_any (w : World) (n : Int) : Calls Tryz.prog 97 #[.int .i64 n] w (fun e w' => e = .returned (.bool (bP (1 ≤ n ∧ n ≤ 65536))) ∧ Fr [] w w') := by
 have hF := Fr.refl [] w
 refine V.en 9 Tryz.func97 fun a h1 => ?_
 refine V.sr h1 [] 2 2 [] fun a h4 => ?_
 refine V.sg fun K5 k6 => ?_
 refine V.run h4 [] 3 3 4 [(5, .bool (decide (n ≥ 1)))] fun a h7 => ?_
 by_cases hg8 : n ≥ 1
 ·
  have h9 := h7.kt 5 hg8
  refine V.re h9 [] 6 8 [(2, .bool (decide (n ≤ 65536)))] fun a h10 => k6 _ _ ?_
  refine V.ret ?_
  refine V.r1 h10 (.bool (decide (n ≤ 65536))) ?_
  exact ⟨congrArg (fun b => Ending.returned (Value.bool b)) (bP_dec.trans (congrArg bP (propext ⟨fun h => by omega, fun h => by omega⟩))), hF⟩
 ·
  have h11 := h7.kf 5 hg8
  refine V.re h11 [] 6 8 [(2, .bool false)] fun a h12 => k6 _ _ ?_
  refine V.ret ?_
  refine V.r1 h12 (.bool false) ?_
  exact ⟨congrArg (fun b => Ending.returned (Value.bool b)) (bP_no (by omega)), hF⟩
theorem rtexts_false (w : World) (Al : Option Addr) (cl : Nat) (l : List ByteArray) (hSl : SlR Rp.str (fun k => k < w.heap.size) w (.slice Al l.length cl) l) : Calls Tryz.prog 105 #[.slice Al l.length cl, .bool false] w (fun e w' => e = .returned (.bool (bP (AllG (gT l false) l.length))) ∧ Fr [] w w') := by
 have hF := Fr.refl [] w
 have hlen0 := hSl.len_le
 refine V.en 37 Tryz.func105 fun a h1 => ?_
 refine V.sr h1 [] 4 4 [] fun a h4 => ?_
 refine V.seq fun K5 k6 => ?_
 refine V.sr h4 [] 1 0 [(5, .int .i64 0)] fun a h9 => ?_
 refine V.block ?_
 refine V.loop1 (fun (i : Nat) a_ w_ => En 37 [] a_ [(0, .slice Al l.length cl), (1, .bool false), (5, .int .i64 (i : Int))] ∧ Fr [] w w_ ∧ SlR Rp.str (fun k => k < w.heap.size) w_ (.slice Al l.length cl) l ∧ (i ≤ l.length) ∧ (AllG (gT l false) i)) (fun (i : Nat) => l.length - i) 0 ?_ ?_
 ·
  refine ⟨(h9.eq 5 (v := (.int .i64 0)) (u := (.int .i64 (0 : Int))) (V.int_eq (by omega))).only _, hF, hSl, (by omega), (AllG.zero _)⟩
 ·
  rintro i a10 w11 ⟨h12, hF_13, hSl_14, hi, hG⟩
  have hfs15 := hF_13.size
  refine V.seq fun K16 k17 => ?_
  refine V.sr h12 [] 6 8 [(9, .bool (decide ((i : Int) < ((l.length : Nat) : Int))))] fun a h20 => ?_
  refine V.cp h20 ((i : Int) < ((l.length : Nat) : Int)) (fun ht21 => ?_) (fun ht21 => ?_)
  ·
   refine V.skip ?_
   refine V.then_n (k17 _ _ ?_)
   refine V.seq fun K22 k23 => ?_
   refine V.block ?_
   refine V.seq fun K24 k25 => ?_
   refine V.pl [([0,1,2,3,4,5,6,7,8,9,10,11,12,13,14,15,16,17,18,19,20,21,22,23,24],none)] fun w26 hF27 hsw26 => ?_
   have hF_28 := hF_13.new hF27
   have hSl_29 := hSl_14.fr0 hF27
   obtain ⟨g30, o31, hA32, hA32l, hA32z⟩ := hSl_29.addr (by omega)
   obtain ⟨cs33, hok34, hE35⟩ := hSl_29.els hA32 (i : Int) (by omega) (by omega)
   obtain rfl : cs33 = [.string (at_ Rp.str l (i : Int))] := hok34
   refine V.pz0 ?_
   refine V.run h20 [(2, .ix g30 o31 l.length cl .i64 (i : Int) 1 hA32), (0, .l ⟨g30, o31 + (i : Int).toNat * 1, none⟩ (.string (at_ Rp.str l (i : Int))) (hE35.at 0 rfl))] 7 12 17 [(15, .string (at_ Rp.str l (i : Int))), (16, .int .i64 ((at_ Rp.str l (i : Int)).size : Int)), (18, .bool (decide (((at_ Rp.str l (i : Int)).size : Int) > 65536)))] fun a h36 => ?_
   by_cases hg37 : ((at_ Rp.str l (i : Int)).size : Int) > 65536
   ·
    have h38 := h36.kt 18 hg37
    refine V.se h38 [] 19 35 [(20, undef), (21, undef), (24, undef), (26, undef), (29, undef), (33, undef), (36, .bool true)] fun a h39 => k25 _ _ ?_
    refine V.ct h39 ?_
    refine V.sr h39 [] 1 0 [(4, .bool false)] fun a h42 => ?_
    refine V.ret (V.blk_r (V.then_r (V.then_r (V.blk_r (V.then_r ?_)))))
    refine V.r1 h42 (.bool false) ?_
    exact ⟨congrArg (fun b => Ending.returned (Value.bool b)) (bP_no (AllG.no (i := i) (by omega) (fun hg => by unfold gT at hg; first | omega | (have h1 := hg.2; first | omega | (exact absurd (h1 (by omega)) (by assumption)) | (exact absurd (h1 rfl (by omega)) (by assumption)) | (have h2 := h1.2; exact absurd (h2 (by omega)) (by assumption)) | (have h2 := hg.2.2; exact absurd (h2 (by omega)) (by assumption)))))), hF_28⟩
   ·
    have h43 := h36.kf 18 hg37
    refine V.se h43 [] 19 35 [(20, .bool false), (21, undef), (24, .bool false), (26, undef), (29, undef), (33, undef), (36, .bool false)] fun a h44 => k25 _ _ ?_
    refine V.cf h44 ?_
    refine V.skip (V.blk_n ?_)
    refine V.then_n (k23 _ _ ?_)
    refine V.rr h44 [(1, .i ((i : Int) + 1))] 10 11 [(5, .int .i64 ((i : Int) + 1))] fun a h45 => ?_
    refine V.then_n ?_
    refine ⟨i + 1, by omega, ?_⟩
    refine ⟨(h45.eq 5 (v := (.int .i64 ((i : Int) + 1))) (u := (.int .i64 ((i + 1) : Int))) (V.int_eq (by omega))).only _, hF_28, hSl_29, (by omega), (hG.step (by unfold gT; exact ⟨by omega, fun h => by cases h⟩))⟩
  ·
   refine V.exit (V.then_e (V.then_e (V.blk_hit ?_)))
   refine V.then_n (k6 _ _ ?_)
   refine V.sr h20 [] 1 0 [(4, .bool true)] fun a h48 => ?_
   refine V.ret ?_
   refine V.r1 h48 (.bool true) ?_
   exact ⟨congrArg (fun b => Ending.returned (Value.bool b)) (bP_yes (hG.le (by omega))), hF_13⟩
theorem rtexts_true (w : World) (Al : Option Addr) (cl : Nat) (l : List ByteArray) (hSl : SlR Rp.str (fun k => k < w.heap.size) w (.slice Al l.length cl) l) : Calls Tryz.prog 105 #[.slice Al l.length cl, .bool true] w (fun e w' => e = .returned (.bool (bP (AllG (gT l true) l.length))) ∧ Fr [] w w') := by
 have hF := Fr.refl [] w
 have hlen0 := hSl.len_le
 refine V.en 37 Tryz.func105 fun a h1 => ?_
 refine V.sr h1 [] 4 4 [] fun a h4 => ?_
 refine V.seq fun K5 k6 => ?_
 refine V.sr h4 [] 1 0 [(5, .int .i64 0)] fun a h9 => ?_
 refine V.block ?_
 refine V.loop1 (fun (i : Nat) a_ w_ => En 37 [] a_ [(0, .slice Al l.length cl), (1, .bool true), (5, .int .i64 (i : Int))] ∧ Fr [] w w_ ∧ SlR Rp.str (fun k => k < w.heap.size) w_ (.slice Al l.length cl) l ∧ (i ≤ l.length) ∧ (AllG (gT l true) i)) (fun (i : Nat) => l.length - i) 0 ?_ ?_
 ·
  refine ⟨(h9.eq 5 (v := (.int .i64 0)) (u := (.int .i64 (0 : Int))) (V.int_eq (by omega))).only _, hF, hSl, (by omega), (AllG.zero _)⟩
 ·
  rintro i a10 w11 ⟨h12, hF_13, hSl_14, hi, hG⟩
  have hfs15 := hF_13.size
  refine V.seq fun K16 k17 => ?_
  refine V.sr h12 [] 6 8 [(9, .bool (decide ((i : Int) < ((l.length : Nat) : Int))))] fun a h20 => ?_
  refine V.cp h20 ((i : Int) < ((l.length : Nat) : Int)) (fun ht21 => ?_) (fun ht21 => ?_)
  ·
   refine V.skip ?_
   refine V.then_n (k17 _ _ ?_)
   refine V.seq fun K22 k23 => ?_
   refine V.block ?_
   refine V.seq fun K24 k25 => ?_
   refine V.pl [([0,1,2,3,4,5,6,7,8,9,10,11,12,13,14,15,16,17,18,19,20,21,22,23,24],none)] fun w26 hF27 hsw26 => ?_
   have hF_28 := hF_13.new hF27
   have hSl_29 := hSl_14.fr0 hF27
   obtain ⟨g30, o31, hA32, hA32l, hA32z⟩ := hSl_29.addr (by omega)
   obtain ⟨cs33, hok34, hE35⟩ := hSl_29.els hA32 (i : Int) (by omega) (by omega)
   obtain rfl : cs33 = [.string (at_ Rp.str l (i : Int))] := hok34
   refine V.pz0 ?_
   refine V.run h20 [(2, .ix g30 o31 l.length cl .i64 (i : Int) 1 hA32), (0, .l ⟨g30, o31 + (i : Int).toNat * 1, none⟩ (.string (at_ Rp.str l (i : Int))) (hE35.at 0 rfl))] 7 12 17 [(15, .string (at_ Rp.str l (i : Int))), (16, .int .i64 ((at_ Rp.str l (i : Int)).size : Int)), (18, .bool (decide (((at_ Rp.str l (i : Int)).size : Int) > 65536)))] fun a h36 => ?_
   by_cases hg37 : ((at_ Rp.str l (i : Int)).size : Int) > 65536
   ·
    have h38 := h36.kt 18 hg37
    refine V.se h38 [] 19 35 [(20, undef), (21, undef), (24, undef), (26, undef), (29, undef), (33, undef), (36, .bool true)] fun a h39 => k25 _ _ ?_
    refine V.ct h39 ?_
    refine V.sr h39 [] 1 0 [(4, .bool false)] fun a h42 => ?_
    refine V.ret (V.blk_r (V.then_r (V.then_r (V.blk_r (V.then_r ?_)))))
    refine V.r1 h42 (.bool false) ?_
    exact ⟨congrArg (fun b => Ending.returned (Value.bool b)) (bP_no (AllG.no (i := i) (by omega) (fun hg => by unfold gT at hg; first | omega | (have h1 := hg.2; first | omega | (exact absurd (h1 (by omega)) (by assumption)) | (exact absurd (h1 rfl (by omega)) (by assumption)) | (have h2 := h1.2; exact absurd (h2 (by omega)) (by assumption)) | (have h2 := hg.2.2; exact absurd (h2 (by omega)) (by assumption)))))), hF_28⟩
   ·
    have h43 := h36.kf 18 hg37
    refine V.run h43 [] 6 19 23 [(20, .bool true), (21, .int .i64 (i : Int)), (24, .bool (decide ((i : Int) > 0)))] fun a h44 => ?_
    by_cases hg45 : (i : Int) > 0
    ·
     have h46 := h44.kt 24 hg45
     obtain ⟨cs47, hok48, hE49⟩ := hSl_29.els hA32 ((i : Int) - 1) (by omega) (by omega)
     obtain rfl : cs47 = [.string (at_ Rp.str l ((i : Int) - 1))] := hok48
     refine V.se h46 [(2, .i ((i : Int) - 1)), (0, .ix g30 o31 l.length cl .i64 ((i : Int) - 1) 1 hA32), (0, .l ⟨g30, o31 + ((i : Int) - 1).toNat * 1, none⟩ (.string (at_ Rp.str l ((i : Int) - 1))) (hE49.at 0 rfl)), (2, .ix g30 o31 l.length cl .i64 (i : Int) 1 hA32), (0, .l ⟨g30, o31 + (i : Int).toNat * 1, none⟩ (.string (at_ Rp.str l (i : Int))) (hE35.at 0 rfl)), (0, .q (.bool (decide (¬ slt (at_ Rp.str l ((i : Int) - 1)) (at_ Rp.str l (i : Int))))) V.t_sgeq)] 25 35 [(26, .int .i64 (i : Int)), (29, .string (at_ Rp.str l ((i : Int) - 1))), (33, .string (at_ Rp.str l (i : Int))), (36, .bool (decide (¬ slt (at_ Rp.str l ((i : Int) - 1)) (at_ Rp.str l (i : Int)))))] fun a h50 => k25 _ _ ?_
     refine V.cp h50 (¬ slt (at_ Rp.str l ((i : Int) - 1)) (at_ Rp.str l (i : Int))) (fun ht51 => ?_) (fun ht51 => ?_)
     ·
      refine V.sr h50 [] 1 0 [(4, .bool false)] fun a h54 => ?_
      refine V.ret (V.blk_r (V.then_r (V.then_r (V.blk_r (V.then_r ?_)))))
      refine V.r1 h54 (.bool false) ?_
      exact ⟨congrArg (fun b => Ending.returned (Value.bool b)) (bP_no (AllG.no (i := i) (by omega) (fun hg => by unfold gT at hg; first | omega | (have h1 := hg.2; first | omega | (exact absurd (h1 (by omega)) (by assumption)) | (exact absurd (h1 rfl (by omega)) (by assumption)) | (have h2 := h1.2; exact absurd (h2 (by omega)) (by assumption)) | (have h2 := hg.2.2; exact absurd (h2 (by omega)) (by assumption)))))), hF_28⟩
     ·
      refine V.skip (V.blk_n ?_)
      refine V.then_n (k23 _ _ ?_)
      refine V.rr h50 [(1, .i ((i : Int) + 1))] 10 11 [(5, .int .i64 ((i : Int) + 1))] fun a h55 => ?_
      refine V.then_n ?_
      refine ⟨i + 1, by omega, ?_⟩
      refine ⟨(h55.eq 5 (v := (.int .i64 ((i : Int) + 1))) (u := (.int .i64 ((i + 1) : Int))) (V.int_eq (by omega))).only _, hF_28, hSl_29, (by omega), (hG.step (by unfold gT; exact ⟨by omega, fun _ h0 => by first | omega | exact Decidable.of_not_not (by assumption) | assumption⟩))⟩
    ·
     have h56 := h44.kf 24 hg45
     refine V.se h56 [] 25 35 [(26, undef), (29, undef), (33, undef), (36, .bool false)] fun a h57 => k25 _ _ ?_
     refine V.cf h57 ?_
     refine V.skip (V.blk_n ?_)
     refine V.then_n (k23 _ _ ?_)
     refine V.rr h57 [(1, .i ((i : Int) + 1))] 10 11 [(5, .int .i64 ((i : Int) + 1))] fun a h58 => ?_
     refine V.then_n ?_
     refine ⟨i + 1, by omega, ?_⟩
     refine ⟨(h58.eq 5 (v := (.int .i64 ((i : Int) + 1))) (u := (.int .i64 ((i + 1) : Int))) (V.int_eq (by omega))).only _, hF_28, hSl_29, (by omega), (hG.step (by unfold gT; exact ⟨by omega, fun _ h0 => by first | omega | exact Decidable.of_not_not (by assumption) | assumption⟩))⟩
  ·
   refine V.exit (V.then_e (V.then_e (V.blk_hit ?_)))
   refine V.then_n (k6 _ _ ?_)
   refine V.sr h20 [] 1 0 [(4, .bool true)] fun a h61 => ?_
   refine V.ret ?_
   refine V.r1 h61 (.bool true) ?_
   exact ⟨congrArg (fun b => Ending.returned (Value.bool b)) (bP_yes (hG.le (by omega))), hF_13⟩
theorem rfields_any (w : World) (Al : Option Addr) (cl : Nat) (l : List (ByteArray × ByteArray)) (hSl : SlR fdR (fun k => k < w.heap.size) w (.slice Al l.length cl) l) : Calls Tryz.prog 107 #[.slice Al l.length cl] w (fun e w' => e = .returned (.bool (bP (AllG (gF l) l.length))) ∧ Fr [] w w') := by
 have hF := Fr.refl [] w
 have hlen0 := hSl.len_le
 refine V.en 44 Tryz.func107 fun a h1 => ?_
 refine V.sr h1 [] 2 2 [] fun a h4 => ?_
 refine V.seq fun K5 k6 => ?_
 refine V.sr h4 [] 1 0 [(3, .int .i64 0)] fun a h9 => ?_
 refine V.block ?_
 refine V.loop1 (fun (i : Nat) a_ w_ => En 44 [] a_ [(0, .slice Al l.length cl), (3, .int .i64 (i : Int))] ∧ Fr [] w w_ ∧ SlR fdR (fun k => k < w.heap.size) w_ (.slice Al l.length cl) l ∧ (i ≤ l.length) ∧ (AllG (gF l) i)) (fun (i : Nat) => l.length - i) 0 ?_ ?_
 ·
  refine ⟨(h9.eq 3 (v := (.int .i64 0)) (u := (.int .i64 (0 : Int))) (V.int_eq (by omega))).only _, hF, hSl, (by omega), (AllG.zero _)⟩
 ·
  rintro i a10 w11 ⟨h12, hF_13, hSl_14, hi, hG⟩
  have hfs15 := hF_13.size
  refine V.seq fun K16 k17 => ?_
  refine V.sr h12 [] 4 6 [(7, .bool (decide ((i : Int) < ((l.length : Nat) : Int))))] fun a h20 => ?_
  refine V.cp h20 ((i : Int) < ((l.length : Nat) : Int)) (fun ht21 => ?_) (fun ht21 => ?_)
  ·
   refine V.skip ?_
   refine V.then_n (k17 _ _ ?_)
   refine V.seq fun K22 k23 => ?_
   refine V.block ?_
   refine V.seq fun K24 k25 => ?_
   refine V.pl [([0,1,2,3,4,5,6,7,8,9,10,11,12,13,14,15,16,17,18,19,20,21,22,23,24,25,26,27,28,29,30,31,32,33],none)] fun w26 hF27 hsw26 => ?_
   have hF_28 := hF_13.new hF27
   have hSl_29 := hSl_14.fr0 hF27
   obtain ⟨g30, o31, hA32, hA32l, hA32z⟩ := hSl_29.addr (by omega)
   obtain ⟨cs33, hok34, hE35⟩ := hSl_29.els hA32 (i : Int) (by omega) (by omega)
   obtain rfl : cs33 = [.string (at_ fdR l (i : Int)).1, .string (at_ fdR l (i : Int)).2] := hok34
   refine V.pz0 ?_
   refine V.run h20 [(2, .ix g30 o31 l.length cl .i64 (i : Int) 2 hA32), (1, .l ⟨g30, o31 + (i : Int).toNat * 2, none⟩ (.string ((at_ fdR l (i : Int)).1)) (hE35.at 0 rfl))] 8 10 16 [(14, .string ((at_ fdR l (i : Int)).1)), (15, .int .i64 (((at_ fdR l (i : Int)).1).size : Int)), (17, .bool (decide ((((at_ fdR l (i : Int)).1).size : Int) > 65536)))] fun a h36 => ?_
   by_cases hg37 : (((at_ fdR l (i : Int)).1).size : Int) > 65536
   ·
    have h38 := h36.kt 17 hg37
    refine V.se h38 [] 18 42 [(22, undef), (23, undef), (26, .bool true), (27, undef), (29, undef), (31, undef), (35, undef), (40, undef), (43, .bool true)] fun a h39 => k25 _ _ ?_
    refine V.ct h39 ?_
    refine V.sr h39 [] 1 0 [(2, .bool false)] fun a h42 => ?_
    refine V.ret (V.blk_r (V.then_r (V.then_r (V.blk_r (V.then_r ?_)))))
    refine V.r1 h42 (.bool false) ?_
    exact ⟨congrArg (fun b => Ending.returned (Value.bool b)) (bP_no (AllG.no (i := i) (by omega) (fun hg => by unfold gF at hg; first | omega | (have h1 := hg.2; first | omega | (exact absurd (h1 (by omega)) (by assumption)) | (exact absurd (h1 rfl (by omega)) (by assumption)) | (have h2 := h1.2; exact absurd (h2 (by omega)) (by assumption)) | (have h2 := hg.2.2; exact absurd (h2 (by omega)) (by assumption)))))), hF_28⟩
   ·
    have h43 := h36.kf 17 hg37
    refine V.run h43 [(2, .ix g30 o31 l.length cl .i64 (i : Int) 2 hA32), (1, .l ⟨g30, (o31 + (i : Int).toNat * 2) + 1, none⟩ (.string ((at_ fdR l (i : Int)).2)) (hE35.at 1 rfl))] 9 18 25 [(22, .string ((at_ fdR l (i : Int)).2)), (23, .int .i64 (((at_ fdR l (i : Int)).2).size : Int)), (26, .bool (decide ((((at_ fdR l (i : Int)).2).size : Int) > 65536)))] fun a h44 => ?_
    by_cases hg45 : (((at_ fdR l (i : Int)).2).size : Int) > 65536
    ·
     have h46 := h44.kt 26 hg45
     refine V.se h46 [] 28 42 [(27, undef), (29, undef), (31, undef), (35, undef), (40, undef), (43, .bool true)] fun a h47 => k25 _ _ ?_
     refine V.ct h47 ?_
     refine V.sr h47 [] 1 0 [(2, .bool false)] fun a h50 => ?_
     refine V.ret (V.blk_r (V.then_r (V.then_r (V.blk_r (V.then_r ?_)))))
     refine V.r1 h50 (.bool false) ?_
     exact ⟨congrArg (fun b => Ending.returned (Value.bool b)) (bP_no (AllG.no (i := i) (by omega) (fun hg => by unfold gF at hg; first | omega | (have h1 := hg.2; first | omega | (exact absurd (h1 (by omega)) (by assumption)) | (exact absurd (h1 rfl (by omega)) (by assumption)) | (have h2 := h1.2; exact absurd (h2 (by omega)) (by assumption)) | (have h2 := hg.2.2; exact absurd (h2 (by omega)) (by assumption)))))), hF_28⟩
    ·
     have h51 := h44.kf 26 hg45
     refine V.run h51 [] 3 28 28 [(27, .int .i64 (i : Int)), (29, .bool (decide ((i : Int) > 0)))] fun a h52 => ?_
     by_cases hg53 : (i : Int) > 0
     ·
      have h54 := h52.kt 29 hg53
      obtain ⟨cs55, hok56, hE57⟩ := hSl_29.els hA32 ((i : Int) - 1) (by omega) (by omega)
      obtain rfl : cs55 = [.string (at_ fdR l ((i : Int) - 1)).1, .string (at_ fdR l ((i : Int) - 1)).2] := hok56
      refine V.se h54 [(2, .i ((i : Int) - 1)), (0, .ix g30 o31 l.length cl .i64 ((i : Int) - 1) 2 hA32), (1, .l ⟨g30, o31 + ((i : Int) - 1).toNat * 2, none⟩ (.string ((at_ fdR l ((i : Int) - 1)).1)) (hE57.at 0 rfl)), (2, .ix g30 o31 l.length cl .i64 (i : Int) 2 hA32), (1, .l ⟨g30, o31 + (i : Int).toNat * 2, none⟩ (.string ((at_ fdR l (i : Int)).1)) (hE35.at 0 rfl)), (0, .q (.bool (decide (¬ slt ((at_ fdR l ((i : Int) - 1)).1) ((at_ fdR l (i : Int)).1)))) V.t_sgeq)] 30 42 [(31, .int .i64 (i : Int)), (35, .string ((at_ fdR l ((i : Int) - 1)).1)), (40, .string ((at_ fdR l (i : Int)).1)), (43, .bool (decide (¬ slt ((at_ fdR l ((i : Int) - 1)).1) ((at_ fdR l (i : Int)).1))))] fun a h58 => k25 _ _ ?_
      refine V.cp h58 (¬ slt ((at_ fdR l ((i : Int) - 1)).1) ((at_ fdR l (i : Int)).1)) (fun ht59 => ?_) (fun ht59 => ?_)
      ·
       refine V.sr h58 [] 1 0 [(2, .bool false)] fun a h62 => ?_
       refine V.ret (V.blk_r (V.then_r (V.then_r (V.blk_r (V.then_r ?_)))))
       refine V.r1 h62 (.bool false) ?_
       exact ⟨congrArg (fun b => Ending.returned (Value.bool b)) (bP_no (AllG.no (i := i) (by omega) (fun hg => by unfold gF at hg; first | omega | (have h1 := hg.2; first | omega | (exact absurd (h1 (by omega)) (by assumption)) | (exact absurd (h1 rfl (by omega)) (by assumption)) | (have h2 := h1.2; exact absurd (h2 (by omega)) (by assumption)) | (have h2 := hg.2.2; exact absurd (h2 (by omega)) (by assumption)))))), hF_28⟩
      ·
       refine V.skip (V.blk_n ?_)
       refine V.then_n (k23 _ _ ?_)
       refine V.rr h58 [(1, .i ((i : Int) + 1))] 8 9 [(3, .int .i64 ((i : Int) + 1))] fun a h63 => ?_
       refine V.then_n ?_
       refine ⟨i + 1, by omega, ?_⟩
       refine ⟨(h63.eq 3 (v := (.int .i64 ((i : Int) + 1))) (u := (.int .i64 ((i + 1) : Int))) (V.int_eq (by omega))).only _, hF_28, hSl_29, (by omega), (hG.step (by unfold gF; exact ⟨by omega, by omega, fun h0 => by first | omega | exact Decidable.of_not_not (by assumption) | assumption⟩))⟩
     ·
      have h64 := h52.kf 29 hg53
      refine V.se h64 [] 30 42 [(31, undef), (35, undef), (40, undef), (43, .bool false)] fun a h65 => k25 _ _ ?_
      refine V.cf h65 ?_
      refine V.skip (V.blk_n ?_)
      refine V.then_n (k23 _ _ ?_)
      refine V.rr h65 [(1, .i ((i : Int) + 1))] 8 9 [(3, .int .i64 ((i : Int) + 1))] fun a h66 => ?_
      refine V.then_n ?_
      refine ⟨i + 1, by omega, ?_⟩
      refine ⟨(h66.eq 3 (v := (.int .i64 ((i : Int) + 1))) (u := (.int .i64 ((i + 1) : Int))) (V.int_eq (by omega))).only _, hF_28, hSl_29, (by omega), (hG.step (by unfold gF; exact ⟨by omega, by omega, fun h0 => by first | omega | exact Decidable.of_not_not (by assumption) | assumption⟩))⟩
  ·
   refine V.exit (V.then_e (V.then_e (V.blk_hit ?_)))
   refine V.then_n (k6 _ _ ?_)
   refine V.sr h20 [] 1 0 [(2, .bool true)] fun a h69 => ?_
   refine V.ret ?_
   refine V.r1 h69 (.bool true) ?_
   exact ⟨congrArg (fun b => Ending.returned (Value.bool b)) (bP_yes (hG.le (by omega))), hF_13⟩
theorem ahead_any (w : World) (x y : ByteArray × Int) : Calls Tryz.prog 124 #[.agg #[.string x.1, .int .i64 x.2], .agg #[.string y.1, .int .i64 y.2]] w (fun e w' => e = .returned (.bool (decide (ahd x y))) ∧ Fr [] w w') := by
 have hF := Fr.refl [] w
 refine V.en 24 Tryz.func124 fun a h1 => ?_
 refine V.sg fun K2 k3 => ?_
 refine V.go (V.mk [(0, .agg #[.string x.1, .int .i64 x.2])] ⟨h1.e, trivial⟩ (by kernel_rfl) [.string x.1, .int .i64 x.2] 98 (fun b => .pointer (some ⟨b, 0, none⟩)) (by kernel_rfl) ?_)
 intro w5 b4 heb4 hB6 hF7 hsb4
 have hF_8 := hF.new hF7
 refine V.pt h1 fun a h9 => ?_
 refine V.go (V.mk [(1, .agg #[.string y.1, .int .i64 y.2])] ⟨h9.e, trivial⟩ (by kernel_rfl) [.string y.1, .int .i64 y.2] 98 (fun b => .pointer (some ⟨b, 0, none⟩)) (by kernel_rfl) ?_)
 intro w11 b10 heb10 hB12 hF13 hsb10
 have hF_14 := hF_8.new hF13
 have hB6_15 := hB6.fr0 hF13
 refine V.pt h9 fun a h16 => ?_
 refine V.re h16 [] 4 4 [] fun a h17 => k3 _ _ ?_
 refine V.sg fun K18 k19 => ?_
 refine V.run h17 [(1, .b hB6_15 1), (1, .b hB12 1)] 6 5 9 [(10, .bool (decide (x.2 < y.2)))] fun a h20 => ?_
 by_cases hg21 : x.2 < y.2
 ·
  have h22 := h20.kt 10 hg21
  refine V.re h22 [] 11 23 [(4, .bool true)] fun a h23 => k19 _ _ ?_
  refine V.ret ?_
  refine V.r1 h23 (.bool true) ?_
  exact ⟨congrArg (fun b => Ending.returned (Value.bool b)) (decide_eq_true (by unfold ahd; omega)).symm, hF_14⟩
 ·
  have h24 := h20.kf 10 hg21
  refine V.run h24 [(1, .b hB6_15 1), (1, .b hB12 1), (0, .eq x.2 y.2)] 6 11 15 [(16, .bool (decide (x.2 = y.2)))] fun a h25 => ?_
  by_cases hg26 : x.2 = y.2
  ·
   have h27 := h25.kt 16 hg26
   refine V.re h27 [(1, .b hB6_15 0), (1, .b hB12 0), (0, .q (.bool (decide (slt x.1 y.1))) V.t_slss)] 17 23 [(4, .bool (decide (slt x.1 y.1)))] fun a h28 => k19 _ _ ?_
   refine V.ret ?_
   refine V.r1 h28 (.bool (decide (slt x.1 y.1))) ?_
   exact ⟨congrArg (fun b => Ending.returned (Value.bool b)) (decide_eq_decide.2 (by unfold ahd; constructor <;> intro h <;> first | exact .inr ⟨by omega, h⟩ | (rcases h with h | h; omega; exact h.2))), hF_14⟩
  ·
   have h29 := h25.kf 16 hg26
   refine V.re h29 [] 17 23 [(4, .bool false)] fun a h30 => k19 _ _ ?_
   refine V.ret ?_
   refine V.r1 h30 (.bool false) ?_
   exact ⟨congrArg (fun b => Ending.returned (Value.bool b)) (decide_eq_false (by unfold ahd; omega)).symm, hF_14⟩
theorem info9 : (Tryz.prog.info? 9).map (fun i => (i.zero, i.size, i.bytes)) = some (some (.string ⟨#[]⟩), 1, 16) := by kernel_rfl
theorem w_addN {a b : Nat} (h : a + b ≤ 9223372036854775807) : Value.int .i64 (IntKind.i64.wrap ((a : Int) + (b : Int))) = .int .i64 ((a + b : Nat) : Int) := by rw [Int.natCast_add]; exact w_i64 (by omega) (by omega)
theorem in_at {l : List ByteArray} {i : Nat} {x : ByteArray} (hi : i < l.length) (hx : at_ Rp.str l (i : Int) = x) : x ∈ l := by
  rw [← hx]; exact List.mem_of_getElem? (at_some Rp.str (xs := l) (i := (i : Int)) (by omega) (by omega))
/-- The texts of members. -/
def mTx (l : List (ByteArray × Int)) (i : Nat) : List ByteArray := (l.take i).map Prod.fst
theorem mTx_next {l : List (ByteArray × Int)} {i : Nat} (h : i < l.length) : mTx l (i + 1) = mTx l i ++ [(at_ scR l (i : Int)).1] := by
  have e := at_some scR (xs := l) (i := (i : Int)) (by omega) (by omega)
  rw [Int.toNat_natCast] at e
  unfold mTx
  rw [List.take_add_one, e, List.map_append]; rfl
theorem mTx_len (l : List (ByteArray × Int)) (i : Nat) : (mTx l i).length ≤ i := by unfold mTx; rw [List.length_map, List.length_take]; omega
/-! ### A search by halves; a text put into its place -/
theorem w_toU {a b : Nat} (h : a + b ≤ 9223372036854775807) : Value.int .u64 (IntKind.u64.wrap ((a : Int) + (b : Int))) = .int .u64 ((a + b : Nat) : Int) := by
  rw [Int.natCast_add]; exact w_u64 (by omega) (by omega)
theorem w_shr1 (a : Nat) : Value.int .u64 (Int.fdiv (a : Int) 2) = .int .u64 ((a / 2 : Nat) : Int) := by
  rw [Int.fdiv_eq_ediv_of_nonneg _ (by omega)]; rfl
theorem w_toI {a : Nat} (h : a ≤ 9223372036854775807) : Value.int .i64 (IntKind.i64.wrap ((a : Nat) : Int)) = .int .i64 ((a : Nat) : Int) := w_i64 (by omega) (by omega)
def LoS (l : List ByteArray) (x : ByteArray) (k : Nat) : Prop := ∀ j : Nat, j < k → j < l.length → slt (at_ Rp.str l (j : Int)) x
def HiS (l : List ByteArray) (x : ByteArray) (k : Nat) : Prop := ∀ j : Nat, k ≤ j → j < l.length → ¬ slt (at_ Rp.str l (j : Int)) x
theorem at_get {l : List ByteArray} {j : Nat} (h : j < l.length) : at_ Rp.str l (j : Int) = l[j] := by
  have e := at_some Rp.str (xs := l) (i := (j : Int)) (by omega) (by omega)
  rw [Int.toNat_natCast, List.getElem?_eq_getElem h] at e
  injection e with e
  exact e.symm
theorem inc_lt {l : List ByteArray} (h : Inc l) {i j : Nat} (hij : i < j) (hj : j < l.length) : slt (at_ Rp.str l (i : Int)) (at_ Rp.str l (j : Int)) := by
  rw [at_get hj, at_get (show i < l.length by omega)]
  exact List.pairwise_iff_getElem.1 h i j (by omega) hj hij
theorem bs_lo {l : List ByteArray} {x : ByteArray} {m : Nat} (hI : Inc l) (hm : m < l.length) (hs : slt (at_ Rp.str l (m : Int)) x) : LoS l x (m + 1) := fun j hj hl => by
  rcases Nat.lt_or_ge j m with h | h
  · exact slt_trans (inc_lt hI h hm) hs
  · obtain rfl : j = m := by omega
    exact hs
theorem bs_hi {l : List ByteArray} {x : ByteArray} {m : Nat} (hI : Inc l) (hm : m < l.length) (hs : ¬ slt (at_ Rp.str l (m : Int)) x) : HiS l x m := fun j hj hl => by
  rcases Nat.lt_or_ge m j with h | h
  · exact fun q => hs (slt_trans (inc_lt hI h hl) q)
  · obtain rfl : j = m := by omega
    exact hs
/-- .. and one more. -/
def insS (S : List ByteArray) (x : ByteArray) : List ByteArray := setOf (S ++ [x])
theorem ins_mem {S : List ByteArray} {x : ByteArray} (hI : Inc S) (h : x ∈ S) : insS S x = S :=
  inc_eq (setOf_inc _) hI fun y => by unfold insS; rw [setOf_mem, List.mem_append, List.mem_singleton]; exact ⟨fun q => q.elim id fun e => e ▸ h, .inl⟩
theorem ins_new {S : List ByteArray} {x : ByteArray} {i : Nat} (hI : Inc S) (hi : i ≤ S.length) (hL : LoS S x i) (hR : i < S.length → ¬ slt (at_ Rp.str S (i : Int)) x ∧ ¬ at_ Rp.str S (i : Int) = x) : insS S x = S.take i ++ [x] ++ S.drop i := by
  have hlo : ∀ y ∈ S.take i, slt y x := fun y hy => by
    obtain ⟨j, hj, e⟩ := List.getElem_of_mem hy
    rw [List.length_take] at hj
    rw [List.getElem_take, ← at_get (by omega)] at e
    rw [← e]; exact hL j (by omega) (by omega)
  have hhi : ∀ y ∈ S.drop i, slt x y := fun y hy => by
    obtain ⟨j, hj, e⟩ := List.getElem_of_mem hy
    rw [List.length_drop] at hj
    rw [List.getElem_drop, ← at_get (by omega)] at e
    have hx : slt x (at_ Rp.str S (i : Int)) := by
      rcases slt_tri (at_ Rp.str S (i : Int)) x with h | h | h
      · exact absurd h (hR (by omega)).1
      · exact absurd h (hR (by omega)).2
      · exact h
    rw [← e]
    rcases Nat.eq_zero_or_pos j with h | h
    · subst h; exact hx
    · exact slt_trans hx (inc_lt hI (by omega) (by omega))
  refine inc_eq (setOf_inc _) ?_ fun y => ?_
  · refine List.pairwise_append.2 ⟨List.pairwise_append.2 ⟨hI.sub (List.take_sublist i S), List.pairwise_singleton _ _, fun a ha b hb => ?_⟩, hI.sub (List.drop_sublist i S), fun a ha b hb => ?_⟩
    · rw [List.mem_singleton] at hb; rw [hb]; exact hlo a ha
    · rcases List.mem_append.1 ha with h | h
      · exact slt_trans (hlo a h) (hhi b hb)
      · rw [List.mem_singleton] at h; rw [h]; exact hhi b hb
  · unfold insS
    rw [setOf_mem, List.mem_append, List.mem_append, List.mem_append, List.mem_singleton]
    have : y ∈ S ↔ y ∈ S.take i ∨ y ∈ S.drop i := by rw [← List.mem_append, List.take_append_drop]
    rw [this]
    exact ⟨fun h => h.elim (fun h => h.elim (fun h => .inl (.inl h)) .inr) fun h => .inl (.inr h), fun h => h.elim (fun h => h.elim (fun h => .inl (.inl h)) .inr) fun h => .inl (.inr h)⟩
theorem ins_set (q : List ByteArray) (x : ByteArray) : insS (setOf q) x = setOf (q ++ [x]) :=
  inc_eq (setOf_inc _) (setOf_inc _) fun y => by unfold insS; rw [setOf_mem, setOf_mem, List.mem_append, List.mem_append, setOf_mem]
theorem into_any (w : World) (base : Nat) (A : Option Addr) (c : Nat) (S : List ByteArray) (hO : OwR Rp.str NoZ w base 9 (.slice A S.length c) S) (hb : base ≤ w.heap.size) (hI : Inc S) (hl : S.length ≤ 1099511627776) (x : ByteArray) : Calls Tryz.prog 189 #[.slice A S.length c, .string x] w (fun e w' => ∃ A' c', e = .returned (.slice A' (insS S x).length c') ∧ OwR Rp.str NoZ w' base 9 (.slice A' (insS S x).length c') (insS S x) ∧ Fr [] w w') := by
 have hF := Fr.refl [] w
 have hcp := hO.cap
 have hS := hO.read (Z' := fun k => k < w.heap.size) (fun _ _ h => h.elim) (fun _ _ h => h)
 refine V.en 51 Tryz.func189 fun a h1 => ?_
 refine V.sr h1 [] 4 4 [] fun a h4 => ?_
 refine V.sr h4 [] 8 9 [(5, .int .i64 0), (6, .int .i64 ((S.length : Nat) : Int))] fun a h7 => ?_
 refine V.seq fun K8 k9 => ?_
 refine V.block ?_
 refine V.loop2 (fun (lo : Nat) (hi : Nat) a_ w_ => En 51 [] a_ [(0, .slice A S.length c), (1, .string x), (5, .int .i64 ((lo : Nat) : Int)), (6, .int .i64 ((hi : Nat) : Int))] ∧ Fr [] w w_ ∧ SlR Rp.str (fun k => k < w.heap.size) w_ (.slice A S.length c) S ∧ OwR Rp.str NoZ w_ base 9 (.slice A S.length c) S ∧ (lo ≤ hi ∧ hi ≤ S.length) ∧ (LoS S x lo) ∧ (HiS S x hi)) (fun (lo : Nat) (hi : Nat) => hi - lo) 0 S.length ?_ ?_
 ·
  refine ⟨((h7.eq 5 (v := (.int .i64 0)) (u := (.int .i64 ((0 : Nat) : Int))) (rfl)).eq 6 (v := (.int .i64 ((S.length : Nat) : Int))) (u := (.int .i64 ((S.length : Nat) : Int))) (rfl)).only _, hF, hS, hO, (by omega), (fun j h => absurd h (by omega)), (fun j h k => absurd h (by omega))⟩
 ·
  rintro lo hi a10 w11 ⟨h12, hF_13, hS_14, hO_15, hb2, hL, hH⟩
  have hfs16 := hF_13.size
  refine V.seq fun K17 k18 => ?_
  refine V.sr h12 [] 10 11 [(12, .bool (decide (((lo : Nat) : Int) < ((hi : Nat) : Int))))] fun a h21 => ?_
  refine V.cp h21 (((lo : Nat) : Int) < ((hi : Nat) : Int)) (fun ht22 => ?_) (fun ht22 => ?_)
  ·
   refine V.skip ?_
   refine V.then_n (k18 _ _ ?_)
   refine V.block ?_
   refine V.sr h21 [(2, .q (.int .i64 ((lo + hi : Nat) : Int)) (w_addN (by omega))), (0, .quoN (lo + hi) 2)] 13 16 [(7, .int .i64 (((lo + hi) / 2 : Nat) : Int))] fun a h25 => ?_
   obtain ⟨g28, o29, hA30, hA30l, hA30z⟩ := hS_14.addr (by omega)
   obtain ⟨cs31, hok32, hE33⟩ := hS_14.els hA30 (((lo + hi) / 2 : Nat) : Int) (by omega) (by omega)
   obtain rfl : cs31 = [.string (at_ Rp.str S (((lo + hi) / 2 : Nat) : Int))] := hok32
   refine V.sr h25 [(2, .ix g28 o29 S.length c .i64 (((lo + hi) / 2 : Nat) : Int) 1 hA30), (0, .l ⟨g28, o29 + (((lo + hi) / 2 : Nat) : Int).toNat * 1, none⟩ (.string (at_ Rp.str S (((lo + hi) / 2 : Nat) : Int))) (hE33.at 0 rfl)), (1, .q (.bool (decide (slt (at_ Rp.str S (((lo + hi) / 2 : Nat) : Int)) x))) V.t_slss)] 17 21 [(22, .bool (decide (slt (at_ Rp.str S (((lo + hi) / 2 : Nat) : Int)) x)))] fun a h34 => ?_
   refine V.cp h34 (slt (at_ Rp.str S (((lo + hi) / 2 : Nat) : Int)) x) (fun ht35 => ?_) (fun ht35 => ?_)
   ·
    refine V.rr h34 [(1, .i ((((lo + hi) / 2 : Nat) : Int) + 1))] 23 24 [(5, .int .i64 ((((lo + hi) / 2 : Nat) : Int) + 1))] fun a h36 => ?_
    refine V.blk_n (V.then_n ?_)
    refine ⟨((lo + hi) / 2) + 1, hi, by omega, ?_⟩
    refine ⟨(h36.eq 5 (v := (.int .i64 ((((lo + hi) / 2 : Nat) : Int) + 1))) (u := (.int .i64 (((((lo + hi) / 2) + 1) : Nat) : Int))) (V.int_eq (by omega))).only _, hF_13, hS_14, hO_15, (by omega), (bs_lo hI (by omega) ht35), hH⟩
   ·
    refine V.rr h34 [] 25 25 [(6, .int .i64 (((lo + hi) / 2 : Nat) : Int))] fun a h37 => ?_
    refine V.blk_n (V.then_n ?_)
    refine ⟨lo, ((lo + hi) / 2), by omega, ?_⟩
    refine ⟨(h37.eq 6 (v := (.int .i64 (((lo + hi) / 2 : Nat) : Int))) (u := (.int .i64 ((((lo + hi) / 2) : Nat) : Int))) (rfl)).only _, hF_13, hS_14, hO_15, (by omega), hL, (bs_hi hI (by omega) ht35)⟩
  ·
   refine V.exit (V.then_e (V.then_e (V.blk_hit ?_)))
   refine V.then_n (k9 _ _ ?_)
   refine V.seq fun K38 k39 => ?_
   refine V.sg fun K40 k41 => ?_
   refine V.run h21 [] 5 26 29 [(30, .bool (decide (((lo : Nat) : Int) < ((S.length : Nat) : Int))))] fun a h42 => ?_
   by_cases hg43 : ((lo : Nat) : Int) < ((S.length : Nat) : Int)
   ·
    have h44 := h42.kt 30 hg43
    obtain ⟨g45, o46, hA47, hA47l, hA47z⟩ := hS_14.addr (by omega)
    obtain ⟨cs48, hok49, hE50⟩ := hS_14.els hA47 ((lo : Nat) : Int) (by omega) (by omega)
    obtain rfl : cs48 = [.string (at_ Rp.str S ((lo : Nat) : Int))] := hok49
    refine V.re h44 [(2, .ix g45 o46 S.length c .i64 ((lo : Nat) : Int) 1 hA47), (0, .l ⟨g45, o46 + ((lo : Nat) : Int).toNat * 1, none⟩ (.string (at_ Rp.str S ((lo : Nat) : Int))) (hE50.at 0 rfl)), (1, .seq (at_ Rp.str S ((lo : Nat) : Int)) x)] 31 36 [(37, .bool (decide ((at_ Rp.str S ((lo : Nat) : Int)) = x)))] fun a h51 => k41 _ _ ?_
    refine V.cp h51 ((at_ Rp.str S ((lo : Nat) : Int)) = x) (fun ht52 => ?_) (fun ht52 => ?_)
    ·
     refine V.sr h51 [] 38 38 [(4, .slice A S.length c)] fun a h55 => ?_
     refine V.ret (V.then_r ?_)
     refine V.r1 h55 (.slice A S.length c) ?_
     rw [ins_mem hI (in_at (by omega) ht52)]
     exact ⟨_, _, rfl, hO_15, hF_13⟩
    ·
     refine V.skip ?_
     refine V.then_n (k39 _ _ ?_)
     refine V.seq fun K56 k57 => ?_
     have hfz := hF_13.size
     refine V.ql (.seg [1, 2, 3, 5, 8, 9, 10] (.alt (.eff 0 [] (.alt (.eff 4 [] (.eff 6 [] (.eff 7 [] (.eff 11 [] (.seg [12] .nil))))) (.eff 6 [] (.eff 4 [] (.eff 7 [] (.eff 11 [] (.seg [12] .nil))))))) (.eff 6 [] (.eff 0 [] (.eff 4 [] (.eff 7 [] (.eff 11 [] (.seg [12] .nil)))))))) fun w58 hF59 hsw58 => ?_
     have hF_60 := hF_13.new hF59
     have hS_61 := hS_14.fr0 hF59
     have hS63 := hS_61.tk (i := lo) (by omega)
     have hS64 := hS_61.dr (i := lo) (by omega)
     refine V.qs h51 [(2, .cut0 A S.length c ((lo : Nat) : Int) lo 1), (3, .cutE A S.length c ((lo : Nat) : Int) lo 1)] 40 48 [(42, .slice A lo c), (44, .string x), (49, .slice (cutA A lo c 1) (S.length - lo) (c - lo))] fun a h65 => ?_
     refine V.qa ?_ ?_
     ·
      refine V.qe ?_
      refine V.go (V.mk [] trivial (by kernel_rfl) [] 9 (fun b => .slice (some ⟨b, 0, none⟩) 0 0) (by kernel_rfl) ?_)
      intro w67 b66 heb66 hB68 hF69 hsb66
      have hF_70 := hF_60.new hF69
      have hS63_73 := hS63.fr0 hF69
      have hS64_74 := hS64.fr0 hF69
      refine V.pt h65 fun a h75 => ?_
      have hO76 := OwR.empty (R := Rp.str) (base := b66) hB68 (Nat.le_refl _)
      refine V.eh trivial ?_
      refine V.qa ?_ ?_
      ·
       refine V.qe ?_
       refine V.go (V.appS (R := Rp.str) (h75.e (v := (.slice (some ⟨b66, 0, none⟩) 0 0))) (h75.e (v := (.slice A lo c))) (by kernel_rfl) info9 (by kernel_rfl) (by decide) hO76 hS63_73 (fun _ _ h => h) (by (try simp only [List.length_append, List.length_take, List.length_drop, List.length_singleton, List.length_nil]); omega) (by decide) (by omega) ?_)
       intro A77 c78 w79 hO80 hF81
       have hsw79 := hF81.size
       have hF_82 := hF_70.own hF81 (own_ge hO76 (by omega))
       have hS64_86 := hS64_74.fr hF81 (by intro b hb hz; have := own_ge hO76 (Nat.le_refl _) b hb; (try dsimp only at hz); omega)
       refine V.pt h75 fun a h87 => ?_
       refine V.eh trivial ?_
       refine V.qe ?_
       refine V.go (V.mk [(44, .string x)] ⟨h87.e, trivial⟩ (by kernel_rfl) [.string x] 9 (fun b => .slice (some ⟨b, 0, none⟩) 1 1) (by kernel_rfl) ?_)
       intro w89 b88 heb88 hB90 hF91 hsb88
       have hF_92 := hF_82.new hF91
       have hS64_96 := hS64_86.fr0 hF91
       have hO80_97 := hO80.fr0 hF91
       refine V.pt h87 fun a h98 => ?_
       refine V.eh trivial ?_
       refine V.qe ?_
       refine V.go (V.app (R := Rp.str) (ys := ([x])) (news := [.string x]) (h98.e (v := (.slice A77 ((([] : List ByteArray)).length + (S.take lo).length) c78))) ⟨b88, 0, none⟩ 1 1 (h98.e (v := (.slice (some ⟨b88, 0, none⟩) 1 1))) (by kernel_rfl) (info9) (by kernel_rfl) (by decide) hO80_97 rfl ⟨_, [], rfl, rfl, rfl⟩ (blk_cells hB90 0 _ rfl) (by first | omega | (simp; omega)) (by decide) (by omega) ?_)
       intro A99 c100 w101 hO102z hF103 hatw101
       have hsw101 := hF103.size
       have hF_104 := hF_92.own hF103 (own_ge hO80_97 (by omega))
       have hS64_108 := hS64_96.fr hF103 (by intro b hb hz; have := own_ge hO80_97 (Nat.le_refl _) b hb; (try dsimp only at hz); omega)
       have hO102 := hO102z.zone (Z' := NoZ) (fun _ _ q => q.1) (fun _ _ q => q)
       refine V.pt h98 fun a h109 => ?_
       refine V.eh trivial ?_
       refine V.qe ?_
       refine V.go (V.appS (R := Rp.str) (h109.e (v := (.slice A99 (((([] : List ByteArray) ++ (S.take lo)).length) + 1) c100))) (h109.e (v := (.slice (cutA A lo c 1) (S.length - lo) (c - lo)))) (by kernel_rfl) info9 (by kernel_rfl) (by decide) hO102 hS64_108 (fun _ _ h => h) (by (try simp only [List.length_append, List.length_take, List.length_drop, List.length_singleton, List.length_nil]); omega) (by decide) (by omega) ?_)
       intro A110 c111 w112 hO113 hF114
       have hsw112 := hF114.size
       have hF_115 := hF_104.own hF114 (own_ge hO102 (by omega))
       refine V.pt h109 fun a h120 => ?_
       refine V.eh trivial ?_
       refine V.qs h120 [] 1 0 [(4, .slice A110 (((([] : List ByteArray) ++ (S.take lo)) ++ [x]).length + (S.drop lo).length) c111)] fun a h121 => ?_
       refine V.qn (k57 _ _ ?_)
       refine V.ret ?_
       refine V.r1 h121 (.slice A110 (((([] : List ByteArray) ++ (S.take lo)) ++ [x]).length + (S.drop lo).length) c111) ?_
       obtain rfl : lo = hi := by omega
       have hq : insS S x = ((([] : List ByteArray) ++ (S.take lo)) ++ [x]) ++ (S.drop lo) := ins_new hI (by omega) hL (fun hlt => by first | omega | exact ⟨hH lo (Nat.le_refl _) hlt, ht52⟩)
       have hql : (insS S x).length = ((([] : List ByteArray) ++ (S.take lo)) ++ [x]).length + (S.drop lo).length := by rw [hq]; exact List.length_append
       rw [hql, hq]
       exact ⟨_, _, rfl, hO113.rebase (base' := base) (by omega), hF_115⟩
      ·
       refine V.qe ?_
       refine V.go (V.mk [(44, .string x)] ⟨h75.e, trivial⟩ (by kernel_rfl) [.string x] 9 (fun b => .slice (some ⟨b, 0, none⟩) 1 1) (by kernel_rfl) ?_)
       intro w123 b122 heb122 hB124 hF125 hsb122
       have hF_126 := hF_70.new hF125
       have hS63_129 := hS63_73.fr0 hF125
       have hS64_130 := hS64_74.fr0 hF125
       have hO76_131 := hO76.fr0 hF125
       refine V.pt h75 fun a h132 => ?_
       refine V.eh trivial ?_
       refine V.qe ?_
       refine V.go (V.appS (R := Rp.str) (h132.e (v := (.slice (some ⟨b66, 0, none⟩) 0 0))) (h132.e (v := (.slice A lo c))) (by kernel_rfl) info9 (by kernel_rfl) (by decide) hO76_131 hS63_129 (fun _ _ h => h) (by (try simp only [List.length_append, List.length_take, List.length_drop, List.length_singleton, List.length_nil]); omega) (by decide) (by omega) ?_)
       intro A133 c134 w135 hO136 hF137
       have hsw135 := hF137.size
       have hF_138 := hF_126.own hF137 (own_ge hO76_131 (by omega))
       have hS64_142 := hS64_130.fr hF137 (by intro b hb hz; have := own_ge hO76_131 (Nat.le_refl _) b hb; (try dsimp only at hz); omega)
       have hB124_143 := hB124.fr hF137 (by first | exact own_notin hO76_131 (by omega) | exact own_notin2 hO76 (by omega))
       refine V.pt h132 fun a h144 => ?_
       refine V.eh trivial ?_
       refine V.qe ?_
       refine V.go (V.app (R := Rp.str) (ys := ([x])) (news := [.string x]) (h144.e (v := (.slice A133 ((([] : List ByteArray)).length + (S.take lo).length) c134))) ⟨b122, 0, none⟩ 1 1 (h144.e (v := (.slice (some ⟨b122, 0, none⟩) 1 1))) (by kernel_rfl) (info9) (by kernel_rfl) (by decide) hO136 rfl ⟨_, [], rfl, rfl, rfl⟩ (blk_cells hB124_143 0 _ rfl) (by first | omega | (simp; omega)) (by decide) (by omega) ?_)
       intro A145 c146 w147 hO148z hF149 hatw147
       have hsw147 := hF149.size
       have hF_150 := hF_138.own hF149 (own_ge hO136 (by omega))
       have hS64_154 := hS64_142.fr hF149 (by intro b hb hz; have := own_ge hO136 (Nat.le_refl _) b hb; (try dsimp only at hz); omega)
       have hO148 := hO148z.zone (Z' := NoZ) (fun _ _ q => q.1) (fun _ _ q => q)
       refine V.pt h144 fun a h155 => ?_
       refine V.eh trivial ?_
       refine V.qe ?_
       refine V.go (V.appS (R := Rp.str) (h155.e (v := (.slice A145 (((([] : List ByteArray) ++ (S.take lo)).length) + 1) c146))) (h155.e (v := (.slice (cutA A lo c 1) (S.length - lo) (c - lo)))) (by kernel_rfl) info9 (by kernel_rfl) (by decide) hO148 hS64_154 (fun _ _ h => h) (by (try simp only [List.length_append, List.length_take, List.length_drop, List.length_singleton, List.length_nil]); omega) (by decide) (by omega) ?_)
       intro A156 c157 w158 hO159 hF160
       have hsw158 := hF160.size
       have hF_161 := hF_150.own hF160 (own_ge hO148 (by omega))
       refine V.pt h155 fun a h166 => ?_
       refine V.eh trivial ?_
       refine V.qs h166 [] 1 0 [(4, .slice A156 (((([] : List ByteArray) ++ (S.take lo)) ++ [x]).length + (S.drop lo).length) c157)] fun a h167 => ?_
       refine V.qn (k57 _ _ ?_)
       refine V.ret ?_
       refine V.r1 h167 (.slice A156 (((([] : List ByteArray) ++ (S.take lo)) ++ [x]).length + (S.drop lo).length) c157) ?_
       obtain rfl : lo = hi := by omega
       have hq : insS S x = ((([] : List ByteArray) ++ (S.take lo)) ++ [x]) ++ (S.drop lo) := ins_new hI (by omega) hL (fun hlt => by first | omega | exact ⟨hH lo (Nat.le_refl _) hlt, ht52⟩)
       have hql : (insS S x).length = ((([] : List ByteArray) ++ (S.take lo)) ++ [x]).length + (S.drop lo).length := by rw [hq]; exact List.length_append
       rw [hql, hq]
       exact ⟨_, _, rfl, hO159.rebase (base' := base) (by omega), hF_161⟩
     ·
      refine V.qe ?_
      refine V.go (V.mk [(44, .string x)] ⟨h65.e, trivial⟩ (by kernel_rfl) [.string x] 9 (fun b => .slice (some ⟨b, 0, none⟩) 1 1) (by kernel_rfl) ?_)
      intro w169 b168 heb168 hB170 hF171 hsb168
      have hF_172 := hF_60.new hF171
      have hS63_175 := hS63.fr0 hF171
      have hS64_176 := hS64.fr0 hF171
      refine V.pt h65 fun a h177 => ?_
      refine V.eh trivial ?_
      refine V.qe ?_
      refine V.go (V.mk [] trivial (by kernel_rfl) [] 9 (fun b => .slice (some ⟨b, 0, none⟩) 0 0) (by kernel_rfl) ?_)
      intro w179 b178 heb178 hB180 hF181 hsb178
      have hF_182 := hF_172.new hF181
      have hS63_185 := hS63_175.fr0 hF181
      have hS64_186 := hS64_176.fr0 hF181
      have hB170_187 := hB170.fr0 hF181
      refine V.pt h177 fun a h188 => ?_
      have hO189 := OwR.empty (R := Rp.str) (base := b178) hB180 (Nat.le_refl _)
      refine V.eh trivial ?_
      refine V.qe ?_
      refine V.go (V.appS (R := Rp.str) (h188.e (v := (.slice (some ⟨b178, 0, none⟩) 0 0))) (h188.e (v := (.slice A lo c))) (by kernel_rfl) info9 (by kernel_rfl) (by decide) hO189 hS63_185 (fun _ _ h => h) (by (try simp only [List.length_append, List.length_take, List.length_drop, List.length_singleton, List.length_nil]); omega) (by decide) (by omega) ?_)
      intro A190 c191 w192 hO193 hF194
      have hsw192 := hF194.size
      have hF_195 := hF_182.own hF194 (own_ge hO189 (by omega))
      have hS64_199 := hS64_186.fr hF194 (by intro b hb hz; have := own_ge hO189 (Nat.le_refl _) b hb; (try dsimp only at hz); omega)
      have hB170_200 := hB170_187.fr hF194 (by first | exact own_notin hO189 (by omega) | exact own_notin2 hO189 (by omega))
      refine V.pt h188 fun a h201 => ?_
      refine V.eh trivial ?_
      refine V.qe ?_
      refine V.go (V.app (R := Rp.str) (ys := ([x])) (news := [.string x]) (h201.e (v := (.slice A190 ((([] : List ByteArray)).length + (S.take lo).length) c191))) ⟨b168, 0, none⟩ 1 1 (h201.e (v := (.slice (some ⟨b168, 0, none⟩) 1 1))) (by kernel_rfl) (info9) (by kernel_rfl) (by decide) hO193 rfl ⟨_, [], rfl, rfl, rfl⟩ (blk_cells hB170_200 0 _ rfl) (by first | omega | (simp; omega)) (by decide) (by omega) ?_)
      intro A202 c203 w204 hO205z hF206 hatw204
      have hsw204 := hF206.size
      have hF_207 := hF_195.own hF206 (own_ge hO193 (by omega))
      have hS64_211 := hS64_199.fr hF206 (by intro b hb hz; have := own_ge hO193 (Nat.le_refl _) b hb; (try dsimp only at hz); omega)
      have hO205 := hO205z.zone (Z' := NoZ) (fun _ _ q => q.1) (fun _ _ q => q)
      refine V.pt h201 fun a h212 => ?_
      refine V.eh trivial ?_
      refine V.qe ?_
      refine V.go (V.appS (R := Rp.str) (h212.e (v := (.slice A202 (((([] : List ByteArray) ++ (S.take lo)).length) + 1) c203))) (h212.e (v := (.slice (cutA A lo c 1) (S.length - lo) (c - lo)))) (by kernel_rfl) info9 (by kernel_rfl) (by decide) hO205 hS64_211 (fun _ _ h => h) (by (try simp only [List.length_append, List.length_take, List.length_drop, List.length_singleton, List.length_nil]); omega) (by decide) (by omega) ?_)
      intro A213 c214 w215 hO216 hF217
      have hsw215 := hF217.size
      have hF_218 := hF_207.own hF217 (own_ge hO205 (by omega))
      refine V.pt h212 fun a h223 => ?_
      refine V.eh trivial ?_
      refine V.qs h223 [] 1 0 [(4, .slice A213 (((([] : List ByteArray) ++ (S.take lo)) ++ [x]).length + (S.drop lo).length) c214)] fun a h224 => ?_
      refine V.qn (k57 _ _ ?_)
      refine V.ret ?_
      refine V.r1 h224 (.slice A213 (((([] : List ByteArray) ++ (S.take lo)) ++ [x]).length + (S.drop lo).length) c214) ?_
      obtain rfl : lo = hi := by omega
      have hq : insS S x = ((([] : List ByteArray) ++ (S.take lo)) ++ [x]) ++ (S.drop lo) := ins_new hI (by omega) hL (fun hlt => by first | omega | exact ⟨hH lo (Nat.le_refl _) hlt, ht52⟩)
      have hql : (insS S x).length = ((([] : List ByteArray) ++ (S.take lo)) ++ [x]).length + (S.drop lo).length := by rw [hq]; exact List.length_append
      rw [hql, hq]
      exact ⟨_, _, rfl, hO216.rebase (base' := base) (by omega), hF_218⟩
   ·
    have h225 := h42.kf 30 hg43
    refine V.re h225 [] 31 36 [(37, .bool false)] fun a h226 => k41 _ _ ?_
    refine V.cf h226 ?_
    refine V.skip ?_
    refine V.then_n (k39 _ _ ?_)
    refine V.seq fun K227 k228 => ?_
    have hfz := hF_13.size
    refine V.ql (.seg [1, 2, 3, 5, 8, 9, 10] (.alt (.eff 0 [] (.alt (.eff 4 [] (.eff 6 [] (.eff 7 [] (.eff 11 [] (.seg [12] .nil))))) (.eff 6 [] (.eff 4 [] (.eff 7 [] (.eff 11 [] (.seg [12] .nil))))))) (.eff 6 [] (.eff 0 [] (.eff 4 [] (.eff 7 [] (.eff 11 [] (.seg [12] .nil)))))))) fun w229 hF230 hsw229 => ?_
    have hF_231 := hF_13.new hF230
    have hS_232 := hS_14.fr0 hF230
    have hS233 := hS_232.tk (i := lo) (by omega)
    have hS234 := hS_232.dr (i := lo) (by omega)
    refine V.qs h226 [(2, .cut0 A S.length c ((lo : Nat) : Int) lo 1), (3, .cutE A S.length c ((lo : Nat) : Int) lo 1)] 40 48 [(42, .slice A lo c), (44, .string x), (49, .slice (cutA A lo c 1) (S.length - lo) (c - lo))] fun a h235 => ?_
    refine V.qa ?_ ?_
    ·
     refine V.qe ?_
     refine V.go (V.mk [] trivial (by kernel_rfl) [] 9 (fun b => .slice (some ⟨b, 0, none⟩) 0 0) (by kernel_rfl) ?_)
     intro w237 b236 heb236 hB238 hF239 hsb236
     have hF_240 := hF_231.new hF239
     have hS233_242 := hS233.fr0 hF239
     have hS234_243 := hS234.fr0 hF239
     refine V.pt h235 fun a h244 => ?_
     have hO245 := OwR.empty (R := Rp.str) (base := b236) hB238 (Nat.le_refl _)
     refine V.eh trivial ?_
     refine V.qa ?_ ?_
     ·
      refine V.qe ?_
      refine V.go (V.appS (R := Rp.str) (h244.e (v := (.slice (some ⟨b236, 0, none⟩) 0 0))) (h244.e (v := (.slice A lo c))) (by kernel_rfl) info9 (by kernel_rfl) (by decide) hO245 hS233_242 (fun _ _ h => h) (by (try simp only [List.length_append, List.length_take, List.length_drop, List.length_singleton, List.length_nil]); omega) (by decide) (by omega) ?_)
      intro A246 c247 w248 hO249 hF250
      have hsw248 := hF250.size
      have hF_251 := hF_240.own hF250 (own_ge hO245 (by omega))
      have hS234_254 := hS234_243.fr hF250 (by intro b hb hz; have := own_ge hO245 (Nat.le_refl _) b hb; (try dsimp only at hz); omega)
      refine V.pt h244 fun a h255 => ?_
      refine V.eh trivial ?_
      refine V.qe ?_
      refine V.go (V.mk [(44, .string x)] ⟨h255.e, trivial⟩ (by kernel_rfl) [.string x] 9 (fun b => .slice (some ⟨b, 0, none⟩) 1 1) (by kernel_rfl) ?_)
      intro w257 b256 heb256 hB258 hF259 hsb256
      have hF_260 := hF_251.new hF259
      have hS234_263 := hS234_254.fr0 hF259
      have hO249_264 := hO249.fr0 hF259
      refine V.pt h255 fun a h265 => ?_
      refine V.eh trivial ?_
      refine V.qe ?_
      refine V.go (V.app (R := Rp.str) (ys := ([x])) (news := [.string x]) (h265.e (v := (.slice A246 ((([] : List ByteArray)).length + (S.take lo).length) c247))) ⟨b256, 0, none⟩ 1 1 (h265.e (v := (.slice (some ⟨b256, 0, none⟩) 1 1))) (by kernel_rfl) (info9) (by kernel_rfl) (by decide) hO249_264 rfl ⟨_, [], rfl, rfl, rfl⟩ (blk_cells hB258 0 _ rfl) (by first | omega | (simp; omega)) (by decide) (by omega) ?_)
      intro A266 c267 w268 hO269z hF270 hatw268
      have hsw268 := hF270.size
      have hF_271 := hF_260.own hF270 (own_ge hO249_264 (by omega))
      have hS234_274 := hS234_263.fr hF270 (by intro b hb hz; have := own_ge hO249_264 (Nat.le_refl _) b hb; (try dsimp only at hz); omega)
      have hO269 := hO269z.zone (Z' := NoZ) (fun _ _ q => q.1) (fun _ _ q => q)
      refine V.pt h265 fun a h275 => ?_
      refine V.eh trivial ?_
      refine V.qe ?_
      refine V.go (V.appS (R := Rp.str) (h275.e (v := (.slice A266 (((([] : List ByteArray) ++ (S.take lo)).length) + 1) c267))) (h275.e (v := (.slice (cutA A lo c 1) (S.length - lo) (c - lo)))) (by kernel_rfl) info9 (by kernel_rfl) (by decide) hO269 hS234_274 (fun _ _ h => h) (by (try simp only [List.length_append, List.length_take, List.length_drop, List.length_singleton, List.length_nil]); omega) (by decide) (by omega) ?_)
      intro A276 c277 w278 hO279 hF280
      have hsw278 := hF280.size
      have hF_281 := hF_271.own hF280 (own_ge hO269 (by omega))
      refine V.pt h275 fun a h285 => ?_
      refine V.eh trivial ?_
      refine V.qs h285 [] 1 0 [(4, .slice A276 (((([] : List ByteArray) ++ (S.take lo)) ++ [x]).length + (S.drop lo).length) c277)] fun a h286 => ?_
      refine V.qn (k228 _ _ ?_)
      refine V.ret ?_
      refine V.r1 h286 (.slice A276 (((([] : List ByteArray) ++ (S.take lo)) ++ [x]).length + (S.drop lo).length) c277) ?_
      obtain rfl : lo = hi := by omega
      have hq : insS S x = ((([] : List ByteArray) ++ (S.take lo)) ++ [x]) ++ (S.drop lo) := ins_new hI (by omega) hL (fun hlt => by first | omega | exact absurd hlt (by omega))
      have hql : (insS S x).length = ((([] : List ByteArray) ++ (S.take lo)) ++ [x]).length + (S.drop lo).length := by rw [hq]; exact List.length_append
      rw [hql, hq]
      exact ⟨_, _, rfl, hO279.rebase (base' := base) (by omega), hF_281⟩
     ·
      refine V.qe ?_
      refine V.go (V.mk [(44, .string x)] ⟨h244.e, trivial⟩ (by kernel_rfl) [.string x] 9 (fun b => .slice (some ⟨b, 0, none⟩) 1 1) (by kernel_rfl) ?_)
      intro w288 b287 heb287 hB289 hF290 hsb287
      have hF_291 := hF_240.new hF290
      have hS233_293 := hS233_242.fr0 hF290
      have hS234_294 := hS234_243.fr0 hF290
      have hO245_295 := hO245.fr0 hF290
      refine V.pt h244 fun a h296 => ?_
      refine V.eh trivial ?_
      refine V.qe ?_
      refine V.go (V.appS (R := Rp.str) (h296.e (v := (.slice (some ⟨b236, 0, none⟩) 0 0))) (h296.e (v := (.slice A lo c))) (by kernel_rfl) info9 (by kernel_rfl) (by decide) hO245_295 hS233_293 (fun _ _ h => h) (by (try simp only [List.length_append, List.length_take, List.length_drop, List.length_singleton, List.length_nil]); omega) (by decide) (by omega) ?_)
      intro A297 c298 w299 hO300 hF301
      have hsw299 := hF301.size
      have hF_302 := hF_291.own hF301 (own_ge hO245_295 (by omega))
      have hS234_305 := hS234_294.fr hF301 (by intro b hb hz; have := own_ge hO245_295 (Nat.le_refl _) b hb; (try dsimp only at hz); omega)
      have hB289_306 := hB289.fr hF301 (by first | exact own_notin hO245_295 (by omega) | exact own_notin2 hO245 (by omega))
      refine V.pt h296 fun a h307 => ?_
      refine V.eh trivial ?_
      refine V.qe ?_
      refine V.go (V.app (R := Rp.str) (ys := ([x])) (news := [.string x]) (h307.e (v := (.slice A297 ((([] : List ByteArray)).length + (S.take lo).length) c298))) ⟨b287, 0, none⟩ 1 1 (h307.e (v := (.slice (some ⟨b287, 0, none⟩) 1 1))) (by kernel_rfl) (info9) (by kernel_rfl) (by decide) hO300 rfl ⟨_, [], rfl, rfl, rfl⟩ (blk_cells hB289_306 0 _ rfl) (by first | omega | (simp; omega)) (by decide) (by omega) ?_)
      intro A308 c309 w310 hO311z hF312 hatw310
      have hsw310 := hF312.size
      have hF_313 := hF_302.own hF312 (own_ge hO300 (by omega))
      have hS234_316 := hS234_305.fr hF312 (by intro b hb hz; have := own_ge hO300 (Nat.le_refl _) b hb; (try dsimp only at hz); omega)
      have hO311 := hO311z.zone (Z' := NoZ) (fun _ _ q => q.1) (fun _ _ q => q)
      refine V.pt h307 fun a h317 => ?_
      refine V.eh trivial ?_
      refine V.qe ?_
      refine V.go (V.appS (R := Rp.str) (h317.e (v := (.slice A308 (((([] : List ByteArray) ++ (S.take lo)).length) + 1) c309))) (h317.e (v := (.slice (cutA A lo c 1) (S.length - lo) (c - lo)))) (by kernel_rfl) info9 (by kernel_rfl) (by decide) hO311 hS234_316 (fun _ _ h => h) (by (try simp only [List.length_append, List.length_take, List.length_drop, List.length_singleton, List.length_nil]); omega) (by decide) (by omega) ?_)
      intro A318 c319 w320 hO321 hF322
      have hsw320 := hF322.size
      have hF_323 := hF_313.own hF322 (own_ge hO311 (by omega))
      refine V.pt h317 fun a h327 => ?_
      refine V.eh trivial ?_
      refine V.qs h327 [] 1 0 [(4, .slice A318 (((([] : List ByteArray) ++ (S.take lo)) ++ [x]).length + (S.drop lo).length) c319)] fun a h328 => ?_
      refine V.qn (k228 _ _ ?_)
      refine V.ret ?_
      refine V.r1 h328 (.slice A318 (((([] : List ByteArray) ++ (S.take lo)) ++ [x]).length + (S.drop lo).length) c319) ?_
      obtain rfl : lo = hi := by omega
      have hq : insS S x = ((([] : List ByteArray) ++ (S.take lo)) ++ [x]) ++ (S.drop lo) := ins_new hI (by omega) hL (fun hlt => by first | omega | exact absurd hlt (by omega))
      have hql : (insS S x).length = ((([] : List ByteArray) ++ (S.take lo)) ++ [x]).length + (S.drop lo).length := by rw [hq]; exact List.length_append
      rw [hql, hq]
      exact ⟨_, _, rfl, hO321.rebase (base' := base) (by omega), hF_323⟩
    ·
     refine V.qe ?_
     refine V.go (V.mk [(44, .string x)] ⟨h235.e, trivial⟩ (by kernel_rfl) [.string x] 9 (fun b => .slice (some ⟨b, 0, none⟩) 1 1) (by kernel_rfl) ?_)
     intro w330 b329 heb329 hB331 hF332 hsb329
     have hF_333 := hF_231.new hF332
     have hS233_335 := hS233.fr0 hF332
     have hS234_336 := hS234.fr0 hF332
     refine V.pt h235 fun a h337 => ?_
     refine V.eh trivial ?_
     refine V.qe ?_
     refine V.go (V.mk [] trivial (by kernel_rfl) [] 9 (fun b => .slice (some ⟨b, 0, none⟩) 0 0) (by kernel_rfl) ?_)
     intro w339 b338 heb338 hB340 hF341 hsb338
     have hF_342 := hF_333.new hF341
     have hS233_344 := hS233_335.fr0 hF341
     have hS234_345 := hS234_336.fr0 hF341
     have hB331_346 := hB331.fr0 hF341
     refine V.pt h337 fun a h347 => ?_
     have hO348 := OwR.empty (R := Rp.str) (base := b338) hB340 (Nat.le_refl _)
     refine V.eh trivial ?_
     refine V.qe ?_
     refine V.go (V.appS (R := Rp.str) (h347.e (v := (.slice (some ⟨b338, 0, none⟩) 0 0))) (h347.e (v := (.slice A lo c))) (by kernel_rfl) info9 (by kernel_rfl) (by decide) hO348 hS233_344 (fun _ _ h => h) (by (try simp only [List.length_append, List.length_take, List.length_drop, List.length_singleton, List.length_nil]); omega) (by decide) (by omega) ?_)
     intro A349 c350 w351 hO352 hF353
     have hsw351 := hF353.size
     have hF_354 := hF_342.own hF353 (own_ge hO348 (by omega))
     have hS234_357 := hS234_345.fr hF353 (by intro b hb hz; have := own_ge hO348 (Nat.le_refl _) b hb; (try dsimp only at hz); omega)
     have hB331_358 := hB331_346.fr hF353 (by first | exact own_notin hO348 (by omega) | exact own_notin2 hO348 (by omega))
     refine V.pt h347 fun a h359 => ?_
     refine V.eh trivial ?_
     refine V.qe ?_
     refine V.go (V.app (R := Rp.str) (ys := ([x])) (news := [.string x]) (h359.e (v := (.slice A349 ((([] : List ByteArray)).length + (S.take lo).length) c350))) ⟨b329, 0, none⟩ 1 1 (h359.e (v := (.slice (some ⟨b329, 0, none⟩) 1 1))) (by kernel_rfl) (info9) (by kernel_rfl) (by decide) hO352 rfl ⟨_, [], rfl, rfl, rfl⟩ (blk_cells hB331_358 0 _ rfl) (by first | omega | (simp; omega)) (by decide) (by omega) ?_)
     intro A360 c361 w362 hO363z hF364 hatw362
     have hsw362 := hF364.size
     have hF_365 := hF_354.own hF364 (own_ge hO352 (by omega))
     have hS234_368 := hS234_357.fr hF364 (by intro b hb hz; have := own_ge hO352 (Nat.le_refl _) b hb; (try dsimp only at hz); omega)
     have hO363 := hO363z.zone (Z' := NoZ) (fun _ _ q => q.1) (fun _ _ q => q)
     refine V.pt h359 fun a h369 => ?_
     refine V.eh trivial ?_
     refine V.qe ?_
     refine V.go (V.appS (R := Rp.str) (h369.e (v := (.slice A360 (((([] : List ByteArray) ++ (S.take lo)).length) + 1) c361))) (h369.e (v := (.slice (cutA A lo c 1) (S.length - lo) (c - lo)))) (by kernel_rfl) info9 (by kernel_rfl) (by decide) hO363 hS234_368 (fun _ _ h => h) (by (try simp only [List.length_append, List.length_take, List.length_drop, List.length_singleton, List.length_nil]); omega) (by decide) (by omega) ?_)
     intro A370 c371 w372 hO373 hF374
     have hsw372 := hF374.size
     have hF_375 := hF_365.own hF374 (own_ge hO363 (by omega))
     refine V.pt h369 fun a h379 => ?_
     refine V.eh trivial ?_
     refine V.qs h379 [] 1 0 [(4, .slice A370 (((([] : List ByteArray) ++ (S.take lo)) ++ [x]).length + (S.drop lo).length) c371)] fun a h380 => ?_
     refine V.qn (k228 _ _ ?_)
     refine V.ret ?_
     refine V.r1 h380 (.slice A370 (((([] : List ByteArray) ++ (S.take lo)) ++ [x]).length + (S.drop lo).length) c371) ?_
     obtain rfl : lo = hi := by omega
     have hq : insS S x = ((([] : List ByteArray) ++ (S.take lo)) ++ [x]) ++ (S.drop lo) := ins_new hI (by omega) hL (fun hlt => by first | omega | exact absurd hlt (by omega))
     have hql : (insS S x).length = ((([] : List ByteArray) ++ (S.take lo)) ++ [x]).length + (S.drop lo).length := by rw [hq]; exact List.length_append
     rw [hql, hq]
     exact ⟨_, _, rfl, hO373.rebase (base' := base) (by omega), hF_375⟩
theorem twice_any (w : World) (Al : Option Addr) (cl : Nat) (l : List (ByteArray × Int)) (hSl : SlR scR (fun k => k < w.heap.size) w (.slice Al l.length cl) l) (hl : l.length ≤ 1099511627776) : Calls Tryz.prog 138 #[.slice Al l.length cl] w (fun e w' => e = .returned (.bool (decide (¬ ((((setOf (mTx l l.length)).length : Nat) : Int) = ((l.length : Nat) : Int))))) ∧ Fr [] w w') := by
 have hF := Fr.refl [] w
 have hlen0 := hSl.len_le
 refine V.en 23 Tryz.func138 fun a h1 => ?_
 refine V.sr h1 [] 2 2 [] fun a h4 => ?_
 refine V.sr h4 [] 1 0 [(3, .slice none 0 0)] fun a h7 => ?_
 refine V.seq fun K8 k9 => ?_
 refine V.sr h7 [] 1 0 [(4, .int .i64 0)] fun a h12 => ?_
 refine V.block ?_
 refine V.loop3 (fun (i : Nat) (A2 : Option Addr) (c2 : Nat) a_ w_ => En 23 [] a_ [(0, .slice Al l.length cl), (3, .slice A2 ((setOf (mTx l i)).length) c2), (4, .int .i64 (i : Int))] ∧ OwR Rp.str NoZ w_ w.heap.size 9 (.slice A2 ((setOf (mTx l i)).length) c2) (setOf (mTx l i)) ∧ Fr [] w w_ ∧ SlR scR (fun k => k < w.heap.size) w_ (.slice Al l.length cl) l ∧ (i ≤ l.length)) (fun (i : Nat) (A2 : Option Addr) (c2 : Nat) => l.length - i) 0 none 0 ?_ ?_
 ·
  refine ⟨((h12.eq 3 (v := (.slice none 0 0)) (u := (.slice none ((setOf (mTx l 0)).length) 0)) (V.sl_eq (by rw [show mTx l 0 = [] from rfl, setOf_nil]; rfl))).eq 4 (v := (.int .i64 0)) (u := (.int .i64 (0 : Int))) (V.int_eq (by omega))).only _, (by rw [show mTx l 0 = [] from rfl, setOf_nil]; exact OwR.nil ..), hF, hSl, (by omega)⟩
 ·
  rintro i A2 c2 a13 w14 ⟨h15, hO_16, hF_17, hSl_18, hi⟩
  have hfs19 := hF_17.size
  have hsl := setOf_len (mTx l i)
  have htl := mTx_len l i
  refine V.seq fun K20 k21 => ?_
  refine V.sr h15 [] 5 7 [(8, .bool (decide ((i : Int) < ((l.length : Nat) : Int))))] fun a h24 => ?_
  refine V.cp h24 ((i : Int) < ((l.length : Nat) : Int)) (fun ht25 => ?_) (fun ht25 => ?_)
  ·
   refine V.skip ?_
   refine V.then_n (k21 _ _ ?_)
   refine V.seq fun K26 k27 => ?_
   refine V.block ?_
   have hst : insS (setOf (mTx l i)) (at_ scR l (i : Int)).1 = setOf (mTx l (i + 1)) := by rw [ins_set, mTx_next (by omega)]
   obtain ⟨g28, o29, hA30, hA30l, hA30z⟩ := hSl_18.addr (by omega)
   obtain ⟨cs31, hok32, hE33⟩ := hSl_18.els hA30 (i : Int) (by omega) (by omega)
   obtain rfl : cs31 = [.string (at_ scR l (i : Int)).1, .int .i64 (at_ scR l (i : Int)).2] := hok32
   refine V.rg ?_
   refine V.run h24 [(3, .ix g28 o29 l.length cl .i64 (i : Int) 2 hA30), (1, .l ⟨g28, o29 + (i : Int).toNat * 2, none⟩ (.string ((at_ scR l (i : Int)).1)) (hE33.at 0 rfl))] 6 12 15 [(11, .slice A2 ((setOf (mTx l i)).length) c2), (16, .string ((at_ scR l (i : Int)).1))] fun a h34 => ?_
   refine V.cl h34 (Go.Proofs.enters_of Tryz.func189 (by kernel_rfl) rfl) (into_any w14 w.heap.size A2 c2 (setOf (mTx l i)) hO_16 (by omega) (setOf_inc _) (by omega) ((at_ scR l (i : Int)).1)) ?_
   rintro _ w39 ⟨A35, c36, rfl, hO37, hF38⟩
   refine ⟨_, rfl, fun a h40 => ?_⟩
   have hsw39 := hF38.size
   have hF_41 := hF_17.new hF38
   have hSl_42 := hSl_18.fr0 hF38
   refine V.re h40 [] 1 0 [(3, .slice A35 ((insS (setOf (mTx l i)) ((at_ scR l (i : Int)).1)).length) c36)] fun a h44 => ?_
   refine V.blk_n ?_
   refine V.then_n (k27 _ _ ?_)
   refine V.rr h44 [(1, .i ((i : Int) + 1))] 9 10 [(4, .int .i64 ((i : Int) + 1))] fun a h45 => ?_
   refine V.then_n ?_
   refine ⟨i + 1, A35, c36, by omega, ?_⟩
   refine ⟨((h45.eq 3 (v := (.slice A35 ((insS (setOf (mTx l i)) ((at_ scR l (i : Int)).1)).length) c36)) (u := (.slice A35 ((setOf (mTx l (i + 1))).length) c36)) (V.sl_eq (congrArg List.length hst))).eq 4 (v := (.int .i64 ((i : Int) + 1))) (u := (.int .i64 ((i + 1) : Int))) (V.int_eq (by omega))).only _, (by rw [← hst]; exact hO37), hF_41, hSl_42, (by omega)⟩
  ·
   refine V.exit (V.then_e (V.then_e (V.blk_hit ?_)))
   refine V.then_n (k9 _ _ ?_)
   refine V.sr h24 [(4, .ne (((setOf (mTx l i)).length : Nat) : Int) ((l.length : Nat) : Int))] 18 22 [(2, .bool (decide (¬ (((setOf (mTx l i)).length : Nat) : Int) = ((l.length : Nat) : Int))))] fun a h48 => ?_
   refine V.ret ?_
   refine V.r1 h48 (.bool (decide (¬ (((setOf (mTx l i)).length : Nat) : Int) = ((l.length : Nat) : Int)))) ?_
   obtain rfl : i = l.length := by omega
   exact ⟨rfl, hF_17⟩
theorem rmembers_any (w : World) (Al : Option Addr) (cl : Nat) (l : List (ByteArray × Int)) (hSl : SlR scR (fun k => k < w.heap.size) w (.slice Al l.length cl) l) (hl : l.length ≤ 1099511627776) : Calls Tryz.prog 106 #[.slice Al l.length cl] w (fun e w' => e = .returned (.bool (bP (AllG (gM l) l.length ∧ (setOf (mTx l l.length)).length = l.length))) ∧ Fr [] w w') := by
 have hF := Fr.refl [] w
 have hlen0 := hSl.len_le
 refine V.en 37 Tryz.func106 fun a h1 => ?_
 refine V.sr h1 [] 2 2 [] fun a h4 => ?_
 refine V.seq fun K5 k6 => ?_
 refine V.sr h4 [] 1 0 [(3, .int .i64 0)] fun a h9 => ?_
 refine V.block ?_
 refine V.loop1 (fun (i : Nat) a_ w_ => En 37 [] a_ [(0, .slice Al l.length cl), (3, .int .i64 (i : Int))] ∧ Fr [] w w_ ∧ SlR scR (fun k => k < w.heap.size) w_ (.slice Al l.length cl) l ∧ (i ≤ l.length) ∧ (AllG (gM l) i)) (fun (i : Nat) => l.length - i) 0 ?_ ?_
 ·
  refine ⟨(h9.eq 3 (v := (.int .i64 0)) (u := (.int .i64 (0 : Int))) (V.int_eq (by omega))).only _, hF, hSl, (by omega), (AllG.zero _)⟩
 ·
  rintro i a10 w11 ⟨h12, hF_13, hSl_14, hi, hG⟩
  have hfs15 := hF_13.size
  refine V.seq fun K16 k17 => ?_
  refine V.sr h12 [] 4 6 [(7, .bool (decide ((i : Int) < ((l.length : Nat) : Int))))] fun a h20 => ?_
  refine V.cp h20 ((i : Int) < ((l.length : Nat) : Int)) (fun ht21 => ?_) (fun ht21 => ?_)
  ·
   refine V.skip ?_
   refine V.then_n (k17 _ _ ?_)
   refine V.seq fun K22 k23 => ?_
   refine V.block ?_
   refine V.seq fun K24 k25 => ?_
   refine V.pl [([0,1,2,3,4,5,6,7,8,9,10,11,12,13,14,15,16,17,18,19],some (20,[])),([21,22,23],none)] fun w26 hF27 hsw26 => ?_
   have hF_28 := hF_13.new hF27
   have hSl_29 := hSl_14.fr0 hF27
   obtain ⟨g30, o31, hA32, hA32l, hA32z⟩ := hSl_29.addr (by omega)
   obtain ⟨cs33, hok34, hE35⟩ := hSl_29.els hA32 (i : Int) (by omega) (by omega)
   obtain rfl : cs33 = [.string (at_ scR l (i : Int)).1, .int .i64 (at_ scR l (i : Int)).2] := hok34
   refine V.pe0 ?_
   refine V.run h20 [(2, .ix g30 o31 l.length cl .i64 (i : Int) 2 hA32), (1, .l ⟨g30, o31 + (i : Int).toNat * 2, none⟩ (.string ((at_ scR l (i : Int)).1)) (hE35.at 0 rfl))] 8 10 16 [(14, .string ((at_ scR l (i : Int)).1)), (15, .int .i64 (((at_ scR l (i : Int)).1).size : Int)), (17, .bool (decide ((((at_ scR l (i : Int)).1).size : Int) > 65536)))] fun a h36 => ?_
   by_cases hg37 : (((at_ scR l (i : Int)).1).size : Int) > 65536
   ·
    have h38 := h36.kt 17 hg37
    refine V.se h38 [] 19 28 [(18, undef), (20, undef), (22, undef), (25, undef), (29, undef)] fun a h39 => ?_
    refine V.run h39 [] 1 1 0 [(30, undef)] fun a h40 => ?_
    refine V.eh trivial ?_
    refine V.pz h40 [] 31 32 [(33, .bool true)] fun a h41 => k25 _ _ ?_
    refine V.ct h41 ?_
    refine V.sr h41 [] 1 0 [(2, .bool false)] fun a h44 => ?_
    refine V.ret (V.blk_r (V.then_r (V.then_r (V.blk_r (V.then_r ?_)))))
    refine V.r1 h44 (.bool false) ?_
    exact ⟨congrArg (fun b => Ending.returned (Value.bool b)) (bP_no fun hq => (AllG.no (i := i) (by omega) (fun hg => by unfold gM at hg; first | omega | (have h1 := hg.2; first | omega | (exact absurd (h1 (by omega)) (by assumption)) | (exact absurd (h1 rfl (by omega)) (by assumption)) | (have h2 := h1.2; exact absurd (h2 (by omega)) (by assumption)) | (have h2 := hg.2.2; exact absurd (h2 (by omega)) (by assumption))))) hq.1), hF_28⟩
   ·
    have h45 := h36.kf 17 hg37
    refine V.run h45 [] 3 19 19 [(18, .int .i64 (i : Int)), (20, .bool (decide ((i : Int) > 0)))] fun a h46 => ?_
    by_cases hg47 : (i : Int) > 0
    ·
     have h48 := h46.kt 20 hg47
     obtain ⟨cs49, hok50, hE51⟩ := hSl_29.els hA32 ((i : Int) - 1) (by omega) (by omega)
     obtain rfl : cs49 = [.string (at_ scR l ((i : Int) - 1)).1, .int .i64 (at_ scR l ((i : Int) - 1)).2] := hok50
     refine V.se h48 [(2, .i ((i : Int) - 1)), (0, .ix g30 o31 l.length cl .i64 ((i : Int) - 1) 2 hA32), (0, .ls ⟨g30, o31 + ((i : Int) - 1).toNat * 2, none⟩ [.string ((at_ scR l ((i : Int) - 1)).1), .int .i64 ((at_ scR l ((i : Int) - 1)).2)] (hE51.cells 0 _ rfl)), (2, .ix g30 o31 l.length cl .i64 (i : Int) 2 hA32), (0, .ls ⟨g30, o31 + (i : Int).toNat * 2, none⟩ [.string ((at_ scR l (i : Int)).1), .int .i64 ((at_ scR l (i : Int)).2)] (hE35.cells 0 _ rfl))] 21 28 [(22, .int .i64 (i : Int)), (25, .agg #[.string ((at_ scR l ((i : Int) - 1)).1), .int .i64 ((at_ scR l ((i : Int) - 1)).2)]), (29, .agg #[.string ((at_ scR l (i : Int)).1), .int .i64 ((at_ scR l (i : Int)).2)])] fun a h52 => ?_
     refine V.clg h52 (Go.Proofs.enters_of Tryz.func124 (by kernel_rfl) rfl) (ahead_any w26 (at_ scR l ((i : Int) - 1)) (at_ scR l (i : Int))) ?_
     rintro _ w54 ⟨rfl, hF53⟩
     refine ⟨_, rfl, fun a h55 => ?_⟩
     have hsw54 := hF53.size
     have hF_56 := hF_28.new hF53
     have hSl_57 := hSl_29.fr0 hF53
     refine V.eh trivial ?_
     refine V.pz h55 [(0, .q (.bool (decide (¬ (ahd (at_ scR l ((i : Int) - 1)) (at_ scR l (i : Int)))))) V.t_not)] 31 32 [(33, .bool (decide (¬ (ahd (at_ scR l ((i : Int) - 1)) (at_ scR l (i : Int))))))] fun a h60 => k25 _ _ ?_
     refine V.cp h60 (¬ (ahd (at_ scR l ((i : Int) - 1)) (at_ scR l (i : Int)))) (fun ht61 => ?_) (fun ht61 => ?_)
     ·
      refine V.sr h60 [] 1 0 [(2, .bool false)] fun a h64 => ?_
      refine V.ret (V.blk_r (V.then_r (V.then_r (V.blk_r (V.then_r ?_)))))
      refine V.r1 h64 (.bool false) ?_
      exact ⟨congrArg (fun b => Ending.returned (Value.bool b)) (bP_no fun hq => (AllG.no (i := i) (by omega) (fun hg => by unfold gM at hg; first | omega | (have h1 := hg.2; first | omega | (exact absurd (h1 (by omega)) (by assumption)) | (exact absurd (h1 rfl (by omega)) (by assumption)) | (have h2 := h1.2; exact absurd (h2 (by omega)) (by assumption)) | (have h2 := hg.2.2; exact absurd (h2 (by omega)) (by assumption))))) hq.1), hF_56⟩
     ·
      refine V.skip (V.blk_n ?_)
      refine V.then_n (k23 _ _ ?_)
      refine V.rr h60 [(1, .i ((i : Int) + 1))] 8 9 [(3, .int .i64 ((i : Int) + 1))] fun a h65 => ?_
      refine V.then_n ?_
      refine ⟨i + 1, by omega, ?_⟩
      refine ⟨(h65.eq 3 (v := (.int .i64 ((i : Int) + 1))) (u := (.int .i64 ((i + 1) : Int))) (V.int_eq (by omega))).only _, hF_56, hSl_57, (by omega), (hG.step (by unfold gM; exact ⟨by omega, fun h0 => by first | omega | exact Decidable.of_not_not (by assumption) | assumption⟩))⟩
    ·
     have h66 := h46.kf 20 hg47
     refine V.se h66 [] 21 28 [(22, undef), (25, undef), (29, undef)] fun a h67 => ?_
     refine V.run h67 [] 1 1 0 [(30, undef)] fun a h68 => ?_
     refine V.eh trivial ?_
     refine V.pz h68 [] 31 32 [(33, .bool false)] fun a h69 => k25 _ _ ?_
     refine V.cf h69 ?_
     refine V.skip (V.blk_n ?_)
     refine V.then_n (k23 _ _ ?_)
     refine V.rr h69 [(1, .i ((i : Int) + 1))] 8 9 [(3, .int .i64 ((i : Int) + 1))] fun a h70 => ?_
     refine V.then_n ?_
     refine ⟨i + 1, by omega, ?_⟩
     refine ⟨(h70.eq 3 (v := (.int .i64 ((i : Int) + 1))) (u := (.int .i64 ((i + 1) : Int))) (V.int_eq (by omega))).only _, hF_28, hSl_29, (by omega), (hG.step (by unfold gM; exact ⟨by omega, fun h0 => by first | omega | exact Decidable.of_not_not (by assumption) | assumption⟩))⟩
  ·
   refine V.exit (V.then_e (V.then_e (V.blk_hit ?_)))
   refine V.then_n (k6 _ _ ?_)
   refine V.sg fun K71 k72 => ?_
   refine V.run h20 [] 1 1 0 [(34, .slice Al l.length cl)] fun a h73 => ?_
   refine V.cl h73 (Go.Proofs.enters_of Tryz.func138 (by kernel_rfl) rfl) (twice_any w11 Al cl l hSl_14.old (by omega)) ?_
   rintro _ w75 ⟨rfl, hF74⟩
   refine ⟨_, rfl, fun a h76 => ?_⟩
   have hsw75 := hF74.size
   have hF_77 := hF_13.new hF74
   refine V.re h76 [(0, .q (.bool (decide (¬ (¬ ((((setOf (mTx l l.length)).length : Nat) : Int) = ((l.length : Nat) : Int)))))) V.t_not)] 36 36 [(2, .bool (decide (¬ (¬ ((((setOf (mTx l l.length)).length : Nat) : Int) = ((l.length : Nat) : Int))))))] fun a h79 => k72 _ _ ?_
   refine V.ret ?_
   refine V.r1 h79 (.bool (decide (¬ (¬ ((((setOf (mTx l l.length)).length : Nat) : Int) = ((l.length : Nat) : Int)))))) ?_
   exact ⟨congrArg (fun b => Ending.returned (Value.bool b)) (bP_dec.trans (congrArg bP (propext ⟨fun h => ⟨hG.le (by omega), by omega⟩, fun h => by have := h.2; omega⟩))), hF_77⟩
theorem bP_of {p : Prop} (h : bP p = true) : p := by unfold bP at h; exact @of_decide_eq_true p (Classical.propDecidable p) h
/-- May a value be? -/
def okV (k : Int) (s : ByteArray) (l : List ByteArray) (z : List (ByteArray × Int)) (h : List (ByteArray × ByteArray)) : Prop :=
  if k = 1 then s.size ≤ 65536 ∧ l.length = 0 ∧ z.length = 0 ∧ h.length = 0
  else if k = 2 then s = ⟨#[]⟩ ∧ z.length = 0 ∧ h.length = 0 ∧ (1 ≤ (l.length : Int) ∧ (l.length : Int) ≤ 65536) ∧ AllG (gT l false) l.length
  else if k = 3 then s = ⟨#[]⟩ ∧ z.length = 0 ∧ h.length = 0 ∧ (1 ≤ (l.length : Int) ∧ (l.length : Int) ≤ 65536) ∧ AllG (gT l true) l.length
  else if k = 4 then s = ⟨#[]⟩ ∧ l.length = 0 ∧ h.length = 0 ∧ (1 ≤ (z.length : Int) ∧ (z.length : Int) ≤ 65536) ∧ (AllG (gM z) z.length ∧ (setOf (mTx z z.length)).length = z.length)
  else if k = 5 then s = ⟨#[]⟩ ∧ l.length = 0 ∧ z.length = 0 ∧ (1 ≤ (h.length : Int) ∧ (h.length : Int) ≤ 65536) ∧ AllG (gF h) h.length
  else False
/-- May an entry be? -/
def okE (key : ByteArray) (at' : Int) (v : Prop) : Prop := key.size ≤ 65536 ∧ (at' = -1 ∨ (0 ≤ at' ∧ at' ≤ 1099511627776)) ∧ v
theorem is_any (w : World) (k : Int) (s : ByteArray) (Al : Option Addr) (cl : Nat) (l : List ByteArray) (hSl : SlR Rp.str (fun k => k < w.heap.size) w (.slice Al l.length cl) l) (Az : Option Addr) (cz : Nat) (z : List (ByteArray × Int)) (hSz : SlR scR (fun k => k < w.heap.size) w (.slice Az z.length cz) z) (Ah : Option Addr) (ch : Nat) (h : List (ByteArray × ByteArray)) (hSh : SlR fdR (fun k => k < w.heap.size) w (.slice Ah h.length ch) h) : Calls Tryz.prog 49 #[.agg #[.int .i64 k, .string s, .slice Al l.length cl, .slice Az z.length cz, .slice Ah h.length ch]] w (fun e w' => e = .returned (.bool (bP (okV k s l z h))) ∧ Fr [] w w') := by
 have hF := Fr.refl [] w
 refine V.en 119 Tryz.func49 fun a h1 => ?_
 refine V.sg fun K2 k3 => ?_
 refine V.go (V.mk [(0, .agg #[.int .i64 k, .string s, .slice Al l.length cl, .slice Az z.length cz, .slice Ah h.length ch])] ⟨h1.e, trivial⟩ (by kernel_rfl) [.int .i64 k, .string s, .slice Al l.length cl, .slice Az z.length cz, .slice Ah h.length ch] 46 (fun b => .pointer (some ⟨b, 0, none⟩)) (by kernel_rfl) ?_)
 intro w5 b4 heb4 hB6 hF7 hsb4
 have hF_8 := hF.new hF7
 have hSl_9 := hSl.fr0 hF7
 have hSz_10 := hSz.fr0 hF7
 have hSh_11 := hSh.fr0 hF7
 refine V.pt h1 fun a h12 => ?_
 refine V.re h12 [] 2 2 [] fun a h13 => k3 _ _ ?_
 refine V.seq fun K14 k15 => ?_
 refine V.pl [([0,1,2,3,4,5,6,7,8,9,10,11,12,13,14,15,16,17,18],none)] fun w16 hF17 hsw16 => ?_
 have hF_18 := hF_8.new hF17
 have hSl_19 := hSl_9.fr0 hF17
 have hSz_20 := hSz_10.fr0 hF17
 have hSh_21 := hSh_11.fr0 hF17
 have hB6_22 := hB6.fr0 hF17
 refine V.pz h13 [(1, .b hB6_22 1), (0, .seq s ⟨#[]⟩), (1, .b hB6_22 2), (1, .eq ((l.length : Nat) : Int) 0), (1, .b hB6_22 3), (1, .eq ((z.length : Nat) : Int) 0), (1, .b hB6_22 4), (1, .eq ((h.length : Nat) : Int) 0)] 7 21 [(3, .bool (decide (s = ⟨#[]⟩))), (4, .bool (decide (((l.length : Nat) : Int) = 0))), (5, .bool (decide (((z.length : Nat) : Int) = 0))), (6, .bool (decide (((h.length : Nat) : Int) = 0)))] fun a h23 => k15 _ _ ?_
 refine V.seq fun K24 k25 => ?_
 refine V.sr h23 [(1, .b hB6_22 0)] 22 22 [(23, .int .i64 k)] fun a h28 => ?_
 refine V.block ?_
 refine V.sr h28 [(0, .eq k 1)] 25 25 [(24, .bool (decide (k = 1)))] fun a h31 => ?_
 refine V.cp h31 (k = 1) (fun ht32 => ?_) (fun ht32 => ?_)
 ·
  refine V.sg fun K33 k34 => ?_
  refine V.run h31 [(1, .b hB6_22 1)] 5 26 29 [(30, .bool (decide ((s.size : Int) ≤ 65536)))] fun a h35 => ?_
  by_cases hg36 : (s.size : Int) ≤ 65536
  ·
   have h37 := h35.kt 30 hg36
   refine V.run h37 [] 3 31 32 [(33, .bool (decide (((l.length : Nat) : Int) = 0)))] fun a h38 => ?_
   by_cases hg39 : ((l.length : Nat) : Int) = 0
   ·
    have h40 := h38.kt 33 hg39
    refine V.run h40 [] 3 34 35 [(36, .bool (decide (((z.length : Nat) : Int) = 0)))] fun a h41 => ?_
    by_cases hg42 : ((z.length : Nat) : Int) = 0
    ·
     have h43 := h41.kt 36 hg42
     refine V.re h43 [] 37 38 [(2, .bool (decide (((h.length : Nat) : Int) = 0)))] fun a h44 => k34 _ _ ?_
     refine V.ret (V.blk_r (V.then_r ?_))
     refine V.r1 h44 (.bool (decide (((h.length : Nat) : Int) = 0))) ?_
     unfold okV
     rw [if_pos ht32]
     exact ⟨congrArg (fun b => Ending.returned (Value.bool b)) (bP_dec.trans (congrArg bP (propext ⟨fun q => ⟨by omega, by omega, by omega, by omega⟩, fun q => by omega⟩))), hF_18⟩
    ·
     have h45 := h41.kf 36 hg42
     refine V.re h45 [] 37 38 [(2, .bool false)] fun a h46 => k34 _ _ ?_
     refine V.ret (V.blk_r (V.then_r ?_))
     refine V.r1 h46 (.bool false) ?_
     unfold okV
     rw [if_pos ht32]
     exact ⟨congrArg (fun b => Ending.returned (Value.bool b)) (bP_no fun hq => by omega), hF_18⟩
   ·
    have h47 := h38.kf 33 hg39
    refine V.re h47 [] 34 38 [(2, .bool false)] fun a h48 => k34 _ _ ?_
    refine V.ret (V.blk_r (V.then_r ?_))
    refine V.r1 h48 (.bool false) ?_
    unfold okV
    rw [if_pos ht32]
    exact ⟨congrArg (fun b => Ending.returned (Value.bool b)) (bP_no fun hq => by omega), hF_18⟩
  ·
   have h49 := h35.kf 30 hg36
   refine V.re h49 [] 31 38 [(2, .bool false)] fun a h50 => k34 _ _ ?_
   refine V.ret (V.blk_r (V.then_r ?_))
   refine V.r1 h50 (.bool false) ?_
   unfold okV
   rw [if_pos ht32]
   exact ⟨congrArg (fun b => Ending.returned (Value.bool b)) (bP_no fun hq => by omega), hF_18⟩
 ·
  refine V.sr h31 [(0, .eq k 2)] 40 40 [(39, .bool (decide (k = 2)))] fun a h53 => ?_
  refine V.cp h53 (k = 2) (fun ht54 => ?_) (fun ht54 => ?_)
  ·
   refine V.sg fun K55 k56 => ?_
   refine V.run h53 [] 2 41 41 [(42, .bool (decide (s = ⟨#[]⟩)))] fun a h57 => ?_
   by_cases hg58 : s = ⟨#[]⟩
   ·
    have h59 := h57.kt 42 hg58
    refine V.run h59 [] 3 43 44 [(45, .bool (decide (((z.length : Nat) : Int) = 0)))] fun a h60 => ?_
    by_cases hg61 : ((z.length : Nat) : Int) = 0
    ·
     have h62 := h60.kt 45 hg61
     refine V.run h62 [] 3 46 47 [(48, .bool (decide (((h.length : Nat) : Int) = 0)))] fun a h63 => ?_
     by_cases hg64 : ((h.length : Nat) : Int) = 0
     ·
      have h65 := h63.kt 48 hg64
      refine V.run h65 [(1, .b hB6_22 2)] 3 49 50 [(51, .int .i64 ((l.length : Nat) : Int))] fun a h66 => ?_
      refine V.clg h66 (Go.Proofs.enters_of Tryz.func104 (by kernel_rfl) rfl) (rsized_any w16 ((l.length : Nat) : Int)) ?_
      rintro _ w68 ⟨rfl, hF67⟩
      refine ⟨_, rfl, fun a h69 => ?_⟩
      have hsw68 := hF67.size
      have hF_70 := hF_18.new hF67
      have hSl_71 := hSl_19.fr0 hF67
      have hB6_74 := hB6_22.fr0 hF67
      refine V.run h69 [] 2 53 53 [(54, .bool (bP (1 ≤ ((l.length : Nat) : Int) ∧ ((l.length : Nat) : Int) ≤ 65536)))] fun a h75 => ?_
      by_cases hg76 : (bP (1 ≤ ((l.length : Nat) : Int) ∧ ((l.length : Nat) : Int) ≤ 65536)) = true
      ·
       have h77 := h75.kbt 54 hg76
       refine V.run h77 [(1, .b hB6_74 2)] 2 55 55 [(56, .slice Al l.length cl)] fun a h78 => ?_
       refine V.clg h78 (Go.Proofs.enters_of Tryz.func105 (by kernel_rfl) rfl) (rtexts_false w68 Al cl l hSl_71.old) ?_
       rintro _ w80 ⟨rfl, hF79⟩
       refine ⟨_, rfl, fun a h81 => ?_⟩
       have hsw80 := hF79.size
       have hF_82 := hF_70.new hF79
       refine V.re h81 [] 58 58 [(2, .bool (bP (AllG (gT l false) l.length)))] fun a h87 => k56 _ _ ?_
       have h88 := h87.only [(2, .bool (bP (AllG (gT l false) l.length)))]
       refine V.ret (V.blk_r (V.then_r ?_))
       refine V.r1 h88 (.bool (bP (AllG (gT l false) l.length))) ?_
       unfold okV
       rw [if_neg ht32]
       rw [if_pos ht54]
       exact ⟨congrArg (fun b => Ending.returned (Value.bool b)) (congrArg bP (propext ⟨fun q => ⟨hg58, by omega, by omega, bP_of hg76, q⟩, fun q => q.2.2.2.2⟩)), hF_82⟩
      ·
       have h89 := h75.kbf 54 hg76
       refine V.re h89 [] 55 58 [(2, .bool false)] fun a h90 => k56 _ _ ?_
       have h91 := h90.only [(2, .bool false)]
       refine V.ret (V.blk_r (V.then_r ?_))
       refine V.r1 h91 (.bool false) ?_
       unfold okV
       rw [if_neg ht32]
       rw [if_pos ht54]
       exact ⟨congrArg (fun b => Ending.returned (Value.bool b)) (bP_no fun hq => by (obtain ⟨q1, q2, q3, q4, q5⟩ := hq; first | omega | exact absurd q1 (by assumption) | exact absurd (bP_yes q4).symm (by assumption))), hF_70⟩
     ·
      have h92 := h63.kf 48 hg64
      refine V.re h92 [] 49 58 [(2, .bool false)] fun a h93 => k56 _ _ ?_
      have h94 := h93.only [(2, .bool false)]
      refine V.ret (V.blk_r (V.then_r ?_))
      refine V.r1 h94 (.bool false) ?_
      unfold okV
      rw [if_neg ht32]
      rw [if_pos ht54]
      exact ⟨congrArg (fun b => Ending.returned (Value.bool b)) (bP_no fun hq => by (obtain ⟨q1, q2, q3, q4, q5⟩ := hq; first | omega | exact absurd q1 (by assumption) | exact absurd (bP_yes q4).symm (by assumption))), hF_18⟩
    ·
     have h95 := h60.kf 45 hg61
     refine V.re h95 [] 46 58 [(2, .bool false)] fun a h96 => k56 _ _ ?_
     have h97 := h96.only [(2, .bool false)]
     refine V.ret (V.blk_r (V.then_r ?_))
     refine V.r1 h97 (.bool false) ?_
     unfold okV
     rw [if_neg ht32]
     rw [if_pos ht54]
     exact ⟨congrArg (fun b => Ending.returned (Value.bool b)) (bP_no fun hq => by (obtain ⟨q1, q2, q3, q4, q5⟩ := hq; first | omega | exact absurd q1 (by assumption) | exact absurd (bP_yes q4).symm (by assumption))), hF_18⟩
   ·
    have h98 := h57.kf 42 hg58
    refine V.re h98 [] 43 58 [(2, .bool false)] fun a h99 => k56 _ _ ?_
    have h100 := h99.only [(2, .bool false)]
    refine V.ret (V.blk_r (V.then_r ?_))
    refine V.r1 h100 (.bool false) ?_
    unfold okV
    rw [if_neg ht32]
    rw [if_pos ht54]
    exact ⟨congrArg (fun b => Ending.returned (Value.bool b)) (bP_no fun hq => by (obtain ⟨q1, q2, q3, q4, q5⟩ := hq; first | omega | exact absurd q1 (by assumption) | exact absurd (bP_yes q4).symm (by assumption))), hF_18⟩
  ·
   refine V.sr h53 [(0, .eq k 3)] 60 60 [(59, .bool (decide (k = 3)))] fun a h103 => ?_
   refine V.cp h103 (k = 3) (fun ht104 => ?_) (fun ht104 => ?_)
   ·
    refine V.sg fun K105 k106 => ?_
    refine V.run h103 [] 2 61 61 [(62, .bool (decide (s = ⟨#[]⟩)))] fun a h107 => ?_
    by_cases hg108 : s = ⟨#[]⟩
    ·
     have h109 := h107.kt 62 hg108
     refine V.run h109 [] 3 63 64 [(65, .bool (decide (((z.length : Nat) : Int) = 0)))] fun a h110 => ?_
     by_cases hg111 : ((z.length : Nat) : Int) = 0
     ·
      have h112 := h110.kt 65 hg111
      refine V.run h112 [] 3 66 67 [(68, .bool (decide (((h.length : Nat) : Int) = 0)))] fun a h113 => ?_
      by_cases hg114 : ((h.length : Nat) : Int) = 0
      ·
       have h115 := h113.kt 68 hg114
       refine V.run h115 [(1, .b hB6_22 2)] 3 69 70 [(71, .int .i64 ((l.length : Nat) : Int))] fun a h116 => ?_
       refine V.clg h116 (Go.Proofs.enters_of Tryz.func104 (by kernel_rfl) rfl) (rsized_any w16 ((l.length : Nat) : Int)) ?_
       rintro _ w118 ⟨rfl, hF117⟩
       refine ⟨_, rfl, fun a h119 => ?_⟩
       have hsw118 := hF117.size
       have hF_120 := hF_18.new hF117
       have hSl_121 := hSl_19.fr0 hF117
       have hB6_124 := hB6_22.fr0 hF117
       refine V.run h119 [] 2 73 73 [(74, .bool (bP (1 ≤ ((l.length : Nat) : Int) ∧ ((l.length : Nat) : Int) ≤ 65536)))] fun a h125 => ?_
       by_cases hg126 : (bP (1 ≤ ((l.length : Nat) : Int) ∧ ((l.length : Nat) : Int) ≤ 65536)) = true
       ·
        have h127 := h125.kbt 74 hg126
        refine V.run h127 [(1, .b hB6_124 2)] 2 75 75 [(76, .slice Al l.length cl)] fun a h128 => ?_
        refine V.clg h128 (Go.Proofs.enters_of Tryz.func105 (by kernel_rfl) rfl) (rtexts_true w118 Al cl l hSl_121.old) ?_
        rintro _ w130 ⟨rfl, hF129⟩
        refine ⟨_, rfl, fun a h131 => ?_⟩
        have hsw130 := hF129.size
        have hF_132 := hF_120.new hF129
        refine V.re h131 [] 78 78 [(2, .bool (bP (AllG (gT l true) l.length)))] fun a h137 => k106 _ _ ?_
        have h138 := h137.only [(2, .bool (bP (AllG (gT l true) l.length)))]
        refine V.ret (V.blk_r (V.then_r ?_))
        refine V.r1 h138 (.bool (bP (AllG (gT l true) l.length))) ?_
        unfold okV
        rw [if_neg ht32]
        rw [if_neg ht54]
        rw [if_pos ht104]
        exact ⟨congrArg (fun b => Ending.returned (Value.bool b)) (congrArg bP (propext ⟨fun q => ⟨hg108, by omega, by omega, bP_of hg126, q⟩, fun q => q.2.2.2.2⟩)), hF_132⟩
       ·
        have h139 := h125.kbf 74 hg126
        refine V.re h139 [] 75 78 [(2, .bool false)] fun a h140 => k106 _ _ ?_
        have h141 := h140.only [(2, .bool false)]
        refine V.ret (V.blk_r (V.then_r ?_))
        refine V.r1 h141 (.bool false) ?_
        unfold okV
        rw [if_neg ht32]
        rw [if_neg ht54]
        rw [if_pos ht104]
        exact ⟨congrArg (fun b => Ending.returned (Value.bool b)) (bP_no fun hq => by (obtain ⟨q1, q2, q3, q4, q5⟩ := hq; first | omega | exact absurd q1 (by assumption) | exact absurd (bP_yes q4).symm (by assumption))), hF_120⟩
      ·
       have h142 := h113.kf 68 hg114
       refine V.re h142 [] 69 78 [(2, .bool false)] fun a h143 => k106 _ _ ?_
       have h144 := h143.only [(2, .bool false)]
       refine V.ret (V.blk_r (V.then_r ?_))
       refine V.r1 h144 (.bool false) ?_
       unfold okV
       rw [if_neg ht32]
       rw [if_neg ht54]
       rw [if_pos ht104]
       exact ⟨congrArg (fun b => Ending.returned (Value.bool b)) (bP_no fun hq => by (obtain ⟨q1, q2, q3, q4, q5⟩ := hq; first | omega | exact absurd q1 (by assumption) | exact absurd (bP_yes q4).symm (by assumption))), hF_18⟩
     ·
      have h145 := h110.kf 65 hg111
      refine V.re h145 [] 66 78 [(2, .bool false)] fun a h146 => k106 _ _ ?_
      have h147 := h146.only [(2, .bool false)]
      refine V.ret (V.blk_r (V.then_r ?_))
      refine V.r1 h147 (.bool false) ?_
      unfold okV
      rw [if_neg ht32]
      rw [if_neg ht54]
      rw [if_pos ht104]
      exact ⟨congrArg (fun b => Ending.returned (Value.bool b)) (bP_no fun hq => by (obtain ⟨q1, q2, q3, q4, q5⟩ := hq; first | omega | exact absurd q1 (by assumption) | exact absurd (bP_yes q4).symm (by assumption))), hF_18⟩
    ·
     have h148 := h107.kf 62 hg108
     refine V.re h148 [] 63 78 [(2, .bool false)] fun a h149 => k106 _ _ ?_
     have h150 := h149.only [(2, .bool false)]
     refine V.ret (V.blk_r (V.then_r ?_))
     refine V.r1 h150 (.bool false) ?_
     unfold okV
     rw [if_neg ht32]
     rw [if_neg ht54]
     rw [if_pos ht104]
     exact ⟨congrArg (fun b => Ending.returned (Value.bool b)) (bP_no fun hq => by (obtain ⟨q1, q2, q3, q4, q5⟩ := hq; first | omega | exact absurd q1 (by assumption) | exact absurd (bP_yes q4).symm (by assumption))), hF_18⟩
   ·
    refine V.sr h103 [(0, .eq k 4)] 80 80 [(79, .bool (decide (k = 4)))] fun a h153 => ?_
    refine V.cp h153 (k = 4) (fun ht154 => ?_) (fun ht154 => ?_)
    ·
     refine V.sg fun K155 k156 => ?_
     refine V.run h153 [] 2 81 81 [(82, .bool (decide (s = ⟨#[]⟩)))] fun a h157 => ?_
     by_cases hg158 : s = ⟨#[]⟩
     ·
      have h159 := h157.kt 82 hg158
      refine V.run h159 [] 3 83 84 [(85, .bool (decide (((l.length : Nat) : Int) = 0)))] fun a h160 => ?_
      by_cases hg161 : ((l.length : Nat) : Int) = 0
      ·
       have h162 := h160.kt 85 hg161
       refine V.run h162 [] 3 86 87 [(88, .bool (decide (((h.length : Nat) : Int) = 0)))] fun a h163 => ?_
       by_cases hg164 : ((h.length : Nat) : Int) = 0
       ·
        have h165 := h163.kt 88 hg164
        refine V.run h165 [(1, .b hB6_22 3)] 3 89 90 [(91, .int .i64 ((z.length : Nat) : Int))] fun a h166 => ?_
        refine V.clg h166 (Go.Proofs.enters_of Tryz.func104 (by kernel_rfl) rfl) (rsized_any w16 ((z.length : Nat) : Int)) ?_
        rintro _ w168 ⟨rfl, hF167⟩
        refine ⟨_, rfl, fun a h169 => ?_⟩
        have hsw168 := hF167.size
        have hF_170 := hF_18.new hF167
        have hSz_172 := hSz_20.fr0 hF167
        have hB6_174 := hB6_22.fr0 hF167
        refine V.run h169 [] 2 93 93 [(94, .bool (bP (1 ≤ ((z.length : Nat) : Int) ∧ ((z.length : Nat) : Int) ≤ 65536)))] fun a h175 => ?_
        by_cases hg176 : (bP (1 ≤ ((z.length : Nat) : Int) ∧ ((z.length : Nat) : Int) ≤ 65536)) = true
        ·
         have h177 := h175.kbt 94 hg176
         refine V.run h177 [(1, .b hB6_174 3)] 2 95 95 [(96, .slice Az z.length cz)] fun a h178 => ?_
         refine V.clg h178 (Go.Proofs.enters_of Tryz.func106 (by kernel_rfl) rfl) (rmembers_any w168 Az cz z hSz_172.old (by first | omega | (have hq := bP_of (p := 1 ≤ ((z.length : Nat) : Int) ∧ ((z.length : Nat) : Int) ≤ 65536) (by assumption); omega))) ?_
         rintro _ w180 ⟨rfl, hF179⟩
         refine ⟨_, rfl, fun a h181 => ?_⟩
         have hsw180 := hF179.size
         have hF_182 := hF_170.new hF179
         refine V.re h181 [] 98 98 [(2, .bool (bP (AllG (gM z) z.length ∧ (setOf (mTx z z.length)).length = z.length)))] fun a h187 => k156 _ _ ?_
         have h188 := h187.only [(2, .bool (bP (AllG (gM z) z.length ∧ (setOf (mTx z z.length)).length = z.length)))]
         refine V.ret (V.blk_r (V.then_r ?_))
         refine V.r1 h188 (.bool (bP (AllG (gM z) z.length ∧ (setOf (mTx z z.length)).length = z.length))) ?_
         unfold okV
         rw [if_neg ht32]
         rw [if_neg ht54]
         rw [if_neg ht104]
         rw [if_pos ht154]
         exact ⟨congrArg (fun b => Ending.returned (Value.bool b)) (congrArg bP (propext ⟨fun q => ⟨hg158, by omega, by omega, bP_of hg176, q⟩, fun q => q.2.2.2.2⟩)), hF_182⟩
        ·
         have h189 := h175.kbf 94 hg176
         refine V.re h189 [] 95 98 [(2, .bool false)] fun a h190 => k156 _ _ ?_
         have h191 := h190.only [(2, .bool false)]
         refine V.ret (V.blk_r (V.then_r ?_))
         refine V.r1 h191 (.bool false) ?_
         unfold okV
         rw [if_neg ht32]
         rw [if_neg ht54]
         rw [if_neg ht104]
         rw [if_pos ht154]
         exact ⟨congrArg (fun b => Ending.returned (Value.bool b)) (bP_no fun hq => by (obtain ⟨q1, q2, q3, q4, q5⟩ := hq; first | omega | exact absurd q1 (by assumption) | exact absurd (bP_yes q4).symm (by assumption))), hF_170⟩
       ·
        have h192 := h163.kf 88 hg164
        refine V.re h192 [] 89 98 [(2, .bool false)] fun a h193 => k156 _ _ ?_
        have h194 := h193.only [(2, .bool false)]
        refine V.ret (V.blk_r (V.then_r ?_))
        refine V.r1 h194 (.bool false) ?_
        unfold okV
        rw [if_neg ht32]
        rw [if_neg ht54]
        rw [if_neg ht104]
        rw [if_pos ht154]
        exact ⟨congrArg (fun b => Ending.returned (Value.bool b)) (bP_no fun hq => by (obtain ⟨q1, q2, q3, q4, q5⟩ := hq; first | omega | exact absurd q1 (by assumption) | exact absurd (bP_yes q4).symm (by assumption))), hF_18⟩
      ·
       have h195 := h160.kf 85 hg161
       refine V.re h195 [] 86 98 [(2, .bool false)] fun a h196 => k156 _ _ ?_
       have h197 := h196.only [(2, .bool false)]
       refine V.ret (V.blk_r (V.then_r ?_))
       refine V.r1 h197 (.bool false) ?_
       unfold okV
       rw [if_neg ht32]
       rw [if_neg ht54]
       rw [if_neg ht104]
       rw [if_pos ht154]
       exact ⟨congrArg (fun b => Ending.returned (Value.bool b)) (bP_no fun hq => by (obtain ⟨q1, q2, q3, q4, q5⟩ := hq; first | omega | exact absurd q1 (by assumption) | exact absurd (bP_yes q4).symm (by assumption))), hF_18⟩
     ·
      have h198 := h157.kf 82 hg158
      refine V.re h198 [] 83 98 [(2, .bool false)] fun a h199 => k156 _ _ ?_
      have h200 := h199.only [(2, .bool false)]
      refine V.ret (V.blk_r (V.then_r ?_))
      refine V.r1 h200 (.bool false) ?_
      unfold okV
      rw [if_neg ht32]
      rw [if_neg ht54]
      rw [if_neg ht104]
      rw [if_pos ht154]
      exact ⟨congrArg (fun b => Ending.returned (Value.bool b)) (bP_no fun hq => by (obtain ⟨q1, q2, q3, q4, q5⟩ := hq; first | omega | exact absurd q1 (by assumption) | exact absurd (bP_yes q4).symm (by assumption))), hF_18⟩
    ·
     refine V.sr h153 [(0, .eq k 5)] 100 100 [(99, .bool (decide (k = 5)))] fun a h203 => ?_
     refine V.cp h203 (k = 5) (fun ht204 => ?_) (fun ht204 => ?_)
     ·
      refine V.sg fun K205 k206 => ?_
      refine V.run h203 [] 2 101 101 [(102, .bool (decide (s = ⟨#[]⟩)))] fun a h207 => ?_
      by_cases hg208 : s = ⟨#[]⟩
      ·
       have h209 := h207.kt 102 hg208
       refine V.run h209 [] 3 103 104 [(105, .bool (decide (((l.length : Nat) : Int) = 0)))] fun a h210 => ?_
       by_cases hg211 : ((l.length : Nat) : Int) = 0
       ·
        have h212 := h210.kt 105 hg211
        refine V.run h212 [] 3 106 107 [(108, .bool (decide (((z.length : Nat) : Int) = 0)))] fun a h213 => ?_
        by_cases hg214 : ((z.length : Nat) : Int) = 0
        ·
         have h215 := h213.kt 108 hg214
         refine V.run h215 [(1, .b hB6_22 4)] 3 109 110 [(111, .int .i64 ((h.length : Nat) : Int))] fun a h216 => ?_
         refine V.clg h216 (Go.Proofs.enters_of Tryz.func104 (by kernel_rfl) rfl) (rsized_any w16 ((h.length : Nat) : Int)) ?_
         rintro _ w218 ⟨rfl, hF217⟩
         refine ⟨_, rfl, fun a h219 => ?_⟩
         have hsw218 := hF217.size
         have hF_220 := hF_18.new hF217
         have hSh_223 := hSh_21.fr0 hF217
         have hB6_224 := hB6_22.fr0 hF217
         refine V.run h219 [] 2 113 113 [(114, .bool (bP (1 ≤ ((h.length : Nat) : Int) ∧ ((h.length : Nat) : Int) ≤ 65536)))] fun a h225 => ?_
         by_cases hg226 : (bP (1 ≤ ((h.length : Nat) : Int) ∧ ((h.length : Nat) : Int) ≤ 65536)) = true
         ·
          have h227 := h225.kbt 114 hg226
          refine V.run h227 [(1, .b hB6_224 4)] 2 115 115 [(116, .slice Ah h.length ch)] fun a h228 => ?_
          refine V.clg h228 (Go.Proofs.enters_of Tryz.func107 (by kernel_rfl) rfl) (rfields_any w218 Ah ch h hSh_223.old) ?_
          rintro _ w230 ⟨rfl, hF229⟩
          refine ⟨_, rfl, fun a h231 => ?_⟩
          have hsw230 := hF229.size
          have hF_232 := hF_220.new hF229
          refine V.re h231 [] 118 118 [(2, .bool (bP (AllG (gF h) h.length)))] fun a h237 => k206 _ _ ?_
          have h238 := h237.only [(2, .bool (bP (AllG (gF h) h.length)))]
          refine V.ret (V.blk_r (V.then_r ?_))
          refine V.r1 h238 (.bool (bP (AllG (gF h) h.length))) ?_
          unfold okV
          rw [if_neg ht32]
          rw [if_neg ht54]
          rw [if_neg ht104]
          rw [if_neg ht154]
          rw [if_pos ht204]
          exact ⟨congrArg (fun b => Ending.returned (Value.bool b)) (congrArg bP (propext ⟨fun q => ⟨hg208, by omega, by omega, bP_of hg226, q⟩, fun q => q.2.2.2.2⟩)), hF_232⟩
         ·
          have h239 := h225.kbf 114 hg226
          refine V.re h239 [] 115 118 [(2, .bool false)] fun a h240 => k206 _ _ ?_
          have h241 := h240.only [(2, .bool false)]
          refine V.ret (V.blk_r (V.then_r ?_))
          refine V.r1 h241 (.bool false) ?_
          unfold okV
          rw [if_neg ht32]
          rw [if_neg ht54]
          rw [if_neg ht104]
          rw [if_neg ht154]
          rw [if_pos ht204]
          exact ⟨congrArg (fun b => Ending.returned (Value.bool b)) (bP_no fun hq => by (obtain ⟨q1, q2, q3, q4, q5⟩ := hq; first | omega | exact absurd q1 (by assumption) | exact absurd (bP_yes q4).symm (by assumption))), hF_220⟩
        ·
         have h242 := h213.kf 108 hg214
         refine V.re h242 [] 109 118 [(2, .bool false)] fun a h243 => k206 _ _ ?_
         have h244 := h243.only [(2, .bool false)]
         refine V.ret (V.blk_r (V.then_r ?_))
         refine V.r1 h244 (.bool false) ?_
         unfold okV
         rw [if_neg ht32]
         rw [if_neg ht54]
         rw [if_neg ht104]
         rw [if_neg ht154]
         rw [if_pos ht204]
         exact ⟨congrArg (fun b => Ending.returned (Value.bool b)) (bP_no fun hq => by (obtain ⟨q1, q2, q3, q4, q5⟩ := hq; first | omega | exact absurd q1 (by assumption) | exact absurd (bP_yes q4).symm (by assumption))), hF_18⟩
       ·
        have h245 := h210.kf 105 hg211
        refine V.re h245 [] 106 118 [(2, .bool false)] fun a h246 => k206 _ _ ?_
        have h247 := h246.only [(2, .bool false)]
        refine V.ret (V.blk_r (V.then_r ?_))
        refine V.r1 h247 (.bool false) ?_
        unfold okV
        rw [if_neg ht32]
        rw [if_neg ht54]
        rw [if_neg ht104]
        rw [if_neg ht154]
        rw [if_pos ht204]
        exact ⟨congrArg (fun b => Ending.returned (Value.bool b)) (bP_no fun hq => by (obtain ⟨q1, q2, q3, q4, q5⟩ := hq; first | omega | exact absurd q1 (by assumption) | exact absurd (bP_yes q4).symm (by assumption))), hF_18⟩
      ·
       have h248 := h207.kf 102 hg208
       refine V.re h248 [] 103 118 [(2, .bool false)] fun a h249 => k206 _ _ ?_
       have h250 := h249.only [(2, .bool false)]
       refine V.ret (V.blk_r (V.then_r ?_))
       refine V.r1 h250 (.bool false) ?_
       unfold okV
       rw [if_neg ht32]
       rw [if_neg ht54]
       rw [if_neg ht104]
       rw [if_neg ht154]
       rw [if_pos ht204]
       exact ⟨congrArg (fun b => Ending.returned (Value.bool b)) (bP_no fun hq => by (obtain ⟨q1, q2, q3, q4, q5⟩ := hq; first | omega | exact absurd q1 (by assumption) | exact absurd (bP_yes q4).symm (by assumption))), hF_18⟩
     ·
      refine V.skip (V.blk_n ?_)
      refine V.then_n (k25 _ _ ?_)
      refine V.sr h203 [] 1 0 [(2, .bool false)] fun a h253 => ?_
      refine V.ret ?_
      refine V.r1 h253 (.bool false) ?_
      unfold okV
      rw [if_neg ht32]
      rw [if_neg ht54]
      rw [if_neg ht104]
      rw [if_neg ht154]
      rw [if_neg ht204]
      exact ⟨congrArg (fun b => Ending.returned (Value.bool b)) (bP_no id), hF_18⟩
theorem rentry_any (w : World) (key : ByteArray) (k : Int) (s : ByteArray) (Al : Option Addr) (cl : Nat) (l : List ByteArray) (hSl : SlR Rp.str (fun k => k < w.heap.size) w (.slice Al l.length cl) l) (Az : Option Addr) (cz : Nat) (z : List (ByteArray × Int)) (hSz : SlR scR (fun k => k < w.heap.size) w (.slice Az z.length cz) z) (Ah : Option Addr) (ch : Nat) (h : List (ByteArray × ByteArray)) (hSh : SlR fdR (fun k => k < w.heap.size) w (.slice Ah h.length ch) h) (at' : Int) : Calls Tryz.prog 55 #[.agg #[.string key, .int .i64 k, .string s, .slice Al l.length cl, .slice Az z.length cz, .slice Ah h.length ch, .int .i64 at']] w (fun e w' => e = .returned (.bool (bP (okE key at' (okV k s l z h)))) ∧ Fr [] w w') := by
 have hF := Fr.refl [] w
 refine V.en 27 Tryz.func55 fun a h1 => ?_
 refine V.sg fun K2 k3 => ?_
 refine V.go (V.mk [(0, .agg #[.string key, .int .i64 k, .string s, .slice Al l.length cl, .slice Az z.length cz, .slice Ah h.length ch, .int .i64 at'])] ⟨h1.e, trivial⟩ (by kernel_rfl) [.string key, .int .i64 k, .string s, .slice Al l.length cl, .slice Az z.length cz, .slice Ah h.length ch, .int .i64 at'] 55 (fun b => .pointer (some ⟨b, 0, none⟩)) (by kernel_rfl) ?_)
 intro w5 b4 heb4 hB6 hF7 hsb4
 have hF_8 := hF.new hF7
 have hSl_9 := hSl.fr0 hF7
 have hSz_10 := hSz.fr0 hF7
 have hSh_11 := hSh.fr0 hF7
 refine V.pt h1 fun a h12 => ?_
 refine V.re h12 [] 2 2 [] fun a h13 => k3 _ _ ?_
 refine V.sg fun K14 k15 => ?_
 refine V.run h13 [(1, .b hB6 0)] 5 3 6 [(7, .bool (decide ((key.size : Int) ≤ 65536)))] fun a h16 => ?_
 by_cases hg17 : (key.size : Int) ≤ 65536
 ·
  have h18 := h16.kt 7 hg17
  refine V.run h18 [(1, .b hB6 6), (0, .eq at' (-1))] 4 8 10 [(11, .bool (decide (at' = (-1))))] fun a h19 => ?_
  by_cases hg20 : at' = (-1)
  ·
   have h21 := h19.kt 11 hg20
   refine V.run h21 [(4, .bs hB6 1 [.int .i64 k, .string s, .slice Al l.length cl, .slice Az z.length cz, .slice Ah h.length ch])] 13 12 23 [(22, .bool true), (24, .agg #[.int .i64 k, .string s, .slice Al l.length cl, .slice Az z.length cz, .slice Ah h.length ch])] fun a h22 => ?_
   refine V.clg h22 (Go.Proofs.enters_of Tryz.func49 (by kernel_rfl) rfl) (is_any w5 k s Al cl l hSl_9.old Az cz z hSz_10.old Ah ch h hSh_11.old) ?_
   rintro _ w24 ⟨rfl, hF23⟩
   refine ⟨_, rfl, fun a h25 => ?_⟩
   have hsw24 := hF23.size
   have hF_26 := hF_8.new hF23
   refine V.re h25 [] 26 26 [(2, .bool (bP (okV k s l z h)))] fun a h31 => k15 _ _ ?_
   refine V.ret ?_
   refine V.r1 h31 (.bool (bP (okV k s l z h))) ?_
   exact ⟨congrArg (fun b => Ending.returned (Value.bool b)) (congrArg bP (propext ⟨fun q => ⟨by omega, by omega, q⟩, fun q => q.2.2⟩)), hF_26⟩
  ·
   have h32 := h19.kf 11 hg20
   refine V.run h32 [(1, .b hB6 6)] 4 12 14 [(15, .bool (decide (at' ≥ 0)))] fun a h33 => ?_
   by_cases hg34 : at' ≥ 0
   ·
    have h35 := h33.kt 15 hg34
    refine V.run h35 [(1, .b hB6 6)] 7 16 21 [(22, .bool (decide (at' ≤ 1099511627776)))] fun a h36 => ?_
    by_cases hg37 : at' ≤ 1099511627776
    ·
     have h38 := h36.kt 22 hg37
     refine V.run h38 [(1, .bs hB6 1 [.int .i64 k, .string s, .slice Al l.length cl, .slice Az z.length cz, .slice Ah h.length ch])] 2 23 23 [(24, .agg #[.int .i64 k, .string s, .slice Al l.length cl, .slice Az z.length cz, .slice Ah h.length ch])] fun a h39 => ?_
     refine V.clg h39 (Go.Proofs.enters_of Tryz.func49 (by kernel_rfl) rfl) (is_any w5 k s Al cl l hSl_9.old Az cz z hSz_10.old Ah ch h hSh_11.old) ?_
     rintro _ w41 ⟨rfl, hF40⟩
     refine ⟨_, rfl, fun a h42 => ?_⟩
     have hsw41 := hF40.size
     have hF_43 := hF_8.new hF40
     refine V.re h42 [] 26 26 [(2, .bool (bP (okV k s l z h)))] fun a h48 => k15 _ _ ?_
     refine V.ret ?_
     refine V.r1 h48 (.bool (bP (okV k s l z h))) ?_
     exact ⟨congrArg (fun b => Ending.returned (Value.bool b)) (congrArg bP (propext ⟨fun q => ⟨by omega, by omega, q⟩, fun q => q.2.2⟩)), hF_43⟩
    ·
     have h49 := h36.kf 22 hg37
     refine V.re h49 [] 23 26 [(2, .bool false)] fun a h50 => k15 _ _ ?_
     refine V.ret ?_
     refine V.r1 h50 (.bool false) ?_
     exact ⟨congrArg (fun b => Ending.returned (Value.bool b)) (bP_no fun hq => by (obtain ⟨q1, q2, q3⟩ := hq; omega)), hF_8⟩
   ·
    have h51 := h33.kf 15 hg34
    refine V.re h51 [] 16 26 [(2, .bool false)] fun a h52 => k15 _ _ ?_
    refine V.ret ?_
    refine V.r1 h52 (.bool false) ?_
    exact ⟨congrArg (fun b => Ending.returned (Value.bool b)) (bP_no fun hq => by (obtain ⟨q1, q2, q3⟩ := hq; omega)), hF_8⟩
 ·
  have h53 := h16.kf 7 hg17
  refine V.re h53 [] 8 26 [(2, .bool false)] fun a h54 => k15 _ _ ?_
  refine V.ret ?_
  refine V.r1 h54 (.bool false) ?_
  exact ⟨congrArg (fun b => Ending.returned (Value.bool b)) (bP_no fun hq => by (obtain ⟨q1, q2, q3⟩ := hq; omega)), hF_8⟩
/-! ### Entries, as data that lead to rows -/
structure EnD where
  key : ByteArray
  k : Int
  s : ByteArray
  l : List ByteArray
  z : List (ByteArray × Int)
  h : List (ByteArray × ByteArray)
  till : Int
def enR : Rp EnD where
  dflt := ⟨⟨#[]⟩, 0, ⟨#[]⟩, [], [], [], 0⟩
  sz := 7
  ok := fun Z w x cs => ∃ vl vz vh, cs = [.string x.key, .int .i64 x.k, .string x.s, vl, vz, vh, .int .i64 x.till] ∧ SlR Rp.str Z w vl x.l ∧ SlR scR Z w vz x.z ∧ SlR fdR Z w vh x.h
  len := by rintro _ _ x cs ⟨vl, vz, vh, rfl, _⟩; rfl
  one := by
    rintro _ _ x cs ⟨vl, vz, vh, rfl, ⟨_, _, rfl, _⟩, ⟨_, _, rfl, _⟩, ⟨_, _, rfl, _⟩⟩ u hu
    simp at hu
    rcases hu with rfl | rfl | rfl | rfl | rfl | rfl | rfl <;> rfl
  mono := by
    rintro Z Z' w w' x cs hm hs ⟨vl, vz, vh, rfl, h1, h2, h3⟩
    exact ⟨vl, vz, vh, rfl, h1.mono hm hs, h2.mono hm hs, h3.mono hm hs⟩
theorem en_open {Z : Nat → Prop} {w : World} {x : EnD} {cs : List Value} (h : enR.ok Z w x cs) : ∃ Al cl Az cz Ah ch, cs = [.string x.key, .int .i64 x.k, .string x.s, .slice Al x.l.length cl, .slice Az x.z.length cz, .slice Ah x.h.length ch, .int .i64 x.till] ∧ SlR Rp.str Z w (.slice Al x.l.length cl) x.l ∧ SlR scR Z w (.slice Az x.z.length cz) x.z ∧ SlR fdR Z w (.slice Ah x.h.length ch) x.h := by
  obtain ⟨vl, vz, vh, rfl, h1, h2, h3⟩ := h
  obtain ⟨Al, cl, rfl, _⟩ := h1.slice
  obtain ⟨Az, cz, rfl, _⟩ := h2.slice
  obtain ⟨Ah, ch, rfl, _⟩ := h3.slice
  exact ⟨Al, cl, Az, cz, Ah, ch, rfl, h1, h2, h3⟩
def okD (x : EnD) : Prop := okE x.key x.till (okV x.k x.s x.l x.z x.h)
def gE (l : List EnD) (i : Nat) : Prop := okD (at_ enR l (i : Int)) ∧ (0 < i → slt (at_ enR l ((i : Int) - 1)).key (at_ enR l (i : Int)).key)
/-- Is a row an image? -/
noncomputable def imgN (l : List EnD) : Int := if l.length > 65536 then 3 else @ite Int (AllG (gE l) l.length) (Classical.propDecidable _) 0 90
theorem imgN_many {l : List EnD} (h : l.length > 65536) : imgN l = 3 := if_pos h
theorem imgN_ok {l : List EnD} (h : ¬ l.length > 65536) (hg : AllG (gE l) l.length) : imgN l = 0 := by unfold imgN; rw [if_neg h]; exact @if_pos _ (Classical.propDecidable _) hg _ _ _
theorem imgN_no {l : List EnD} (h : ¬ l.length > 65536) (hg : ¬ AllG (gE l) l.length) : imgN l = 90 := by unfold imgN; rw [if_neg h]; exact @if_neg _ (Classical.propDecidable _) hg _ _ _
/-- Two texts, held against each other. -/
def cmpS (x y : ByteArray) : Int := if slt x y then -1 else if slt y x then 1 else 0
theorem cmpS_neg (x y : ByteArray) : cmpS x y < 0 ↔ slt x y := by
  unfold cmpS; split
  · rename_i h; exact ⟨fun _ => h, fun _ => by omega⟩
  · rename_i h; exact ⟨fun q => by split at q <;> omega, fun q => absurd q h⟩
def cmpI (x y : Int) : Int := if x < y then -1 else if x > y then 1 else 0
theorem cmpI_neg (x y : Int) : cmpI x y < 0 ↔ x < y := by
  unfold cmpI; split
  · rename_i h; exact ⟨fun _ => h, fun _ => by omega⟩
  · rename_i h; exact ⟨fun q => by split at q <;> omega, fun q => absurd q h⟩
theorem rcheck_any (w : World) (Al : Option Addr) (cl : Nat) (l : List EnD) (hSl : SlR enR (fun k => k < w.heap.size) w (.slice Al l.length cl) l) : Calls Tryz.prog 21 #[.slice Al l.length cl] w (fun e w' => e = .returned (.int .i64 (imgN l)) ∧ Fr [] w w') := by
 have hF := Fr.refl [] w
 have hlen0 := hSl.len_le
 refine V.en 37 Tryz.func21 fun a h1 => ?_
 refine V.sr h1 [] 2 2 [] fun a h4 => ?_
 refine V.seq fun K5 k6 => ?_
 refine V.sr h4 [] 4 5 [(6, .bool (decide (((l.length : Nat) : Int) > 65536)))] fun a h9 => ?_
 refine V.cp h9 (((l.length : Nat) : Int) > 65536) (fun ht10 => ?_) (fun ht10 => ?_)
 ·
  refine V.sr h9 [] 1 0 [(2, .int .i64 3)] fun a h13 => ?_
  refine V.ret (V.then_r ?_)
  refine V.r1 h13 (.int .i64 3) ?_
  exact ⟨congrArg (fun b => Ending.returned (Value.int .i64 b)) (imgN_many (by omega)).symm, hF⟩
 ·
  refine V.skip ?_
  refine V.then_n (k6 _ _ ?_)
  refine V.seq fun K14 k15 => ?_
  refine V.sr h9 [] 1 0 [(3, .int .i64 0)] fun a h18 => ?_
  refine V.block ?_
  refine V.loop1 (fun (i : Nat) a_ w_ => En 37 [] a_ [(0, .slice Al l.length cl), (3, .int .i64 (i : Int))] ∧ Fr [] w w_ ∧ SlR enR (fun k => k < w.heap.size) w_ (.slice Al l.length cl) l ∧ (i ≤ l.length) ∧ (AllG (gE l) i)) (fun (i : Nat) => l.length - i) 0 ?_ ?_
  ·
   refine ⟨(h18.eq 3 (v := (.int .i64 0)) (u := (.int .i64 (0 : Int))) (V.int_eq (by omega))).only _, hF, hSl, (by omega), (AllG.zero _)⟩
  ·
   rintro i a19 w20 ⟨h21, hF_22, hSl_23, hi, hG⟩
   have hfs24 := hF_22.size
   refine V.seq fun K25 k26 => ?_
   refine V.sr h21 [] 7 9 [(10, .bool (decide ((i : Int) < ((l.length : Nat) : Int))))] fun a h29 => ?_
   refine V.cp h29 ((i : Int) < ((l.length : Nat) : Int)) (fun ht30 => ?_) (fun ht30 => ?_)
   ·
    refine V.skip ?_
    refine V.then_n (k26 _ _ ?_)
    refine V.seq fun K31 k32 => ?_
    refine V.block ?_
    refine V.seq fun K33 k34 => ?_
    refine V.pl [([0,1,2,3],some (4,[])),([5,6,7,8,9,10,11,12,13,14,15,16,17,18,19,20,21,22,23],none)] fun w35 hF36 hsw35 => ?_
    have hF_37 := hF_22.new hF36
    have hSl_38 := hSl_23.fr0 hF36
    obtain ⟨g39, o40, hA41, hA41l, hA41z⟩ := hSl_38.addr (by omega)
    obtain ⟨cs42, hok43, hE44⟩ := hSl_38.els hA41 (i : Int) (by omega) (by omega)
    obtain ⟨Al45, cl46, Az47, cz48, Ah49, ch50, rfl, hS51, hS52, hS53⟩ := en_open hok43
    refine V.pe h29 [(2, .ix g39 o40 l.length cl .i64 (i : Int) 7 hA41), (0, .ls ⟨g39, o40 + (i : Int).toNat * 7, none⟩ [.string ((at_ enR l (i : Int)).key), .int .i64 ((at_ enR l (i : Int)).k), .string ((at_ enR l (i : Int)).s), .slice Al45 ((at_ enR l (i : Int)).l.length) cl46, .slice Az47 ((at_ enR l (i : Int)).z.length) cz48, .slice Ah49 ((at_ enR l (i : Int)).h.length) ch50, .int .i64 ((at_ enR l (i : Int)).till)] (hE44.cells 0 _ rfl))] 13 15 [(16, .agg #[.string ((at_ enR l (i : Int)).key), .int .i64 ((at_ enR l (i : Int)).k), .string ((at_ enR l (i : Int)).s), .slice Al45 ((at_ enR l (i : Int)).l.length) cl46, .slice Az47 ((at_ enR l (i : Int)).z.length) cz48, .slice Ah49 ((at_ enR l (i : Int)).h.length) ch50, .int .i64 ((at_ enR l (i : Int)).till)])] fun a h54 => ?_
    refine V.cl h54 (Go.Proofs.enters_of Tryz.func55 (by kernel_rfl) rfl) (rentry_any w35 ((at_ enR l (i : Int)).key) ((at_ enR l (i : Int)).k) ((at_ enR l (i : Int)).s) Al45 cl46 ((at_ enR l (i : Int)).l) hS51.old Az47 cz48 ((at_ enR l (i : Int)).z) hS52.old Ah49 ch50 ((at_ enR l (i : Int)).h) hS53.old ((at_ enR l (i : Int)).till)) ?_
    rintro _ w56 ⟨rfl, hF55⟩
    refine ⟨_, rfl, fun a h57 => ?_⟩
    have hsw56 := hF55.size
    have hF_58 := hF_37.new hF55
    have hSl_59 := hSl_38.fr0 hF55
    have hE44_63 := hE44.fr0 hF55
    refine V.eh trivial ?_
    refine V.pz0 ?_
    refine V.run h57 [] 2 18 18 [(19, .bool (!(bP (okE ((at_ enR l (i : Int)).key) ((at_ enR l (i : Int)).till) (okV ((at_ enR l (i : Int)).k) ((at_ enR l (i : Int)).s) ((at_ enR l (i : Int)).l) ((at_ enR l (i : Int)).z) ((at_ enR l (i : Int)).h))))))] fun a h64 => ?_
    by_cases hg65 : (!(bP (okE ((at_ enR l (i : Int)).key) ((at_ enR l (i : Int)).till) (okV ((at_ enR l (i : Int)).k) ((at_ enR l (i : Int)).s) ((at_ enR l (i : Int)).l) ((at_ enR l (i : Int)).z) ((at_ enR l (i : Int)).h))))) = true
    ·
     have h66 := h64.kbt 19 hg65
     refine V.se h66 [] 21 35 [(20, undef), (22, undef), (24, undef), (28, undef), (33, undef), (36, .bool true)] fun a h67 => k34 _ _ ?_
     refine V.ct h67 ?_
     refine V.sr h67 [] 1 0 [(2, .int .i64 90)] fun a h70 => ?_
     refine V.ret (V.blk_r (V.then_r (V.then_r (V.blk_r (V.then_r ?_)))))
     refine V.r1 h70 (.int .i64 90) ?_
     have hpv := hg65
     exact ⟨congrArg (fun b => Ending.returned (Value.int .i64 b)) (imgN_no (by omega) (AllG.no (i := i) (by omega) fun hg => by first | (have h1 := (bP_yes hg.1).symm; unfold okD at h1; rw [h1] at hpv; simp at hpv; done) | (exact absurd (hg.2 (by omega)) (by assumption)))).symm, hF_58⟩
    ·
     have h71 := h64.kbf 19 hg65
     refine V.run h71 [] 3 21 21 [(20, .int .i64 (i : Int)), (22, .bool (decide ((i : Int) > 0)))] fun a h72 => ?_
     by_cases hg73 : (i : Int) > 0
     ·
      have h74 := h72.kt 22 hg73
      obtain ⟨cs75, hok76, hE77⟩ := hSl_59.els hA41 ((i : Int) - 1) (by omega) (by omega)
      obtain ⟨Al78, cl79, Az80, cz81, Ah82, ch83, rfl, hS84, hS85, hS86⟩ := en_open hok76
      refine V.se h74 [(2, .i ((i : Int) - 1)), (0, .ix g39 o40 l.length cl .i64 ((i : Int) - 1) 7 hA41), (1, .l ⟨g39, o40 + ((i : Int) - 1).toNat * 7, none⟩ (.string ((at_ enR l ((i : Int) - 1)).key)) (hE77.at 0 rfl)), (2, .ix g39 o40 l.length cl .i64 (i : Int) 7 hA41), (1, .l ⟨g39, o40 + (i : Int).toNat * 7, none⟩ (.string ((at_ enR l (i : Int)).key)) (hE44_63.at 0 rfl)), (0, .q (.bool (decide (¬ slt ((at_ enR l ((i : Int) - 1)).key) ((at_ enR l (i : Int)).key)))) V.t_sgeq)] 23 35 [(24, .int .i64 (i : Int)), (28, .string ((at_ enR l ((i : Int) - 1)).key)), (33, .string ((at_ enR l (i : Int)).key)), (36, .bool (decide (¬ slt ((at_ enR l ((i : Int) - 1)).key) ((at_ enR l (i : Int)).key))))] fun a h87 => k34 _ _ ?_
      refine V.cp h87 (¬ slt ((at_ enR l ((i : Int) - 1)).key) ((at_ enR l (i : Int)).key)) (fun ht88 => ?_) (fun ht88 => ?_)
      ·
       refine V.sr h87 [] 1 0 [(2, .int .i64 90)] fun a h91 => ?_
       refine V.ret (V.blk_r (V.then_r (V.then_r (V.blk_r (V.then_r ?_)))))
       refine V.r1 h91 (.int .i64 90) ?_
       have hpv := hg65
       exact ⟨congrArg (fun b => Ending.returned (Value.int .i64 b)) (imgN_no (by omega) (AllG.no (i := i) (by omega) fun hg => by first | (have h1 := (bP_yes hg.1).symm; unfold okD at h1; rw [h1] at hpv; simp at hpv; done) | (exact absurd (hg.2 (by omega)) (by assumption)))).symm, hF_58⟩
      ·
       refine V.skip (V.blk_n ?_)
       refine V.then_n (k32 _ _ ?_)
       refine V.rr h87 [(1, .i ((i : Int) + 1))] 11 12 [(3, .int .i64 ((i : Int) + 1))] fun a h92 => ?_
       refine V.then_n ?_
       refine ⟨i + 1, by omega, ?_⟩
       refine ⟨(h92.eq 3 (v := (.int .i64 ((i : Int) + 1))) (u := (.int .i64 ((i + 1) : Int))) (V.int_eq (by omega))).only _, hF_58, hSl_59, (by omega), (hG.step ⟨bP_of (by have hq := hg65; simp at hq; exact hq), fun h0 => by first | omega | exact Decidable.of_not_not (by assumption) | assumption⟩)⟩
     ·
      have h93 := h72.kf 22 hg73
      refine V.se h93 [] 23 35 [(24, undef), (28, undef), (33, undef), (36, .bool false)] fun a h94 => k34 _ _ ?_
      refine V.cf h94 ?_
      refine V.skip (V.blk_n ?_)
      refine V.then_n (k32 _ _ ?_)
      refine V.rr h94 [(1, .i ((i : Int) + 1))] 11 12 [(3, .int .i64 ((i : Int) + 1))] fun a h95 => ?_
      refine V.then_n ?_
      refine ⟨i + 1, by omega, ?_⟩
      refine ⟨(h95.eq 3 (v := (.int .i64 ((i : Int) + 1))) (u := (.int .i64 ((i + 1) : Int))) (V.int_eq (by omega))).only _, hF_58, hSl_59, (by omega), (hG.step ⟨bP_of (by have hq := hg65; simp at hq; exact hq), fun h0 => by first | omega | exact Decidable.of_not_not (by assumption) | assumption⟩)⟩
   ·
    refine V.exit (V.then_e (V.then_e (V.blk_hit ?_)))
    refine V.then_n (k15 _ _ ?_)
    refine V.sr h29 [] 1 0 [(2, .int .i64 0)] fun a h98 => ?_
    refine V.ret ?_
    refine V.r1 h98 (.int .i64 0) ?_
    exact ⟨congrArg (fun b => Ending.returned (Value.int .i64 b)) (imgN_ok (by omega) (hG.le (by omega))).symm, hF_22⟩
theorem nanS_any (w : World) (x : ByteArray) : Calls Tryz.prog 139 #[.string x] w (fun e w' => e = .returned (.bool (false)) ∧ Fr [] w w') := by
 have hF := Fr.refl [] w
 refine V.en 6 Tryz.func139 fun a h1 => ?_
 refine V.sr h1 [] 2 2 [] fun a h4 => ?_
 refine V.sr h4 [(2, .q (.bool false) (V.t_snsame x))] 3 5 [(2, .bool false)] fun a h7 => ?_
 refine V.ret ?_
 refine V.r1 h7 (.bool false) ?_
 exact ⟨rfl, hF⟩
theorem nanI_any (w : World) (x : Int) : Calls Tryz.prog 160 #[.int .i64 x] w (fun e w' => e = .returned (.bool (false)) ∧ Fr [] w w') := by
 have hF := Fr.refl [] w
 refine V.en 6 Tryz.func160 fun a h1 => ?_
 refine V.sr h1 [] 2 2 [] fun a h4 => ?_
 refine V.sr h4 [(2, .q (.bool false) (V.t_nsame x))] 3 5 [(2, .bool false)] fun a h7 => ?_
 refine V.ret ?_
 refine V.r1 h7 (.bool false) ?_
 exact ⟨rfl, hF⟩
theorem cmpS_any (w : World) (x y : ByteArray) : Calls Tryz.prog 108 #[.string x, .string y] w (fun e w' => e = .returned (.int .i64 (cmpS x y)) ∧ Fr [] w w') := by
 have hF := Fr.refl [] w
 refine V.en 20 Tryz.func108 fun a h1 => ?_
 refine V.sr h1 [] 4 4 [] fun a h4 => ?_
 refine V.sg fun K5 k6 => ?_
 refine V.run h4 [] 1 1 0 [(7, .string x)] fun a h7 => ?_
 refine V.cl h7 (Go.Proofs.enters_of Tryz.func139 (by kernel_rfl) rfl) (nanS_any w x) ?_
 rintro _ w9 ⟨rfl, hF8⟩
 refine ⟨_, rfl, fun a h10 => ?_⟩
 have hsw9 := hF8.size
 have hF_11 := hF.new hF8
 refine V.re h10 [] 1 0 [(5, .bool false)] fun a h12 => k6 _ _ ?_
 refine V.sg fun K13 k14 => ?_
 refine V.run h12 [] 1 1 0 [(9, .string y)] fun a h15 => ?_
 refine V.cl h15 (Go.Proofs.enters_of Tryz.func139 (by kernel_rfl) rfl) (nanS_any w9 y) ?_
 rintro _ w17 ⟨rfl, hF16⟩
 refine ⟨_, rfl, fun a h18 => ?_⟩
 have hsw17 := hF16.size
 have hF_19 := hF_11.new hF16
 refine V.re h18 [] 1 0 [(6, .bool false)] fun a h20 => k14 _ _ ?_
 refine V.seq fun K21 k22 => ?_
 refine V.sr h20 [] 1 0 [(11, .bool false)] fun a h25 => ?_
 refine V.cf h25 ?_
 refine V.skip ?_
 refine V.then_n (k22 _ _ ?_)
 refine V.seq fun K26 k27 => ?_
 refine V.sr h25 [] 1 0 [(13, .bool false)] fun a h30 => ?_
 refine V.cf h30 ?_
 refine V.skip ?_
 refine V.then_n (k27 _ _ ?_)
 refine V.seq fun K31 k32 => ?_
 refine V.sr h30 [(2, .q (.bool (decide (slt x y))) V.t_slss)] 14 15 [(16, .bool (decide (slt x y)))] fun a h35 => ?_
 refine V.cp h35 (slt x y) (fun ht36 => ?_) (fun ht36 => ?_)
 ·
  refine V.sr h35 [] 1 0 [(4, .int .i64 (-1))] fun a h39 => ?_
  refine V.ret (V.then_r ?_)
  refine V.r1 h39 (.int .i64 (-1)) ?_
  exact ⟨congrArg (fun b => Ending.returned (Value.int .i64 b)) (by unfold cmpS; first | (rw [if_pos (by assumption)]; done) | (rw [if_neg (by assumption), if_pos (by assumption)]; done) | (rw [if_neg (by assumption), if_neg (by assumption)])), hF_19⟩
 ·
  refine V.skip ?_
  refine V.then_n (k32 _ _ ?_)
  refine V.seq fun K40 k41 => ?_
  refine V.sr h35 [(2, .q (.bool (decide (slt y x))) V.t_sgtr)] 17 18 [(19, .bool (decide (slt y x)))] fun a h44 => ?_
  refine V.cp h44 (slt y x) (fun ht45 => ?_) (fun ht45 => ?_)
  ·
   refine V.sr h44 [] 1 0 [(4, .int .i64 1)] fun a h48 => ?_
   refine V.ret (V.then_r ?_)
   refine V.r1 h48 (.int .i64 1) ?_
   exact ⟨congrArg (fun b => Ending.returned (Value.int .i64 b)) (by unfold cmpS; first | (rw [if_pos (by assumption)]; done) | (rw [if_neg (by assumption), if_pos (by assumption)]; done) | (rw [if_neg (by assumption), if_neg (by assumption)])), hF_19⟩
  ·
   refine V.skip ?_
   refine V.then_n (k41 _ _ ?_)
   refine V.sr h44 [] 1 0 [(4, .int .i64 0)] fun a h51 => ?_
   refine V.ret ?_
   refine V.r1 h51 (.int .i64 0) ?_
   exact ⟨congrArg (fun b => Ending.returned (Value.int .i64 b)) (by unfold cmpS; first | (rw [if_pos (by assumption)]; done) | (rw [if_neg (by assumption), if_pos (by assumption)]; done) | (rw [if_neg (by assumption), if_neg (by assumption)])), hF_19⟩
theorem cmpI_any (w : World) (x y : Int) : Calls Tryz.prog 121 #[.int .i64 x, .int .i64 y] w (fun e w' => e = .returned (.int .i64 (cmpI x y)) ∧ Fr [] w w') := by
 have hF := Fr.refl [] w
 refine V.en 20 Tryz.func121 fun a h1 => ?_
 refine V.sr h1 [] 4 4 [] fun a h4 => ?_
 refine V.sg fun K5 k6 => ?_
 refine V.run h4 [] 1 1 0 [(7, .int .i64 x)] fun a h7 => ?_
 refine V.cl h7 (Go.Proofs.enters_of Tryz.func160 (by kernel_rfl) rfl) (nanI_any w x) ?_
 rintro _ w9 ⟨rfl, hF8⟩
 refine ⟨_, rfl, fun a h10 => ?_⟩
 have hsw9 := hF8.size
 have hF_11 := hF.new hF8
 refine V.re h10 [] 1 0 [(5, .bool false)] fun a h12 => k6 _ _ ?_
 refine V.sg fun K13 k14 => ?_
 refine V.run h12 [] 1 1 0 [(9, .int .i64 y)] fun a h15 => ?_
 refine V.cl h15 (Go.Proofs.enters_of Tryz.func160 (by kernel_rfl) rfl) (nanI_any w9 y) ?_
 rintro _ w17 ⟨rfl, hF16⟩
 refine ⟨_, rfl, fun a h18 => ?_⟩
 have hsw17 := hF16.size
 have hF_19 := hF_11.new hF16
 refine V.re h18 [] 1 0 [(6, .bool false)] fun a h20 => k14 _ _ ?_
 refine V.seq fun K21 k22 => ?_
 refine V.sr h20 [] 1 0 [(11, .bool false)] fun a h25 => ?_
 refine V.cf h25 ?_
 refine V.skip ?_
 refine V.then_n (k22 _ _ ?_)
 refine V.seq fun K26 k27 => ?_
 refine V.sr h25 [] 1 0 [(13, .bool false)] fun a h30 => ?_
 refine V.cf h30 ?_
 refine V.skip ?_
 refine V.then_n (k27 _ _ ?_)
 refine V.seq fun K31 k32 => ?_
 refine V.sr h30 [] 14 15 [(16, .bool (decide (x < y)))] fun a h35 => ?_
 refine V.cp h35 (x < y) (fun ht36 => ?_) (fun ht36 => ?_)
 ·
  refine V.sr h35 [] 1 0 [(4, .int .i64 (-1))] fun a h39 => ?_
  refine V.ret (V.then_r ?_)
  refine V.r1 h39 (.int .i64 (-1)) ?_
  exact ⟨congrArg (fun b => Ending.returned (Value.int .i64 b)) (by unfold cmpI; first | (rw [if_pos (by assumption)]; done) | (rw [if_neg (by assumption), if_pos (by assumption)]; done) | (rw [if_neg (by assumption), if_neg (by assumption)])), hF_19⟩
 ·
  refine V.skip ?_
  refine V.then_n (k32 _ _ ?_)
  refine V.seq fun K40 k41 => ?_
  refine V.sr h35 [] 17 18 [(19, .bool (decide (x > y)))] fun a h44 => ?_
  refine V.cp h44 (x > y) (fun ht45 => ?_) (fun ht45 => ?_)
  ·
   refine V.sr h44 [] 1 0 [(4, .int .i64 1)] fun a h48 => ?_
   refine V.ret (V.then_r ?_)
   refine V.r1 h48 (.int .i64 1) ?_
   exact ⟨congrArg (fun b => Ending.returned (Value.int .i64 b)) (by unfold cmpI; first | (rw [if_pos (by assumption)]; done) | (rw [if_neg (by assumption), if_pos (by assumption)]; done) | (rw [if_neg (by assumption), if_neg (by assumption)])), hF_19⟩
  ·
   refine V.skip ?_
   refine V.then_n (k41 _ _ ?_)
   refine V.sr h44 [] 1 0 [(4, .int .i64 0)] fun a h51 => ?_
   refine V.ret ?_
   refine V.r1 h51 (.int .i64 0) ?_
   exact ⟨congrArg (fun b => Ending.returned (Value.int .i64 b)) (by unfold cmpI; first | (rw [if_pos (by assumption)]; done) | (rw [if_neg (by assumption), if_pos (by assumption)]; done) | (rw [if_neg (by assumption), if_neg (by assumption)])), hF_19⟩
theorem short_any (w : World) (x : ByteArray) : Calls Tryz.prog 94 #[.string x] w (fun e w' => e = .returned (.bool (decide ((x.size : Int) ≤ 65536))) ∧ Fr [] w w') := by
 have hF := Fr.refl [] w
 refine V.en 6 Tryz.func94 fun a h1 => ?_
 refine V.sr h1 [] 2 2 [] fun a h4 => ?_
 refine V.sr h4 [] 3 5 [(2, .bool (decide ((x.size : Int) ≤ 65536)))] fun a h7 => ?_
 refine V.ret ?_
 refine V.r1 h7 (.bool (decide ((x.size : Int) ≤ 65536))) ?_
 exact ⟨rfl, hF⟩
end Go.Proofs.YtdebkbfnngkdlaaGreatDoor
end
section
namespace Go.V
open Go.Plan (FW)
def Rnds (ro : Option Nat) (P : Program) (c : Code) (Q : Exit → Act → World → Prop) (m : Nat) (a : Act) (w : World) : Prop := Code.roundsIn (FW ro) 0 P c Q m a w
theorem loopR {ro : Option Nat} {P : Program} {c : Code} {Q : Exit → Act → World → Prop} {a : Act} {w : World} (m : Nat) (h : Rnds ro P c Q m a w) : Wp ro P (.loop c) Q a w := by unfold Wp; exact wpIn_loop_rounds m h
theorem rnd {ro : Option Nat} {P : Program} {c : Code} {Q : Exit → Act → World → Prop} {a : Act} {w : World} {m : Nat} (h : Wp ro P c (Exit.then (Rnds ro P c Q m) Q) a w) : Rnds ro P c Q (m + 1) a w := by unfold Wp at h; exact h
end Go.V
end
section
namespace Go.Proofs.YtdebkbfnngkdlaaGreatDoor
open Go.V Go.Base
open Go.RowKit (Below)
attribute [local irreducible] Act.put Act.eval
set_option linter.unusedVariables false
set_option linter.unusedSimpArgs false
set_option maxHeartbeats 4000000
set_option maxRecDepth 20000
/-! ### strings.Compare, laid by hand in the shelf's form -/
def Tryz.lays106_ren : Go.Shelf.Ren := ⟨fun | 106 => 96 | 213 => 134 | 265 => 188 | n => n, fun | 3 => 3 | 9 => 9 | n => n, fun | n => n⟩
theorem Tryz.lays106 : Go.Proofs.Lays.n106 Tryz.prog Tryz.lays106_ren := {
  mixed := by kernel_rfl
  f106 := Tryz.func96.trans (congrArg some (by kernel_rfl))
  f213 := Tryz.func134.trans (congrArg some (by kernel_rfl))
  f265 := Tryz.func188.trans (congrArg some (by kernel_rfl))
  t3 := Tryz.underlying3
  a3 := Tryz.isAgg3
  z3 := Tryz.sizeOf3
  v3 := Tryz.zeroValue3
  t9 := Tryz.underlying9
  a9 := Tryz.isAgg9
  z9 := Tryz.sizeOf9
  v9 := Tryz.zeroValue9 }
theorem cmpB_lt : ∀ a b : List UInt8, Lib.compareBytes a b < 0 ↔ a < b
  | [], [] => by simp [Lib.compareBytes]
  | [], _ :: _ => by simp [Lib.compareBytes]
  | _ :: _, [] => by simp [Lib.compareBytes]
  | a :: p, b :: q => by
    have ih := cmpB_lt p q
    rw [List.cons_lt_cons_iff]
    unfold Lib.compareBytes
    by_cases h : a < b
    · rw [if_pos h]; simp [h]
    · rw [if_neg h]
      by_cases h2 : b < a
      · rw [if_pos h2]
        have hne : a ≠ b := fun e => by subst e; exact h h2
        simp [h, hne]
      · rw [if_neg h2, ih]
        have he : a = b := by
          have h3 := UInt8.le_antisymm (UInt8.not_lt.1 h2) (UInt8.not_lt.1 h)
          exact h3
        simp [h, he]
theorem cmpB_neg (x y : ByteArray) : Lib.compareBytes x.data.toList y.data.toList < 0 ↔ slt x y := by rw [slt_iff]; exact cmpB_lt _ _
theorem strcmp_any (w : World) (x y : ByteArray) : Calls Tryz.prog 96 #[.string x, .string y] w (fun e w' => e = .returned (.int .i64 (Lib.compareBytes x.data.toList y.data.toList)) ∧ Fr [] w w') :=
  (Any.strings_Compare Tryz.lays106 x y w).mono fun e w' ⟨h1, h2⟩ => ⟨h1, by subst h2; exact Fr.refl _ _⟩
def orI (a b : Int) : Int := if a ≠ 0 then a else if b ≠ 0 then b else 0
def ordI (x y : ByteArray × Int) : Int := orI (cmpI x.2 y.2) (cmpS x.1 y.1)
theorem ordI_neg (x y : ByteArray × Int) : ordI x y < 0 ↔ ahd x y := by
  have h1 := cmpI_neg x.2 y.2
  have h2 := cmpS_neg x.1 y.1
  have h3 : cmpI x.2 y.2 = 0 ↔ x.2 = y.2 := by
    unfold cmpI; split
    · constructor <;> intro h <;> omega
    · split
      · constructor <;> intro h <;> omega
      · constructor <;> intro h <;> omega
  unfold ordI orI ahd
  split
  · rename_i h; rw [h1]
    exact ⟨.inl, fun q => q.elim id fun q => absurd (h3.2 q.1) h⟩
  · rename_i h
    have h4 := h3.1 (Decidable.of_not_not h)
    split
    · rw [h2]; exact ⟨fun q => .inr ⟨h4, q⟩, fun q => q.elim (fun q => by omega) And.right⟩
    · rename_i h5
      have h6 : ¬ slt x.1 y.1 := fun q => by have := h2.2 q; have := Decidable.of_not_not h5; omega
      exact ⟨fun q => by omega, fun q => q.elim (fun q => by omega) fun q => absurd q.2 h6⟩
/-- It rises, place by place. -/
def gR {α : Type} (R : Rp α) (lt : α → α → Prop) (l : List α) (i : Nat) : Prop := 0 < i → lt (at_ R l ((i : Int) - 1)) (at_ R l (i : Int))
theorem gR_one {α : Type} (R : Rp α) (lt : α → α → Prop) (l : List α) : AllG (gR R lt l) 1 := fun i hi h => absurd h (by omega)
theorem byKey_any (w : World) (x y : ByteArray) (m0 m1 m2 m3 m4 m5 m6 m7 m8 m9 m10 m11 : Value) : Calls Tryz.prog 51 #[.agg #[.string x, m0, m1, m2, m3, m4, m5], .agg #[.string y, m6, m7, m8, m9, m10, m11]] w (fun e w' => e = .returned (.int .i64 (cmpS x y)) ∧ Fr [] w w') := by
 have hF := Fr.refl [] w
 refine V.en 10 Tryz.func51 fun a h1 => ?_
 refine V.sg fun K2 k3 => ?_
 refine V.go (V.mk [(0, .agg #[.string x, m0, m1, m2, m3, m4, m5])] ⟨h1.e, trivial⟩ (by kernel_rfl) [.string x, m0, m1, m2, m3, m4, m5] 55 (fun b => .pointer (some ⟨b, 0, none⟩)) (by kernel_rfl) ?_)
 intro w5 b4 heb4 hB6 hF7 hsb4
 have hF_8 := hF.new hF7
 refine V.pt h1 fun a h9 => ?_
 refine V.go (V.mk [(1, .agg #[.string y, m6, m7, m8, m9, m10, m11])] ⟨h9.e, trivial⟩ (by kernel_rfl) [.string y, m6, m7, m8, m9, m10, m11] 55 (fun b => .pointer (some ⟨b, 0, none⟩)) (by kernel_rfl) ?_)
 intro w11 b10 heb10 hB12 hF13 hsb10
 have hF_14 := hF_8.new hF13
 have hB6_15 := hB6.fr0 hF13
 refine V.pt h9 fun a h16 => ?_
 refine V.re h16 [] 4 4 [] fun a h17 => k3 _ _ ?_
 refine V.sg fun K18 k19 => ?_
 refine V.run h17 [(1, .b hB6_15 0), (1, .b hB12 0)] 4 5 7 [(6, .string x), (8, .string y)] fun a h20 => ?_
 refine V.cl h20 (Go.Proofs.enters_of Tryz.func108 (by kernel_rfl) rfl) (cmpS_any w11 x y) ?_
 rintro _ w22 ⟨rfl, hF21⟩
 refine ⟨_, rfl, fun a h23 => ?_⟩
 have hsw22 := hF21.size
 have hF_24 := hF_14.new hF21
 refine V.re h23 [] 1 0 [(4, .int .i64 (cmpS x y))] fun a h27 => k19 _ _ ?_
 refine V.ret ?_
 refine V.r1 h27 (.int .i64 (cmpS x y)) ?_
 exact ⟨rfl, hF_24⟩
theorem byField_any (w : World) (x y m0 m1 : ByteArray) : Calls Tryz.prog 76 #[.agg #[.string x, .string m0], .agg #[.string y, .string m1]] w (fun e w' => e = .returned (.int .i64 (cmpS x y)) ∧ Fr [] w w') := by
 have hF := Fr.refl [] w
 refine V.en 10 Tryz.func76 fun a h1 => ?_
 refine V.sg fun K2 k3 => ?_
 refine V.go (V.mk [(0, .agg #[.string x, .string m0])] ⟨h1.e, trivial⟩ (by kernel_rfl) [.string x, .string m0] 101 (fun b => .pointer (some ⟨b, 0, none⟩)) (by kernel_rfl) ?_)
 intro w5 b4 heb4 hB6 hF7 hsb4
 have hF_8 := hF.new hF7
 refine V.pt h1 fun a h9 => ?_
 refine V.go (V.mk [(1, .agg #[.string y, .string m1])] ⟨h9.e, trivial⟩ (by kernel_rfl) [.string y, .string m1] 101 (fun b => .pointer (some ⟨b, 0, none⟩)) (by kernel_rfl) ?_)
 intro w11 b10 heb10 hB12 hF13 hsb10
 have hF_14 := hF_8.new hF13
 have hB6_15 := hB6.fr0 hF13
 refine V.pt h9 fun a h16 => ?_
 refine V.re h16 [] 4 4 [] fun a h17 => k3 _ _ ?_
 refine V.sg fun K18 k19 => ?_
 refine V.run h17 [(1, .b hB6_15 0), (1, .b hB12 0)] 4 5 7 [(6, .string x), (8, .string y)] fun a h20 => ?_
 refine V.cl h20 (Go.Proofs.enters_of Tryz.func108 (by kernel_rfl) rfl) (cmpS_any w11 x y) ?_
 rintro _ w22 ⟨rfl, hF21⟩
 refine ⟨_, rfl, fun a h23 => ?_⟩
 have hsw22 := hF21.size
 have hF_24 := hF_14.new hF21
 refine V.re h23 [] 1 0 [(4, .int .i64 (cmpS x y))] fun a h27 => k19 _ _ ?_
 refine V.ret ?_
 refine V.r1 h27 (.int .i64 (cmpS x y)) ?_
 exact ⟨rfl, hF_24⟩
theorem or_any (w : World) (b : Nat) (x y : Int) (hB : Blk w b [.int .i64 x, .int .i64 y] 3) : Calls Tryz.prog 120 #[.slice (some ⟨b, 0, none⟩) 2 2] w (fun e w' => e = .returned (.int .i64 (orI x y)) ∧ Fr [] w w') := by
 have hF := Fr.refl [] w
 refine V.en 18 Tryz.func120 fun a h1 => ?_
 refine V.sr h1 [] 2 2 [] fun a h4 => ?_
 refine V.sr h4 [] 1 0 [(3, .int .i64 0)] fun a h7 => ?_
 refine V.seq fun K8 k9 => ?_
 refine V.sr h7 [] 1 0 [(6, .slice (some ⟨b, 0, none⟩) 2 2), (7, .int .i64 2), (8, .int .i64 0)] fun a h12 => ?_
 refine V.block ?_
 refine V.loopR 3 ?_
 refine V.rnd ?_
 refine V.sr h12 [] 1 0 [(9, .bool true)] fun a h15 => ?_
 refine V.seq fun K16 k17 => ?_
 refine V.ct h15 ?_
 refine V.skip ?_
 refine V.then_n (k17 _ _ ?_)
 refine V.seq fun K18 k19 => ?_
 refine V.block ?_
 refine V.sr h15 [(0, .ix b 0 2 2 .i64 0 1 rfl), (0, .b hB 0)] 10 11 [(5, .int .i64 x)] fun a h22 => ?_
 refine V.sr h22 [(2, .ne x 0)] 12 13 [(14, .bool (decide (¬ x = 0)))] fun a h25 => ?_
 refine V.cp h25 (¬ x = 0) (fun ht26 => ?_) (fun ht26 => ?_)
 ·
  refine V.sr h25 [] 15 15 [(2, .int .i64 x)] fun a h29 => ?_
  refine V.ret (V.blk_r (V.then_r (V.then_r (V.blk_r (V.then_r ?_)))))
  refine V.r1 h29 (.int .i64 x) ?_
  exact ⟨congrArg (fun b => Ending.returned (Value.int .i64 b)) (by unfold orI; first | (rw [if_pos (by assumption)]; done) | (rw [if_neg (by assumption), if_pos (by assumption)]; done) | (rw [if_neg (by assumption), if_neg (by assumption)])), hF⟩
 ·
  refine V.skip (V.blk_n ?_)
  refine V.then_n (k19 _ _ ?_)
  refine V.rr h25 [] 16 16 [(8, .int .i64 1)] fun a h30 => ?_
  refine V.then_n ?_
  refine V.rnd ?_
  refine V.sr h30 [] 1 0 [(9, .bool true)] fun a h33 => ?_
  refine V.seq fun K34 k35 => ?_
  refine V.ct h33 ?_
  refine V.skip ?_
  refine V.then_n (k35 _ _ ?_)
  refine V.seq fun K36 k37 => ?_
  refine V.block ?_
  refine V.sr h33 [(0, .ix b 0 2 2 .i64 1 1 rfl), (0, .b hB 1)] 10 11 [(5, .int .i64 y)] fun a h40 => ?_
  refine V.sr h40 [(2, .ne y 0)] 12 13 [(14, .bool (decide (¬ y = 0)))] fun a h43 => ?_
  refine V.cp h43 (¬ y = 0) (fun ht44 => ?_) (fun ht44 => ?_)
  ·
   refine V.sr h43 [] 15 15 [(2, .int .i64 y)] fun a h47 => ?_
   refine V.ret (V.blk_r (V.then_r (V.then_r (V.blk_r (V.then_r ?_)))))
   refine V.r1 h47 (.int .i64 y) ?_
   exact ⟨congrArg (fun b => Ending.returned (Value.int .i64 b)) (by unfold orI; first | (rw [if_pos (by assumption)]; done) | (rw [if_neg (by assumption), if_pos (by assumption)]; done) | (rw [if_neg (by assumption), if_neg (by assumption)])), hF⟩
  ·
   refine V.skip (V.blk_n ?_)
   refine V.then_n (k37 _ _ ?_)
   refine V.rr h43 [] 16 16 [(8, .int .i64 2)] fun a h48 => ?_
   refine V.then_n ?_
   refine V.rnd ?_
   refine V.sr h48 [] 1 0 [(9, .bool false)] fun a h51 => ?_
   refine V.seq fun K52 k53 => ?_
   refine V.cf h51 ?_
   refine V.exit (V.then_e (V.then_e (V.blk_hit ?_)))
   refine V.then_n (k9 _ _ ?_)
   refine V.sr h51 [] 17 17 [(2, .int .i64 0)] fun a h56 => ?_
   refine V.ret ?_
   refine V.r1 h56 (.int .i64 0) ?_
   exact ⟨congrArg (fun b => Ending.returned (Value.int .i64 b)) (by unfold orI; first | (rw [if_pos (by assumption)]; done) | (rw [if_neg (by assumption), if_pos (by assumption)]; done) | (rw [if_neg (by assumption), if_neg (by assumption)])), hF⟩
theorem order_any (w : World) (x y : ByteArray × Int) : Calls Tryz.prog 74 #[.agg #[.string x.1, .int .i64 x.2], .agg #[.string y.1, .int .i64 y.2]] w (fun e w' => e = .returned (.int .i64 (ordI x y)) ∧ Fr [] w w') := by
 have hF := Fr.refl [] w
 refine V.en 17 Tryz.func74 fun a h1 => ?_
 refine V.sg fun K2 k3 => ?_
 refine V.go (V.mk [(0, .agg #[.string x.1, .int .i64 x.2])] ⟨h1.e, trivial⟩ (by kernel_rfl) [.string x.1, .int .i64 x.2] 98 (fun b => .pointer (some ⟨b, 0, none⟩)) (by kernel_rfl) ?_)
 intro w5 b4 heb4 hB6 hF7 hsb4
 have hF_8 := hF.new hF7
 refine V.pt h1 fun a h9 => ?_
 refine V.go (V.mk [(1, .agg #[.string y.1, .int .i64 y.2])] ⟨h9.e, trivial⟩ (by kernel_rfl) [.string y.1, .int .i64 y.2] 98 (fun b => .pointer (some ⟨b, 0, none⟩)) (by kernel_rfl) ?_)
 intro w11 b10 heb10 hB12 hF13 hsb10
 have hF_14 := hF_8.new hF13
 have hB6_15 := hB6.fr0 hF13
 refine V.pt h9 fun a h16 => ?_
 refine V.re h16 [] 4 4 [] fun a h17 => k3 _ _ ?_
 refine V.seq fun K18 k19 => ?_
 refine V.pl [([0,1,2,3,5,6,7,8],some (4,[6,8])),([],some (9,[])),([],some (10,[])),([],some (11,[])),([12],none)] fun w20 hF21 hsw20 => ?_
 have hF_22 := hF_14.new hF21
 have hB6_23 := hB6_15.fr0 hF21
 have hB12_24 := hB12.fr0 hF21
 refine V.pe h17 [(1, .b hB6_23 1), (1, .b hB12_24 1), (1, .b hB6_23 0), (1, .b hB12_24 0)] 5 7 [(6, .int .i64 x.2), (8, .int .i64 y.2), (10, .pointer (some ⟨b4, 0, none⟩)), (11, .string x.1), (12, .pointer (some ⟨b10, 0, none⟩)), (13, .string y.1)] fun a h25 => ?_
 refine V.cl h25 (Go.Proofs.enters_of Tryz.func121 (by kernel_rfl) rfl) (cmpI_any w20 x.2 y.2) ?_
 rintro _ w27 ⟨rfl, hF26⟩
 refine ⟨_, rfl, fun a h28 => ?_⟩
 have hsw27 := hF26.size
 have hF_29 := hF_22.new hF26
 have hB6_30 := hB6_23.fr0 hF26
 have hB12_31 := hB12_24.fr0 hF26
 refine V.eh ⟨(fun _ => held_blk (n := 1) (hx := (h25.e (v := (.pointer (some ⟨b4, 0, none⟩))))) hB6_23 hB6_30 (by kernel_rfl) rfl (by simp only [List.length]; omega)), (fun _ => held_blk (n := 1) (hx := (h25.e (v := (.pointer (some ⟨b10, 0, none⟩))))) hB12_24 hB12_31 (by kernel_rfl) rfl (by simp only [List.length]; omega))⟩ ?_
 refine V.pe h28 [] 1 0 [] fun a h32 => ?_
 refine V.cl h32 (Go.Proofs.enters_of Tryz.func108 (by kernel_rfl) rfl) (cmpS_any w27 x.1 y.1) ?_
 rintro _ w34 ⟨rfl, hF33⟩
 refine ⟨_, rfl, fun a h35 => ?_⟩
 have hsw34 := hF33.size
 have hF_36 := hF_29.new hF33
 refine V.eh trivial ?_
 refine V.pe h35 [] 1 0 [] fun a h39 => ?_
 refine V.go (V.mk [(9, .int .i64 (cmpI x.2 y.2)), (14, .int .i64 (cmpS x.1 y.1))] ⟨h39.e, h39.e, trivial⟩ (by kernel_rfl) [.int .i64 (cmpI x.2 y.2), .int .i64 (cmpS x.1 y.1)] 3 (fun b => .slice (some ⟨b, 0, none⟩) 2 2) (by kernel_rfl) ?_)
 intro w41 b40 heb40 hB42 hF43 hsb40
 have hF_44 := hF_36.new hF43
 refine V.pt h39 fun a h47 => ?_
 refine V.eh trivial ?_
 refine V.pe h47 [] 1 0 [] fun a h48 => ?_
 refine V.cl h48 (Go.Proofs.enters_of Tryz.func120 (by kernel_rfl) rfl) (or_any w41 b40 (cmpI x.2 y.2) (cmpS x.1 y.1) hB42) ?_
 rintro _ w50 ⟨rfl, hF49⟩
 refine ⟨_, rfl, fun a h51 => ?_⟩
 have hsw50 := hF49.size
 have hF_52 := hF_44.new hF49
 refine V.eh trivial ?_
 refine V.pz h51 [] 1 0 [(4, .int .i64 (orI (cmpI x.2 y.2) (cmpS x.1 y.1)))] fun a h56 => k19 _ _ ?_
 refine V.ret ?_
 refine V.r1 h56 (.int .i64 (orI (cmpI x.2 y.2) (cmpS x.1 y.1))) ?_
 exact ⟨rfl, hF_52⟩
theorem rising_en (w : World) (Al : Option Addr) (cl : Nat) (l : List EnD) (hSl : SlR enR (fun k => k < w.heap.size) w (.slice Al l.length cl) l) : Calls Tryz.prog 50 #[.slice Al l.length cl, .func (.func 51) #[] #[]] w (fun e w' => e = .returned (.bool (bP (AllG (gR enR (fun x y => slt x.key y.key) l) l.length))) ∧ Fr [] w w') := by
 have hF := Fr.refl [] w
 have hlen0 := hSl.len_le
 refine V.en 24 Tryz.func50 fun a h1 => ?_
 refine V.sr h1 [] 4 4 [] fun a h4 => ?_
 refine V.seq fun K5 k6 => ?_
 refine V.sr h4 [] 1 0 [(5, .int .i64 1)] fun a h9 => ?_
 refine V.block ?_
 refine V.loop1 (fun (i : Nat) a_ w_ => En 24 [] a_ [(0, .slice Al l.length cl), (1, .func (.func 51) #[] #[]), (5, .int .i64 (i : Int))] ∧ Fr [] w w_ ∧ SlR enR (fun k => k < w.heap.size) w_ (.slice Al l.length cl) l ∧ (1 ≤ i ∧ i ≤ l.length + 1) ∧ (AllG (gR enR (fun x y => slt x.key y.key) l) i)) (fun (i : Nat) => l.length + 1 - i) 1 ?_ ?_
 ·
  refine ⟨(h9.eq 5 (v := (.int .i64 1)) (u := (.int .i64 (1 : Int))) (V.int_eq (by omega))).only _, hF, hSl, (by omega), (gR_one _ _ _)⟩
 ·
  rintro i a10 w11 ⟨h12, hF_13, hSl_14, hi, hG⟩
  have hfs15 := hF_13.size
  refine V.seq fun K16 k17 => ?_
  refine V.sr h12 [] 6 8 [(9, .bool (decide ((i : Int) < ((l.length : Nat) : Int))))] fun a h20 => ?_
  refine V.cp h20 ((i : Int) < ((l.length : Nat) : Int)) (fun ht21 => ?_) (fun ht21 => ?_)
  ·
   refine V.skip ?_
   refine V.then_n (k17 _ _ ?_)
   refine V.seq fun K22 k23 => ?_
   refine V.block ?_
   refine V.seq fun K24 k25 => ?_
   refine V.pl [([0,1,2,3,4,5,6,7,8,9],some (10,[])),([11],none)] fun w26 hF27 hsw26 => ?_
   have hF_28 := hF_13.new hF27
   have hSl_29 := hSl_14.fr0 hF27
   obtain ⟨g30, o31, hA32, hA32l, hA32z⟩ := hSl_29.addr (by omega)
   obtain ⟨cs33, hok34, hE35⟩ := hSl_29.els hA32 ((i : Int) - 1) (by omega) (by omega)
   obtain ⟨Al36, cl37, Az38, cz39, Ah40, ch41, rfl, hS42, hS43, hS44⟩ := en_open hok34
   obtain ⟨cs45, hok46, hE47⟩ := hSl_29.els hA32 (i : Int) (by omega) (by omega)
   obtain ⟨Al48, cl49, Az50, cz51, Ah52, ch53, rfl, hS54, hS55, hS56⟩ := en_open hok46
   refine V.pe h20 [(3, .i ((i : Int) - 1)), (0, .ix g30 o31 l.length cl .i64 ((i : Int) - 1) 7 hA32), (0, .ls ⟨g30, o31 + ((i : Int) - 1).toNat * 7, none⟩ [.string ((at_ enR l ((i : Int) - 1)).key), .int .i64 ((at_ enR l ((i : Int) - 1)).k), .string ((at_ enR l ((i : Int) - 1)).s), .slice Al36 ((at_ enR l ((i : Int) - 1)).l.length) cl37, .slice Az38 ((at_ enR l ((i : Int) - 1)).z.length) cz39, .slice Ah40 ((at_ enR l ((i : Int) - 1)).h.length) ch41, .int .i64 ((at_ enR l ((i : Int) - 1)).till)] (hE35.cells 0 _ rfl)), (2, .ix g30 o31 l.length cl .i64 (i : Int) 7 hA32), (0, .ls ⟨g30, o31 + (i : Int).toNat * 7, none⟩ [.string ((at_ enR l (i : Int)).key), .int .i64 ((at_ enR l (i : Int)).k), .string ((at_ enR l (i : Int)).s), .slice Al48 ((at_ enR l (i : Int)).l.length) cl49, .slice Az50 ((at_ enR l (i : Int)).z.length) cz51, .slice Ah52 ((at_ enR l (i : Int)).h.length) ch53, .int .i64 ((at_ enR l (i : Int)).till)] (hE47.cells 0 _ rfl))] 13 20 [(12, .func (.func 51) #[] #[]), (17, .agg #[.string ((at_ enR l ((i : Int) - 1)).key), .int .i64 ((at_ enR l ((i : Int) - 1)).k), .string ((at_ enR l ((i : Int) - 1)).s), .slice Al36 ((at_ enR l ((i : Int) - 1)).l.length) cl37, .slice Az38 ((at_ enR l ((i : Int) - 1)).z.length) cz39, .slice Ah40 ((at_ enR l ((i : Int) - 1)).h.length) ch41, .int .i64 ((at_ enR l ((i : Int) - 1)).till)]), (21, .agg #[.string ((at_ enR l (i : Int)).key), .int .i64 ((at_ enR l (i : Int)).k), .string ((at_ enR l (i : Int)).s), .slice Al48 ((at_ enR l (i : Int)).l.length) cl49, .slice Az50 ((at_ enR l (i : Int)).z.length) cz51, .slice Ah52 ((at_ enR l (i : Int)).h.length) ch53, .int .i64 ((at_ enR l (i : Int)).till)])] fun a h57 => ?_
   refine V.cl h57 (Go.Proofs.enters_of Tryz.func51 (by kernel_rfl) rfl) (byKey_any w26 ((at_ enR l ((i : Int) - 1)).key) ((at_ enR l (i : Int)).key) (.int .i64 ((at_ enR l ((i : Int) - 1)).k)) (.string ((at_ enR l ((i : Int) - 1)).s)) (.slice Al36 ((at_ enR l ((i : Int) - 1)).l.length) cl37) (.slice Az38 ((at_ enR l ((i : Int) - 1)).z.length) cz39) (.slice Ah40 ((at_ enR l ((i : Int) - 1)).h.length) ch41) (.int .i64 ((at_ enR l ((i : Int) - 1)).till)) (.int .i64 ((at_ enR l (i : Int)).k)) (.string ((at_ enR l (i : Int)).s)) (.slice Al48 ((at_ enR l (i : Int)).l.length) cl49) (.slice Az50 ((at_ enR l (i : Int)).z.length) cz51) (.slice Ah52 ((at_ enR l (i : Int)).h.length) ch53) (.int .i64 ((at_ enR l (i : Int)).till))) ?_
   rintro _ w59 ⟨rfl, hF58⟩
   refine ⟨_, rfl, fun a h60 => ?_⟩
   have hsw59 := hF58.size
   have hF_61 := hF_28.new hF58
   have hSl_62 := hSl_29.fr0 hF58
   refine V.eh trivial ?_
   refine V.pz h60 [] 1 0 [(23, .bool (decide ((cmpS ((at_ enR l ((i : Int) - 1)).key) ((at_ enR l (i : Int)).key)) ≥ 0)))] fun a h71 => k25 _ _ ?_
   refine V.cp h71 ((cmpS ((at_ enR l ((i : Int) - 1)).key) ((at_ enR l (i : Int)).key)) ≥ 0) (fun ht72 => ?_) (fun ht72 => ?_)
   ·
    refine V.sr h71 [] 1 0 [(4, .bool false)] fun a h75 => ?_
    refine V.ret (V.blk_r (V.then_r (V.then_r (V.blk_r (V.then_r ?_)))))
    refine V.r1 h75 (.bool false) ?_
    exact ⟨congrArg (fun b => Ending.returned (Value.bool b)) (bP_no (AllG.no (i := i) (by omega) fun hg => by have h1 := (cmpS_neg _ _).2 (hg (by omega)); omega)), hF_61⟩
   ·
    refine V.skip (V.blk_n ?_)
    refine V.then_n (k23 _ _ ?_)
    refine V.rr h71 [(1, .i ((i : Int) + 1))] 10 11 [(5, .int .i64 ((i : Int) + 1))] fun a h76 => ?_
    refine V.then_n ?_
    refine ⟨i + 1, by omega, ?_⟩
    refine ⟨(h76.eq 5 (v := (.int .i64 ((i : Int) + 1))) (u := (.int .i64 ((i + 1) : Int))) (V.int_eq (by omega))).only _, hF_61, hSl_62, (by omega), (hG.step fun _ => (cmpS_neg _ _).1 (by omega))⟩
  ·
   refine V.exit (V.then_e (V.then_e (V.blk_hit ?_)))
   refine V.then_n (k6 _ _ ?_)
   refine V.sr h20 [] 1 0 [(4, .bool true)] fun a h79 => ?_
   refine V.ret ?_
   refine V.r1 h79 (.bool true) ?_
   exact ⟨congrArg (fun b => Ending.returned (Value.bool b)) (bP_yes (hG.le (by omega))), hF_13⟩
theorem rising_str (w : World) (Al : Option Addr) (cl : Nat) (l : List ByteArray) (hSl : SlR Rp.str (fun k => k < w.heap.size) w (.slice Al l.length cl) l) : Calls Tryz.prog 95 #[.slice Al l.length cl, .func (.func 96) #[] #[]] w (fun e w' => e = .returned (.bool (bP (AllG (gR Rp.str (slt) l) l.length))) ∧ Fr [] w w') := by
 have hF := Fr.refl [] w
 have hlen0 := hSl.len_le
 refine V.en 24 Tryz.func95 fun a h1 => ?_
 refine V.sr h1 [] 4 4 [] fun a h4 => ?_
 refine V.seq fun K5 k6 => ?_
 refine V.sr h4 [] 1 0 [(5, .int .i64 1)] fun a h9 => ?_
 refine V.block ?_
 refine V.loop1 (fun (i : Nat) a_ w_ => En 24 [] a_ [(0, .slice Al l.length cl), (1, .func (.func 96) #[] #[]), (5, .int .i64 (i : Int))] ∧ Fr [] w w_ ∧ SlR Rp.str (fun k => k < w.heap.size) w_ (.slice Al l.length cl) l ∧ (1 ≤ i ∧ i ≤ l.length + 1) ∧ (AllG (gR Rp.str (slt) l) i)) (fun (i : Nat) => l.length + 1 - i) 1 ?_ ?_
 ·
  refine ⟨(h9.eq 5 (v := (.int .i64 1)) (u := (.int .i64 (1 : Int))) (V.int_eq (by omega))).only _, hF, hSl, (by omega), (gR_one _ _ _)⟩
 ·
  rintro i a10 w11 ⟨h12, hF_13, hSl_14, hi, hG⟩
  have hfs15 := hF_13.size
  refine V.seq fun K16 k17 => ?_
  refine V.sr h12 [] 6 8 [(9, .bool (decide ((i : Int) < ((l.length : Nat) : Int))))] fun a h20 => ?_
  refine V.cp h20 ((i : Int) < ((l.length : Nat) : Int)) (fun ht21 => ?_) (fun ht21 => ?_)
  ·
   refine V.skip ?_
   refine V.then_n (k17 _ _ ?_)
   refine V.seq fun K22 k23 => ?_
   refine V.block ?_
   refine V.seq fun K24 k25 => ?_
   refine V.pl [([0,1,2,3,4,5,6,7,8,9],some (10,[])),([11],none)] fun w26 hF27 hsw26 => ?_
   have hF_28 := hF_13.new hF27
   have hSl_29 := hSl_14.fr0 hF27
   obtain ⟨g30, o31, hA32, hA32l, hA32z⟩ := hSl_29.addr (by omega)
   obtain ⟨cs33, hok34, hE35⟩ := hSl_29.els hA32 ((i : Int) - 1) (by omega) (by omega)
   obtain rfl : cs33 = [.string (at_ Rp.str l ((i : Int) - 1))] := hok34
   obtain ⟨cs36, hok37, hE38⟩ := hSl_29.els hA32 (i : Int) (by omega) (by omega)
   obtain rfl : cs36 = [.string (at_ Rp.str l (i : Int))] := hok37
   refine V.pe h20 [(3, .i ((i : Int) - 1)), (0, .ix g30 o31 l.length cl .i64 ((i : Int) - 1) 1 hA32), (0, .l ⟨g30, o31 + ((i : Int) - 1).toNat * 1, none⟩ (.string (at_ Rp.str l ((i : Int) - 1))) (hE35.at 0 rfl)), (2, .ix g30 o31 l.length cl .i64 (i : Int) 1 hA32), (0, .l ⟨g30, o31 + (i : Int).toNat * 1, none⟩ (.string (at_ Rp.str l (i : Int))) (hE38.at 0 rfl))] 13 20 [(12, .func (.func 96) #[] #[]), (17, .string (at_ Rp.str l ((i : Int) - 1))), (21, .string (at_ Rp.str l (i : Int)))] fun a h39 => ?_
   refine V.cl h39 (Go.Proofs.enters_of Tryz.func96 (by kernel_rfl) rfl) (strcmp_any w26 (at_ Rp.str l ((i : Int) - 1)) (at_ Rp.str l (i : Int))) ?_
   rintro _ w41 ⟨rfl, hF40⟩
   refine ⟨_, rfl, fun a h42 => ?_⟩
   have hsw41 := hF40.size
   have hF_43 := hF_28.new hF40
   have hSl_44 := hSl_29.fr0 hF40
   refine V.eh trivial ?_
   refine V.pz h42 [] 1 0 [(23, .bool (decide ((Lib.compareBytes (at_ Rp.str l ((i : Int) - 1)).data.toList (at_ Rp.str l (i : Int)).data.toList) ≥ 0)))] fun a h47 => k25 _ _ ?_
   refine V.cp h47 ((Lib.compareBytes (at_ Rp.str l ((i : Int) - 1)).data.toList (at_ Rp.str l (i : Int)).data.toList) ≥ 0) (fun ht48 => ?_) (fun ht48 => ?_)
   ·
    refine V.sr h47 [] 1 0 [(4, .bool false)] fun a h51 => ?_
    refine V.ret (V.blk_r (V.then_r (V.then_r (V.blk_r (V.then_r ?_)))))
    refine V.r1 h51 (.bool false) ?_
    exact ⟨congrArg (fun b => Ending.returned (Value.bool b)) (bP_no (AllG.no (i := i) (by omega) fun hg => by have h1 := (cmpB_neg _ _).2 (hg (by omega)); omega)), hF_43⟩
   ·
    refine V.skip (V.blk_n ?_)
    refine V.then_n (k23 _ _ ?_)
    refine V.rr h47 [(1, .i ((i : Int) + 1))] 10 11 [(5, .int .i64 ((i : Int) + 1))] fun a h52 => ?_
    refine V.then_n ?_
    refine ⟨i + 1, by omega, ?_⟩
    refine ⟨(h52.eq 5 (v := (.int .i64 ((i : Int) + 1))) (u := (.int .i64 ((i + 1) : Int))) (V.int_eq (by omega))).only _, hF_43, hSl_44, (by omega), (hG.step fun _ => (cmpB_neg _ _).1 (by omega))⟩
  ·
   refine V.exit (V.then_e (V.then_e (V.blk_hit ?_)))
   refine V.then_n (k6 _ _ ?_)
   refine V.sr h20 [] 1 0 [(4, .bool true)] fun a h55 => ?_
   refine V.ret ?_
   refine V.r1 h55 (.bool true) ?_
   exact ⟨congrArg (fun b => Ending.returned (Value.bool b)) (bP_yes (hG.le (by omega))), hF_13⟩
theorem rising_fd (w : World) (Al : Option Addr) (cl : Nat) (l : List (ByteArray × ByteArray)) (hSl : SlR fdR (fun k => k < w.heap.size) w (.slice Al l.length cl) l) : Calls Tryz.prog 101 #[.slice Al l.length cl, .func (.func 76) #[] #[]] w (fun e w' => e = .returned (.bool (bP (AllG (gR fdR (fun x y => slt x.1 y.1) l) l.length))) ∧ Fr [] w w') := by
 have hF := Fr.refl [] w
 have hlen0 := hSl.len_le
 refine V.en 24 Tryz.func101 fun a h1 => ?_
 refine V.sr h1 [] 4 4 [] fun a h4 => ?_
 refine V.seq fun K5 k6 => ?_
 refine V.sr h4 [] 1 0 [(5, .int .i64 1)] fun a h9 => ?_
 refine V.block ?_
 refine V.loop1 (fun (i : Nat) a_ w_ => En 24 [] a_ [(0, .slice Al l.length cl), (1, .func (.func 76) #[] #[]), (5, .int .i64 (i : Int))] ∧ Fr [] w w_ ∧ SlR fdR (fun k => k < w.heap.size) w_ (.slice Al l.length cl) l ∧ (1 ≤ i ∧ i ≤ l.length + 1) ∧ (AllG (gR fdR (fun x y => slt x.1 y.1) l) i)) (fun (i : Nat) => l.length + 1 - i) 1 ?_ ?_
 ·
  refine ⟨(h9.eq 5 (v := (.int .i64 1)) (u := (.int .i64 (1 : Int))) (V.int_eq (by omega))).only _, hF, hSl, (by omega), (gR_one _ _ _)⟩
 ·
  rintro i a10 w11 ⟨h12, hF_13, hSl_14, hi, hG⟩
  have hfs15 := hF_13.size
  refine V.seq fun K16 k17 => ?_
  refine V.sr h12 [] 6 8 [(9, .bool (decide ((i : Int) < ((l.length : Nat) : Int))))] fun a h20 => ?_
  refine V.cp h20 ((i : Int) < ((l.length : Nat) : Int)) (fun ht21 => ?_) (fun ht21 => ?_)
  ·
   refine V.skip ?_
   refine V.then_n (k17 _ _ ?_)
   refine V.seq fun K22 k23 => ?_
   refine V.block ?_
   refine V.seq fun K24 k25 => ?_
   refine V.pl [([0,1,2,3,4,5,6,7,8,9],some (10,[])),([11],none)] fun w26 hF27 hsw26 => ?_
   have hF_28 := hF_13.new hF27
   have hSl_29 := hSl_14.fr0 hF27
   obtain ⟨g30, o31, hA32, hA32l, hA32z⟩ := hSl_29.addr (by omega)
   obtain ⟨cs33, hok34, hE35⟩ := hSl_29.els hA32 ((i : Int) - 1) (by omega) (by omega)
   obtain rfl : cs33 = [.string (at_ fdR l ((i : Int) - 1)).1, .string (at_ fdR l ((i : Int) - 1)).2] := hok34
   obtain ⟨cs36, hok37, hE38⟩ := hSl_29.els hA32 (i : Int) (by omega) (by omega)
   obtain rfl : cs36 = [.string (at_ fdR l (i : Int)).1, .string (at_ fdR l (i : Int)).2] := hok37
   refine V.pe h20 [(3, .i ((i : Int) - 1)), (0, .ix g30 o31 l.length cl .i64 ((i : Int) - 1) 2 hA32), (0, .ls ⟨g30, o31 + ((i : Int) - 1).toNat * 2, none⟩ [.string ((at_ fdR l ((i : Int) - 1)).1), .string ((at_ fdR l ((i : Int) - 1)).2)] (hE35.cells 0 _ rfl)), (2, .ix g30 o31 l.length cl .i64 (i : Int) 2 hA32), (0, .ls ⟨g30, o31 + (i : Int).toNat * 2, none⟩ [.string ((at_ fdR l (i : Int)).1), .string ((at_ fdR l (i : Int)).2)] (hE38.cells 0 _ rfl))] 13 20 [(12, .func (.func 76) #[] #[]), (17, .agg #[.string ((at_ fdR l ((i : Int) - 1)).1), .string ((at_ fdR l ((i : Int) - 1)).2)]), (21, .agg #[.string ((at_ fdR l (i : Int)).1), .string ((at_ fdR l (i : Int)).2)])] fun a h39 => ?_
   refine V.cl h39 (Go.Proofs.enters_of Tryz.func76 (by kernel_rfl) rfl) (byField_any w26 ((at_ fdR l ((i : Int) - 1)).1) ((at_ fdR l (i : Int)).1) ((at_ fdR l ((i : Int) - 1)).2) ((at_ fdR l (i : Int)).2)) ?_
   rintro _ w41 ⟨rfl, hF40⟩
   refine ⟨_, rfl, fun a h42 => ?_⟩
   have hsw41 := hF40.size
   have hF_43 := hF_28.new hF40
   have hSl_44 := hSl_29.fr0 hF40
   refine V.eh trivial ?_
   refine V.pz h42 [] 1 0 [(23, .bool (decide ((cmpS ((at_ fdR l ((i : Int) - 1)).1) ((at_ fdR l (i : Int)).1)) ≥ 0)))] fun a h47 => k25 _ _ ?_
   refine V.cp h47 ((cmpS ((at_ fdR l ((i : Int) - 1)).1) ((at_ fdR l (i : Int)).1)) ≥ 0) (fun ht48 => ?_) (fun ht48 => ?_)
   ·
    refine V.sr h47 [] 1 0 [(4, .bool false)] fun a h51 => ?_
    refine V.ret (V.blk_r (V.then_r (V.then_r (V.blk_r (V.then_r ?_)))))
    refine V.r1 h51 (.bool false) ?_
    exact ⟨congrArg (fun b => Ending.returned (Value.bool b)) (bP_no (AllG.no (i := i) (by omega) fun hg => by have h1 := (cmpS_neg _ _).2 (hg (by omega)); omega)), hF_43⟩
   ·
    refine V.skip (V.blk_n ?_)
    refine V.then_n (k23 _ _ ?_)
    refine V.rr h47 [(1, .i ((i : Int) + 1))] 10 11 [(5, .int .i64 ((i : Int) + 1))] fun a h52 => ?_
    refine V.then_n ?_
    refine ⟨i + 1, by omega, ?_⟩
    refine ⟨(h52.eq 5 (v := (.int .i64 ((i : Int) + 1))) (u := (.int .i64 ((i + 1) : Int))) (V.int_eq (by omega))).only _, hF_43, hSl_44, (by omega), (hG.step fun _ => (cmpS_neg _ _).1 (by omega))⟩
  ·
   refine V.exit (V.then_e (V.then_e (V.blk_hit ?_)))
   refine V.then_n (k6 _ _ ?_)
   refine V.sr h20 [] 1 0 [(4, .bool true)] fun a h55 => ?_
   refine V.ret ?_
   refine V.r1 h55 (.bool true) ?_
   exact ⟨congrArg (fun b => Ending.returned (Value.bool b)) (bP_yes (hG.le (by omega))), hF_13⟩
theorem rising_sc (w : World) (Al : Option Addr) (cl : Nat) (l : List (ByteArray × Int)) (hSl : SlR scR (fun k => k < w.heap.size) w (.slice Al l.length cl) l) : Calls Tryz.prog 136 #[.slice Al l.length cl, .func (.func 74) #[] #[]] w (fun e w' => e = .returned (.bool (bP (AllG (gR scR (ahd) l) l.length))) ∧ Fr [] w w') := by
 have hF := Fr.refl [] w
 have hlen0 := hSl.len_le
 refine V.en 24 Tryz.func136 fun a h1 => ?_
 refine V.sr h1 [] 4 4 [] fun a h4 => ?_
 refine V.seq fun K5 k6 => ?_
 refine V.sr h4 [] 1 0 [(5, .int .i64 1)] fun a h9 => ?_
 refine V.block ?_
 refine V.loop1 (fun (i : Nat) a_ w_ => En 24 [] a_ [(0, .slice Al l.length cl), (1, .func (.func 74) #[] #[]), (5, .int .i64 (i : Int))] ∧ Fr [] w w_ ∧ SlR scR (fun k => k < w.heap.size) w_ (.slice Al l.length cl) l ∧ (1 ≤ i ∧ i ≤ l.length + 1) ∧ (AllG (gR scR (ahd) l) i)) (fun (i : Nat) => l.length + 1 - i) 1 ?_ ?_
 ·
  refine ⟨(h9.eq 5 (v := (.int .i64 1)) (u := (.int .i64 (1 : Int))) (V.int_eq (by omega))).only _, hF, hSl, (by omega), (gR_one _ _ _)⟩
 ·
  rintro i a10 w11 ⟨h12, hF_13, hSl_14, hi, hG⟩
  have hfs15 := hF_13.size
  refine V.seq fun K16 k17 => ?_
  refine V.sr h12 [] 6 8 [(9, .bool (decide ((i : Int) < ((l.length : Nat) : Int))))] fun a h20 => ?_
  refine V.cp h20 ((i : Int) < ((l.length : Nat) : Int)) (fun ht21 => ?_) (fun ht21 => ?_)
  ·
   refine V.skip ?_
   refine V.then_n (k17 _ _ ?_)
   refine V.seq fun K22 k23 => ?_
   refine V.block ?_
   refine V.seq fun K24 k25 => ?_
   refine V.pl [([0,1,2,3,4,5,6,7,8,9],some (10,[])),([11],none)] fun w26 hF27 hsw26 => ?_
   have hF_28 := hF_13.new hF27
   have hSl_29 := hSl_14.fr0 hF27
   obtain ⟨g30, o31, hA32, hA32l, hA32z⟩ := hSl_29.addr (by omega)
   obtain ⟨cs33, hok34, hE35⟩ := hSl_29.els hA32 ((i : Int) - 1) (by omega) (by omega)
   obtain rfl : cs33 = [.string (at_ scR l ((i : Int) - 1)).1, .int .i64 (at_ scR l ((i : Int) - 1)).2] := hok34
   obtain ⟨cs36, hok37, hE38⟩ := hSl_29.els hA32 (i : Int) (by omega) (by omega)
   obtain rfl : cs36 = [.string (at_ scR l (i : Int)).1, .int .i64 (at_ scR l (i : Int)).2] := hok37
   refine V.pe h20 [(3, .i ((i : Int) - 1)), (0, .ix g30 o31 l.length cl .i64 ((i : Int) - 1) 2 hA32), (0, .ls ⟨g30, o31 + ((i : Int) - 1).toNat * 2, none⟩ [.string ((at_ scR l ((i : Int) - 1)).1), .int .i64 ((at_ scR l ((i : Int) - 1)).2)] (hE35.cells 0 _ rfl)), (2, .ix g30 o31 l.length cl .i64 (i : Int) 2 hA32), (0, .ls ⟨g30, o31 + (i : Int).toNat * 2, none⟩ [.string ((at_ scR l (i : Int)).1), .int .i64 ((at_ scR l (i : Int)).2)] (hE38.cells 0 _ rfl))] 13 20 [(12, .func (.func 74) #[] #[]), (17, .agg #[.string ((at_ scR l ((i : Int) - 1)).1), .int .i64 ((at_ scR l ((i : Int) - 1)).2)]), (21, .agg #[.string ((at_ scR l (i : Int)).1), .int .i64 ((at_ scR l (i : Int)).2)])] fun a h39 => ?_
   refine V.cl h39 (Go.Proofs.enters_of Tryz.func74 (by kernel_rfl) rfl) (order_any w26 (at_ scR l ((i : Int) - 1)) (at_ scR l (i : Int))) ?_
   rintro _ w41 ⟨rfl, hF40⟩
   refine ⟨_, rfl, fun a h42 => ?_⟩
   have hsw41 := hF40.size
   have hF_43 := hF_28.new hF40
   have hSl_44 := hSl_29.fr0 hF40
   refine V.eh trivial ?_
   refine V.pz h42 [] 1 0 [(23, .bool (decide ((ordI (at_ scR l ((i : Int) - 1)) (at_ scR l (i : Int))) ≥ 0)))] fun a h47 => k25 _ _ ?_
   refine V.cp h47 ((ordI (at_ scR l ((i : Int) - 1)) (at_ scR l (i : Int))) ≥ 0) (fun ht48 => ?_) (fun ht48 => ?_)
   ·
    refine V.sr h47 [] 1 0 [(4, .bool false)] fun a h51 => ?_
    refine V.ret (V.blk_r (V.then_r (V.then_r (V.blk_r (V.then_r ?_)))))
    refine V.r1 h51 (.bool false) ?_
    exact ⟨congrArg (fun b => Ending.returned (Value.bool b)) (bP_no (AllG.no (i := i) (by omega) fun hg => by have h1 := (ordI_neg _ _).2 (hg (by omega)); omega)), hF_43⟩
   ·
    refine V.skip (V.blk_n ?_)
    refine V.then_n (k23 _ _ ?_)
    refine V.rr h47 [(1, .i ((i : Int) + 1))] 10 11 [(5, .int .i64 ((i : Int) + 1))] fun a h52 => ?_
    refine V.then_n ?_
    refine ⟨i + 1, by omega, ?_⟩
    refine ⟨(h52.eq 5 (v := (.int .i64 ((i : Int) + 1))) (u := (.int .i64 ((i + 1) : Int))) (V.int_eq (by omega))).only _, hF_43, hSl_44, (by omega), (hG.step fun _ => (ordI_neg _ _).1 (by omega))⟩
  ·
   refine V.exit (V.then_e (V.then_e (V.blk_hit ?_)))
   refine V.then_n (k6 _ _ ?_)
   refine V.sr h20 [] 1 0 [(4, .bool true)] fun a h55 => ?_
   refine V.ret ?_
   refine V.r1 h55 (.bool true) ?_
   exact ⟨congrArg (fun b => Ending.returned (Value.bool b)) (bP_yes (hG.le (by omega))), hF_13⟩
end Go.Proofs.YtdebkbfnngkdlaaGreatDoor
end
section
namespace Go.Base
open Go.RowKit
theorem Fr.bel {w0 w w1 : World} {B : Nat} (h : Fr [] w0 w) (k : Below B w w1) (hB : w0.heap.size ≤ B) : Fr [] w0 w1 :=
  ⟨k.os.trans h.os, k.tape.trans h.tape, k.output.trans h.output, Nat.le_trans h.size k.size, fun i hi hn => (k.block i (Nat.lt_of_lt_of_le hi hB)).trans (h.block i hi hn)⟩
theorem Blk.bel {w w1 : World} {B b : Nat} {cs : List Value} {t : TypeId} (h : Blk w b cs t) (k : Below B w w1) (hb : b < B) : Blk w1 b cs t := (k.block b hb).trans h
end Go.Base
namespace Go.V
open Go.Plan (wpL)
open Go.RowKit Go.Base Go.Maps
set_option linter.unusedVariables false
set_option linter.unusedSimpArgs false
/-- A type of elements. -/
structure Ve (P : Program) (k e : TypeId) (β : Type) where
  enc : β → Value
  lit : β → Lit
  z : β
  ok : β → Prop
  hp : ∀ x, ok x → plainElem (H := Unit) P e (enc x) = some (.lit (lit x), [])
  inv : ∀ v x ps, plainElem (H := Unit) P e v = some (.lit (lit x), ps) → v = enc x
  hz : ∀ w, (zeroValue e).run P w = .ok (enc z) w
  okz : ok z
  hk : P.underlying k = some .string
def veI {P : Program} {k e : TypeId} (hk : P.underlying k = some .string) (he : P.underlying e = some (.int .i64)) (hz : ∀ w, (zeroValue e).run P w = .ok (.int .i64 0) w) : Ve P k e Int where
  enc := .int .i64
  lit := .int .i64
  z := 0
  ok := fun x => -9223372036854775808 ≤ x ∧ x ≤ 9223372036854775807
  hp := fun x h => plainElem_int he (by
    unfold Lit.wf
    have h1 : IntKind.i64.min = -9223372036854775808 := by decide
    have h2 : IntKind.i64.max = 9223372036854775807 := by decide
    simp [h1, h2]; omega)
  inv := fun v x ps h => by
    obtain ⟨a, rfl, h1, _⟩ := plainElem_int_inv he h
    simp only [Prod.mk.injEq, DataW.lit.injEq, Lit.int.injEq, true_and] at h1
    rw [h1.1]
  hz := hz
  okz := by omega
  hk := hk
section
variable {P : Program} {k e : TypeId} {β : Type} {E : Ve P k e β} {w w' : World} {b n : Nat} {f : ByteArray → β}
def Mp (E : Ve P k e β) (w : World) (b n : Nat) (f : ByteArray → β) : Prop :=
  (∀ s, E.ok (f s)) ∧ ∃ D : DataW Unit, w.ownsMap P k (plainElem P e) b n D ∧ IsMap D ∧ ∀ s : ByteArray, s.size ≤ maxLen → D.atKey (.string s.data.toList) (.lit (E.lit E.z)) = .lit (E.lit (f s))
theorem Mp.lt (h : Mp E w b n f) : b < w.heap.size := by obtain ⟨_, D, h, _⟩ := h; exact h.lt
theorem Mp.fr (h : Mp E w b n f) {l : List Nat} (F : Fr l w w') (hb : b ∉ l) : Mp E w' b n f := by
  obtain ⟨h0, D, h1, h2, h3⟩ := h
  have hlt := h1.lt
  obtain ⟨es, clock, hbk, F0, hs, hD⟩ := h1
  exact ⟨h0, D, ⟨es, clock, (F.block b hlt hb).trans hbk, F0, hs, hD⟩, h2, h3⟩
theorem Mp.fr0 (h : Mp E w b n f) (F : Fr [] w w') : Mp E w' b n f := h.fr F (by simp)
theorem Mp.fr1 (h : Mp E w b n f) {g : Nat} (F : Fr [g] w w') (hb : b ≠ g) : Mp E w' b n f := h.fr F (by simpa using hb)
theorem Mp.bel (h : Mp E w b n f) {B : Nat} (k : Below B w w') (hb : b < B) : Mp E w' b n f := by
  obtain ⟨h0, D, h1, h2, h3⟩ := h
  obtain ⟨es, clock, hbk, F0, hs, hD⟩ := h1
  exact ⟨h0, D, ⟨es, clock, (k.block b hb).trans hbk, F0, hs, hD⟩, h2, h3⟩
theorem Mp.up (h : Mp E w b n f) {n' : Nat} (hn : n ≤ n') : Mp E w b n' f := by
  obtain ⟨h0, D, h1, h2⟩ := h
  exact ⟨h0, D, h1.mono hn, h2⟩
def upd (f : ByteArray → β) (s : ByteArray) (y : β) : ByteArray → β := fun q => if q = s then y else f q
theorem key_ok (E : Ve P k e β) {s : ByteArray} (hs : s.size ≤ maxLen) : keyOf P k (.string s) = some (.string s.data.toList) := WideMaps.keyOf_string_mk E.hk hs
/-- What is read. -/
theorem Mp.look (h : Mp E w b n f) {t : TypeId} (ht : P.underlying t = some (.map k e)) {s : ByteArray} (hs : s.size ≤ maxLen) : (Instr.lookup t (.map (some b)) (.string s) false).run P w = .ok (E.enc (f s)) w := by
  obtain ⟨h0, D, h1, h2, h3⟩ := h
  obtain ⟨v, ps, hr, hv⟩ := h1.lookup (string_keyed E.hk) ht (E.hz w) (E.hp _ E.okz) (key_ok E hs)
  rw [h3 s hs] at hv
  rw [hr, E.inv v _ ps hv]
theorem lit_ne {s q : ByteArray} (h : q ≠ s) : Lit.string q.data.toList ≠ .string s.data.toList := fun e => h (by
  injection e with e
  cases q; cases s
  congr 1
  exact Array.ext' e)
/-- What is written. -/
theorem Mp.put (h : Mp E w b n f) {t : TypeId} (ht : P.underlying t = some (.map k e)) {s : ByteArray} (hs : s.size ≤ maxLen) {y : β} (hy : E.ok y) (hn : n < maxLen) :
    ∃ w', (Instr.mapUpdate t (.map (some b)) (.string s) (E.enc y)).run P w = .ok () w' ∧ Mp E w' b (n + 1) (upd f s y) ∧ Fr [b] w w' := by
  obtain ⟨h0, D, h1, h2, h3⟩ := h
  obtain ⟨w', hr, hm, hg⟩ := h1.update (string_keyed E.hk) ht hn (key_ok E hs) (E.hp y hy)
  refine ⟨w', hr, ⟨fun q => ?_, _, hm, h2.put _ _, fun q hq => ?_⟩, ⟨hg.os, hg.tape, hg.output, hg.size, fun i hi hx => hg.block i hi fun q => hx (by injection q with q; simp [q])⟩⟩
  · unfold upd; split
    · exact hy
    · exact h0 q
  · unfold upd
    by_cases hqs : q = s
    · rw [if_pos hqs, hqs, atKey_put_same (k := .string s.data.toList) h2 True.intro]
    · rw [if_neg hqs, atKey_put_other (lit_ne hqs)]; exact h3 q hq
theorem Mp.made (E : Ve P k e β) (w : World) : Mp E (w.alloc (.map #[] 0)) w.heap.size 0 (fun _ => E.z) :=
  ⟨fun _ => E.okz, _, World.ownsMap_made w P k _, isMap_empty, fun s _ => by rfl⟩
end
def mapOf (P : Program) (t k e : TypeId) : Bool := match P.underlying t with
  | some (.map k' e') => Nat.beq k' k && Nat.beq e' e
  | _ => false
theorem mapOf_spec {P : Program} {t k e : TypeId} (h : mapOf P t k e = true) : P.underlying t = some (.map k e) := by
  unfold mapOf at h
  split at h
  · rename_i k' e' he
    simp only [Bool.and_eq_true] at h
    rw [he, Nat.eq_of_beq_eq_true h.1, Nat.eq_of_beq_eq_true h.2]
  · cases h
section
variable {P : Program} {w : World} {k e : TypeId} {β : Type} {E : Ve P k e β}
/-- A look-up. -/
def It.lk {b n : Nat} {f : ByteArray → β} (h : Mp E w b n f) (s : ByteArray) (hs : s.size ≤ maxLen) : It P w where
  c R o := match o.op with
    | .lookup t m x false => .vs [opv R m, opv R x] (mapOf P t k e)
    | _ => .bad
  want := .vs [some (.map (some b)), some (.string s)] true
  x := E.enc (f s)
  h := fun a R o he hk => by
    obtain ⟨d, op, ty, pos, aft, g⟩ := o
    cases op <;> simp only [reduceCtorEq] at hk
    case lookup t m x c =>
      cases c <;> simp only [reduceCtorEq] at hk
      injection hk with h1 h2
      injection h1 with h1 h3
      injection h3 with h3 _
      have hm := opv_eval he h1
      have hx := opv_eval he h3
      simp only [execOp, hm, hx, Sem.run_bind, h.look (mapOf_spec h2) hs, Result.andThen_ok, Sem.run_pure]
end
section
variable {ro : Option Nat} {P : Program} {Q : Exit → Act → World → Prop} {a : Act} {w : World} {ops : Array Oper} {rest : List Oper} {d : Option Tmp} {ty : TypeId} {pos : String} {aft : Array Edge} {g : Option (Nat × Bool)} {k e : TypeId} {β : Type}
end
end Go.V
end
section
namespace Go.V
open Go.Plan (wpL)
open Go.RowKit Go.Base Go.Maps
set_option linter.unusedVariables false
set_option linter.unusedSimpArgs false
theorem setOf_more {q : List ByteArray} {s : ByteArray} : (setOf (q ++ [s])).length = if s ∈ q then (setOf q).length else (setOf q).length + 1 := by
  split
  · rename_i h
    rw [inc_eq (setOf_inc (q ++ [s])) (setOf_inc q) fun y => by
      rw [setOf_mem, setOf_mem, List.mem_append, List.mem_singleton]
      exact ⟨fun k => k.elim id fun e => e ▸ h, .inl⟩]
  · rename_i h
    have hn : (s :: setOf q).Nodup := List.nodup_cons.2 ⟨fun k => h ((setOf_mem _ _).1 k), (setOf_inc q).nodup⟩
    have hp := (List.perm_ext_iff_of_nodup (setOf_inc (q ++ [s])).nodup hn).2 fun y => by
      rw [setOf_mem, List.mem_append, List.mem_singleton, List.mem_cons, setOf_mem]
      exact ⟨fun k => k.elim .inr .inl, fun k => k.elim .inr .inl⟩
    exact hp.length_eq
section
variable {P : Program} {k e : TypeId} {β : Type} {E : Ve P k e β} {w w' : World} {b n : Nat} {q : List ByteArray}
def MpK (E : Ve P k e β) (w : World) (b n : Nat) (q : List ByteArray) : Prop :=
  ∃ D : DataW Unit, w.ownsMap P k (plainElem P e) b n D ∧ Maps.size D = (setOf q).length ∧ ∀ s : ByteArray, s.size ≤ maxLen → Maps.has D (.string s.data.toList) = decide (s ∈ q)
theorem MpK.fr (h : MpK E w b n q) {l : List Nat} (F : Fr l w w') (hb : b ∉ l) : MpK E w' b n q := by
  obtain ⟨D, h1, h2⟩ := h
  have hlt := h1.lt
  obtain ⟨es, clock, hbk, F0, hs, hD⟩ := h1
  exact ⟨D, ⟨es, clock, (F.block b hlt hb).trans hbk, F0, hs, hD⟩, h2⟩
theorem MpK.fr0 (h : MpK E w b n q) (F : Fr [] w w') : MpK E w' b n q := h.fr F (by simp)
theorem MpK.fr1 (h : MpK E w b n q) {g : Nat} (F : Fr [g] w w') (hb : b ≠ g) : MpK E w' b n q := h.fr F (by simpa using hb)
theorem MpK.lt (h : MpK E w b n q) : b < w.heap.size := by obtain ⟨D, h, _⟩ := h; exact h.lt
theorem MpK.put (h : MpK E w b n q) {t : TypeId} (ht : P.underlying t = some (.map k e)) {s : ByteArray} (hs : s.size ≤ maxLen) {y : β} (hy : E.ok y) (hn : n < maxLen) :
    ∃ w', (Instr.mapUpdate t (.map (some b)) (.string s) (E.enc y)).run P w = .ok () w' ∧ MpK E w' b (n + 1) (q ++ [s]) ∧ Fr [b] w w' := by
  obtain ⟨D, h1, h2, h3⟩ := h
  obtain ⟨w', hr, hm, hg⟩ := h1.update (string_keyed E.hk) ht hn (key_ok E hs) (E.hp y hy)
  refine ⟨w', hr, ⟨_, hm, ?_, fun x hx => ?_⟩, ⟨hg.os, hg.tape, hg.output, hg.size, fun i hi hx => hg.block i hi fun q => hx (by injection q with q; simp [q])⟩⟩
  · rw [size_put (h1.tidy (string_keyed E.hk)), h3 s hs, setOf_more, h2]
    by_cases hq : s ∈ q <;> simp [hq]
  · by_cases hx2 : x = s
    · subst hx2
      rw [has_put_same (k := .string x.data.toList) (h1.tidy (string_keyed E.hk)).isMap True.intro]; simp
    · rw [has_put_other (lit_ne hx2), h3 x hx]
      simp [hx2]
theorem MpK.made (E : Ve P k e β) (w : World) : MpK E (w.alloc (.map #[] 0)) w.heap.size 0 [] :=
  ⟨_, World.ownsMap_made w P k _, by rw [setOf_nil]; rfl, fun s _ => by simp [Maps.has]⟩
end
section
variable {ro : Option Nat} {P : Program} {Q : Exit → Act → World → Prop} {a : Act} {w : World} {ops : Array Oper} {rest : List Oper} {d : Option Tmp} {ty : TypeId} {pos : String} {aft : Array Edge} {g : Option (Nat × Bool)} {k e : TypeId} {β : Type}
/-- How many keys. -/
theorem lnK {E : Ve P k e β} {b n : Nat} {q : List ByteArray} {t : TypeId} {x : Operand} (h : MpK E w b n q) (hx : a.eval x = .map (some b)) (ht : mapOf P t k e = true)
    (kk : L ro P ops Q rest (a.put d (.int .i64 (((setOf q).length : Nat) : Int))) w) : St ro P ops Q rest ⟨d, .call ⟨.builtin .len, #[x], #[t]⟩, ty, pos, aft, g⟩ a w := by
  obtain ⟨D, h1, h2, h3⟩ := h
  refine St.val (v := .int .i64 (((setOf q).length : Nat) : Int)) (w' := w) ?_ kk
  simp only [execOp, resolve, invoke, builtin, Sem.run_bind, Sem.run_pure, Result.andThen_ok, List.map_toArray, List.map_cons, List.map_nil, hx, h1.len (mapOf_spec ht), h2]
theorem mkK (E : Ve P k e β) {t : TypeId} (kk : ∀ w1 b, b = w.heap.size → MpK E w1 b 0 [] → Fr [] w w1 → w1.heap.size = b + 1 → L ro P ops Q rest (a.put d (.map (some b))) w1) : St ro P ops Q rest ⟨d, .makeMap t none, ty, pos, aft, g⟩ a w :=
  St.val (v := .map (some w.heap.size)) (w' := w.alloc (.map #[] 0)) (by simp only [execOp]; rfl) (kk _ _ rfl (MpK.made E w) (Fr.alloc _ _ _) (by simp))
theorem upK {E : Ve P k e β} {b n : Nat} {q : List ByteArray} {t : TypeId} {m x v : Operand} (h : MpK E w b n q) (s : ByteArray) (y : β) (hm : a.eval m = .map (some b)) (hx : a.eval x = .string s) (hv : a.eval v = E.enc y) (ht : mapOf P t k e = true) (hs : s.size ≤ maxLen) (hy : E.ok y) (hn : n < maxLen)
    (kk : ∀ w1, MpK E w1 b (n + 1) (q ++ [s]) → Fr [b] w w1 → L ro P ops Q rest a w1) : St ro P ops Q rest ⟨none, .mapUpdate t m x v, ty, pos, aft, g⟩ a w := by
  obtain ⟨w1, hr, h1, h2⟩ := h.put (mapOf_spec ht) hs hy hn
  unfold St
  have he : (execOp a.eval ⟨none, .mapUpdate t m x v, ty, pos, aft, g⟩).run P w = .ok .skip w1 := by
    simp only [execOp, hm, hx, hv, Sem.run_bind, hr, Result.andThen_ok, Sem.run_pure]
  rw [he]
  exact kk w1 h1 h2
end
end Go.V
end
section
namespace Go.Proofs.YtdebkbfnngkdlaaGreatDoor
open Go.V Go.Base
open Go.RowKit (Below)
attribute [local irreducible] Act.put Act.eval
set_option linter.unusedVariables false
set_option linter.unusedSimpArgs false
set_option maxHeartbeats 4000000
set_option maxRecDepth 20000
noncomputable abbrev mK : Ve Tryz.prog 9 3 Int := veI Tryz.underlying9 Tryz.underlying3 Tryz.zeroValue3
def gZ (l : List (ByteArray × Int)) (i : Nat) : Prop := (at_ scR l (i : Int)).1.size ≤ 65536
theorem at_memR {l : List (ByteArray × Int)} {i : Nat} (h : i < l.length) : at_ scR l (i : Int) ∈ l := List.mem_of_getElem? (at_some scR (xs := l) (i := (i : Int)) (by omega) (by omega))
theorem zset_any (w : World) (Al : Option Addr) (cl : Nat) (l : List (ByteArray × Int)) (hSl : SlR scR (fun k => k < w.heap.size) w (.slice Al l.length cl) l) (hl : l.length ≤ 1099511627776) (hz : ∀ x ∈ l, x.1.size ≤ maxLen) : Calls Tryz.prog 100 #[.slice Al l.length cl] w (fun e w' => e = .returned (.bool (bP (AllG (gZ l) l.length ∧ (setOf (mTx l l.length)).length = l.length ∧ AllG (gR scR (ahd) l) l.length))) ∧ Fr [] w w') := by
 have hF := Fr.refl [] w
 have hlen0 := hSl.len_le
 refine V.en 32 Tryz.func100 fun a h1 => ?_
 refine V.sr h1 [] 2 2 [] fun a h4 => ?_
 refine V.sg fun K5 k6 => ?_
 refine V.go (V.mkK mK ?_)
 intro w8 b7 heb7 hM9 hF10 hsb7
 have hF_11 := hF.new hF10
 have hSl_12 := hSl.fr0 hF10
 refine V.pt h4 fun a h13 => ?_
 refine V.re h13 [] 1 0 [(3, .map (some b7))] fun a h14 => k6 _ _ ?_
 refine V.seq fun K15 k16 => ?_
 refine V.sr h14 [] 1 0 [(7, .slice Al l.length cl), (8, .int .i64 ((l.length : Nat) : Int)), (9, .int .i64 0)] fun a h19 => ?_
 refine V.block ?_
 refine V.loop1 (fun (i : Nat) a_ w_ => En 32 [] a_ [(0, .slice Al l.length cl), (3, .map (some b7)), (7, .slice Al l.length cl), (8, .int .i64 ((l.length : Nat) : Int)), (9, .int .i64 (i : Int))] ∧ MpK mK w_ b7 i (mTx l i) ∧ Fr [] w w_ ∧ SlR scR (fun k => k < w.heap.size) w_ (.slice Al l.length cl) l ∧ (i ≤ l.length) ∧ (AllG (gZ l) i)) (fun (i : Nat) => l.length - i) 0 ?_ ?_
 ·
  refine ⟨(h19.eq 9 (v := (.int .i64 0)) (u := (.int .i64 (0 : Int))) (V.int_eq (by omega))).only _, hM9, hF_11, hSl_12, (by omega), (AllG.zero _)⟩
 ·
  rintro i a20 w21 ⟨h22, hM_23, hF_24, hSl_25, hi, hG⟩
  have hfs26 := hF_24.size
  have hml := hM_23.lt
  refine V.sr h22 [] 1 0 [(10, .bool (decide ((i : Int) < ((l.length : Nat) : Int))))] fun a h29 => ?_
  refine V.seq fun K30 k31 => ?_
  refine V.cp h29 ((i : Int) < ((l.length : Nat) : Int)) (fun ht32 => ?_) (fun ht32 => ?_)
  ·
   refine V.skip ?_
   refine V.then_n (k31 _ _ ?_)
   refine V.seq fun K33 k34 => ?_
   refine V.block ?_
   obtain ⟨g37, o38, hA39, hA39l, hA39z⟩ := hSl_25.addr (by omega)
   obtain ⟨cs40, hok41, hE42⟩ := hSl_25.els hA39 (i : Int) (by omega) (by omega)
   obtain rfl : cs40 = [.string (at_ scR l (i : Int)).1, .int .i64 (at_ scR l (i : Int)).2] := hok41
   refine V.sg fun K35 k36 => ?_
   refine V.run h29 [(1, .ix g37 o38 l.length cl .i64 (i : Int) 2 hA39), (0, .ls ⟨g37, o38 + (i : Int).toNat * 2, none⟩ [.string ((at_ scR l (i : Int)).1), .int .i64 ((at_ scR l (i : Int)).2)] (hE42.cells 0 _ rfl))] 3 12 12 [(11, .int .i64 (i : Int)), (13, .agg #[.string ((at_ scR l (i : Int)).1), .int .i64 ((at_ scR l (i : Int)).2)])] fun a h47 => ?_
   refine V.go (V.mk [] trivial (by kernel_rfl) [.string ⟨#[]⟩, .int .i64 0] 98 (fun b => .pointer (some ⟨b, 0, none⟩)) (by kernel_rfl) ?_)
   intro w44 b43 heb43 hB45 hF46 hsb43
   have hM_48 := hM_23.fr0 hF46
   have hF_49 := hF_24.new hF46
   have hSl_50 := hSl_25.fr0 hF46
   refine V.pt h47 fun a h52 => ?_
   refine V.run h52 [] 1 1 0 [(4, .int .i64 (i : Int))] fun a h56 => ?_
   refine V.go (V.stn b43 0 (.agg #[.string ((at_ scR l (i : Int)).1), .int .i64 ((at_ scR l (i : Int)).2)]) [.string ((at_ scR l (i : Int)).1), .int .i64 ((at_ scR l (i : Int)).2)] h56.e h56.e rfl rfl (by kernel_rfl) hB45 (by simp) [.string ((at_ scR l (i : Int)).1), .int .i64 ((at_ scR l (i : Int)).2)] rfl ?_)
   intro w53 hB54 hF55 hsw53
   have hM_57 := hM_48.fr1 hF55 (by omega)
   have hF_58 := hF_49.own hF55 (by simp <;> omega)
   have hSl_59 := hSl_50.fr hF55 (by simp <;> omega)
   refine V.nt (k36 _ _ ?_)
   refine V.sg fun K60 k61 => ?_
   refine V.run h56 [(2, .b hB54 0)] 4 15 15 [(14, .map (some b7)), (16, .string ((at_ scR l (i : Int)).1)), (17, .int .i64 (i : Int))] fun a h65 => ?_
   refine V.go (V.upK (E := mK) hM_57 ((at_ scR l (i : Int)).1) (i : Int) (h65.e (v := (.map (some b7)))) (h65.e (v := (.string ((at_ scR l (i : Int)).1)))) (h65.e (v := (.int .i64 (i : Int)))) (by kernel_rfl) (hz _ (at_memR (by omega))) ⟨by omega, by omega⟩ (by unfold maxLen; omega) ?_)
   intro w62 hM63 hF64
   have hsw62 := hF64.size
   have hF_66 := hF_58.own hF64 (by simp <;> omega)
   have hSl_67 := hSl_59.fr hF64 (by simp <;> omega)
   have hB54_68 := hB54.fr1 hF64 (by omega)
   refine V.nt (k61 _ _ ?_)
   refine V.sg fun K69 k70 => ?_
   refine V.run h65 [(1, .b hB54_68 0)] 2 18 18 [(19, .string ((at_ scR l (i : Int)).1))] fun a h71 => ?_
   refine V.cl h71 (Go.Proofs.enters_of Tryz.func94 (by kernel_rfl) rfl) (short_any w62 ((at_ scR l (i : Int)).1)) ?_
   rintro _ w73 ⟨rfl, hF72⟩
   refine ⟨_, rfl, fun a h74 => ?_⟩
   have hsw73 := hF72.size
   have hF_75 := hF_66.new hF72
   have hSl_76 := hSl_67.fr0 hF72
   have hM63_78 := hM63.fr0 hF72
   refine V.re h74 [(0, .q (.bool (decide (¬ ((((at_ scR l (i : Int)).1).size : Int) ≤ 65536)))) V.t_not)] 1 0 [(21, .bool (decide (¬ ((((at_ scR l (i : Int)).1).size : Int) ≤ 65536))))] fun a h79 => k70 _ _ ?_
   refine V.cp h79 (¬ ((((at_ scR l (i : Int)).1).size : Int) ≤ 65536)) (fun ht80 => ?_) (fun ht80 => ?_)
   ·
    refine V.sr h79 [] 1 0 [(2, .bool false)] fun a h83 => ?_
    refine V.ret (V.blk_r (V.then_r (V.then_r (V.blk_r (V.then_r ?_)))))
    refine V.r1 h83 (.bool false) ?_
    exact ⟨congrArg (fun b => Ending.returned (Value.bool b)) (bP_no fun hq => by first | (have h1 := hq.1 i (by omega); unfold gZ at h1; omega) | (have h0 : i = l.length := (by omega); subst h0; have h1 := hq.2.1; omega)), hF_75⟩
   ·
    refine V.skip (V.blk_n ?_)
    refine V.then_n (k34 _ _ ?_)
    refine V.rr h79 [(0, .i ((i : Int) + 1))] 22 22 [(9, .int .i64 ((i : Int) + 1))] fun a h84 => ?_
    refine V.then_n ?_
    refine ⟨i + 1, by omega, ?_⟩
    refine ⟨(h84.eq 9 (v := (.int .i64 ((i : Int) + 1))) (u := (.int .i64 ((i + 1) : Int))) (V.int_eq (by omega))).only _, (by rw [mTx_next (by omega)]; exact hM63_78), hF_75, hSl_76, (by omega), (hG.step (by unfold gZ; omega))⟩
  ·
   refine V.exit (V.then_e (V.then_e (V.blk_hit ?_)))
   refine V.then_n (k16 _ _ ?_)
   refine V.sg fun K85 k86 => ?_
   refine V.run h29 [] 1 1 0 [(23, .map (some b7))] fun a h87 => ?_
   refine V.go (V.lnK hM_23 (h87.e (v := (.map (some b7)))) (by kernel_rfl) ?_)
   refine V.pt h87 fun a h88 => ?_
   refine V.run h88 [(2, .eq (((setOf (mTx l i)).length : Nat) : Int) ((l.length : Nat) : Int))] 4 25 27 [(28, .bool (decide ((((setOf (mTx l i)).length : Nat) : Int) = ((l.length : Nat) : Int))))] fun a h89 => ?_
   by_cases hg90 : (((setOf (mTx l i)).length : Nat) : Int) = ((l.length : Nat) : Int)
   ·
    have h91 := h89.kt 28 hg90
    refine V.run h91 [] 1 1 0 [(29, .slice Al l.length cl)] fun a h92 => ?_
    refine V.clg h92 (Go.Proofs.enters_of Tryz.func136 (by kernel_rfl) rfl) (rising_sc w21 Al cl l hSl_25.old) ?_
    rintro _ w94 ⟨rfl, hF93⟩
    refine ⟨_, rfl, fun a h95 => ?_⟩
    have hsw94 := hF93.size
    have hF_97 := hF_24.new hF93
    refine V.re h95 [] 31 31 [(2, .bool (bP (AllG (gR scR (ahd) l) l.length)))] fun a h99 => k86 _ _ ?_
    refine V.ret ?_
    refine V.r1 h99 (.bool (bP (AllG (gR scR (ahd) l) l.length))) ?_
    obtain rfl : i = l.length := by omega
    exact ⟨congrArg (fun b => Ending.returned (Value.bool b)) (congrArg bP (propext ⟨fun q => ⟨hG, by omega, q⟩, fun q => q.2.2⟩)), hF_97⟩
   ·
    have h100 := h89.kf 28 hg90
    refine V.re h100 [] 29 31 [(2, .bool false)] fun a h101 => k86 _ _ ?_
    refine V.ret ?_
    refine V.r1 h101 (.bool false) ?_
    exact ⟨congrArg (fun b => Ending.returned (Value.bool b)) (bP_no fun hq => by first | (have h1 := hq.1 i (by omega); unfold gZ at h1; omega) | (have h0 : i = l.length := (by omega); subst h0; have h1 := hq.2.1; omega)), hF_24⟩
def gS (l : List ByteArray) (i : Nat) : Prop := ((at_ Rp.str l (i : Int)).size : Int) ≤ 65536
def gFs (l : List (ByteArray × ByteArray)) (i : Nat) : Prop := ((at_ fdR l (i : Int)).1.size : Int) ≤ 65536 ∧ ((at_ fdR l (i : Int)).2.size : Int) ≤ 65536
theorem bad1_any (w : World) (x : ByteArray) : Calls Tryz.prog 99 #[.string x] w (fun e w' => e = .returned (.bool (decide (¬ ((x.size : Int) ≤ 65536)))) ∧ Fr [] w w') := by
 have hF := Fr.refl [] w
 refine V.en 6 Tryz.func99 fun a h1 => ?_
 refine V.sr h1 [] 2 2 [] fun a h4 => ?_
 refine V.sg fun K5 k6 => ?_
 refine V.run h4 [] 1 1 0 [(3, .string x)] fun a h7 => ?_
 refine V.cl h7 (Go.Proofs.enters_of Tryz.func94 (by kernel_rfl) rfl) (short_any w x) ?_
 rintro _ w9 ⟨rfl, hF8⟩
 refine ⟨_, rfl, fun a h10 => ?_⟩
 have hsw9 := hF8.size
 have hF_11 := hF.new hF8
 refine V.re h10 [(0, .q (.bool (decide (¬ ((x.size : Int) ≤ 65536)))) V.t_not)] 5 5 [(2, .bool (decide (¬ ((x.size : Int) ≤ 65536))))] fun a h12 => k6 _ _ ?_
 refine V.ret ?_
 refine V.r1 h12 (.bool (decide (¬ ((x.size : Int) ≤ 65536)))) ?_
 exact ⟨rfl, hF_11⟩
theorem bad2_any (w : World) (x y : ByteArray) : Calls Tryz.prog 103 #[.agg #[.string x, .string y]] w (fun e w' => e = .returned (.bool (decide (¬ ((x.size : Int) ≤ 65536 ∧ (y.size : Int) ≤ 65536)))) ∧ Fr [] w w') := by
 have hF := Fr.refl [] w
 refine V.en 13 Tryz.func103 fun a h1 => ?_
 refine V.sg fun K2 k3 => ?_
 refine V.go (V.mk [(0, .agg #[.string x, .string y])] ⟨h1.e, trivial⟩ (by kernel_rfl) [.string x, .string y] 101 (fun b => .pointer (some ⟨b, 0, none⟩)) (by kernel_rfl) ?_)
 intro w5 b4 heb4 hB6 hF7 hsb4
 have hF_8 := hF.new hF7
 refine V.pt h1 fun a h9 => ?_
 refine V.re h9 [] 2 2 [] fun a h10 => k3 _ _ ?_
 refine V.sg fun K11 k12 => ?_
 refine V.run h10 [(1, .b hB6 0)] 2 3 3 [(4, .string x)] fun a h13 => ?_
 refine V.cl h13 (Go.Proofs.enters_of Tryz.func94 (by kernel_rfl) rfl) (short_any w5 x) ?_
 rintro _ w15 ⟨rfl, hF14⟩
 refine ⟨_, rfl, fun a h16 => ?_⟩
 have hsw15 := hF14.size
 have hF_17 := hF_8.new hF14
 have hB6_18 := hB6.fr0 hF14
 refine V.run h16 [(0, .q (.bool (decide (¬ ((x.size : Int) ≤ 65536)))) V.t_not)] 2 6 6 [(7, .bool (decide (¬ ((x.size : Int) ≤ 65536))))] fun a h19 => ?_
 by_cases hg20 : ¬ ((x.size : Int) ≤ 65536)
 ·
  have h21 := h19.kt 7 hg20
  refine V.re h21 [] 8 12 [(2, .bool true)] fun a h22 => k12 _ _ ?_
  refine V.ret ?_
  refine V.r1 h22 (.bool true) ?_
  exact ⟨congrArg (fun b => Ending.returned (Value.bool b)) (decide_eq_true (by omega)).symm, hF_17⟩
 ·
  have h23 := h19.kf 7 hg20
  refine V.run h23 [(1, .b hB6_18 1)] 2 8 8 [(9, .string y)] fun a h24 => ?_
  refine V.clg h24 (Go.Proofs.enters_of Tryz.func94 (by kernel_rfl) rfl) (short_any w15 y) ?_
  rintro _ w26 ⟨rfl, hF25⟩
  refine ⟨_, rfl, fun a h27 => ?_⟩
  have hsw26 := hF25.size
  have hF_28 := hF_17.new hF25
  refine V.re h27 [(0, .q (.bool (decide (¬ ((y.size : Int) ≤ 65536)))) V.t_not)] 11 12 [(2, .bool (decide (¬ ((y.size : Int) ≤ 65536))))] fun a h30 => k12 _ _ ?_
  refine V.ret ?_
  refine V.r1 h30 (.bool (decide (¬ ((y.size : Int) ≤ 65536)))) ?_
  exact ⟨congrArg (fun b => Ending.returned (Value.bool b)) (decide_eq_decide.2 (by omega)), hF_28⟩
theorem ix_str (w : World) (Al : Option Addr) (cl : Nat) (l : List ByteArray) (hSl : SlR Rp.str (fun k => k < w.heap.size) w (.slice Al l.length cl) l) : Calls Tryz.prog 135 #[.slice Al l.length cl, .func (.func 99) #[] #[]] w (fun e w' => ∃ r : Int, e = .returned (.int .i64 r) ∧ Fr [] w w' ∧ ((r = -1 ∧ AllG (gS l) l.length) ∨ (0 ≤ r ∧ ¬ AllG (gS l) l.length))) := by
 have hF := Fr.refl [] w
 have hlen0 := hSl.len_le
 refine V.en 19 Tryz.func135 fun a h1 => ?_
 refine V.sr h1 [] 4 4 [] fun a h4 => ?_
 refine V.seq fun K5 k6 => ?_
 refine V.sr h4 [] 6 6 [(7, .int .i64 ((l.length : Nat) : Int)), (8, .int .i64 0)] fun a h9 => ?_
 refine V.block ?_
 refine V.loop1 (fun (i : Nat) a_ w_ => En 19 [] a_ [(0, .slice Al l.length cl), (1, .func (.func 99) #[] #[]), (7, .int .i64 ((l.length : Nat) : Int)), (8, .int .i64 (i : Int))] ∧ Fr [] w w_ ∧ SlR Rp.str (fun k => k < w.heap.size) w_ (.slice Al l.length cl) l ∧ (i ≤ l.length) ∧ (AllG (gS l) i)) (fun (i : Nat) => l.length - i) 0 ?_ ?_
 ·
  refine ⟨(h9.eq 8 (v := (.int .i64 0)) (u := (.int .i64 (0 : Int))) (V.int_eq (by omega))).only _, hF, hSl, (by omega), (AllG.zero _)⟩
 ·
  rintro i a10 w11 ⟨h12, hF_13, hSl_14, hi, hG⟩
  have hfs15 := hF_13.size
  refine V.sr h12 [] 1 0 [(9, .bool (decide ((i : Int) < ((l.length : Nat) : Int))))] fun a h18 => ?_
  refine V.seq fun K19 k20 => ?_
  refine V.cp h18 ((i : Int) < ((l.length : Nat) : Int)) (fun ht21 => ?_) (fun ht21 => ?_)
  ·
   refine V.skip ?_
   refine V.then_n (k20 _ _ ?_)
   refine V.seq fun K22 k23 => ?_
   refine V.block ?_
   refine V.sr h18 [] 10 10 [(5, .int .i64 (i : Int))] fun a h26 => ?_
   obtain ⟨g29, o30, hA31, hA31l, hA31z⟩ := hSl_14.addr (by omega)
   obtain ⟨cs32, hok33, hE34⟩ := hSl_14.els hA31 (i : Int) (by omega) (by omega)
   obtain rfl : cs32 = [.string (at_ Rp.str l (i : Int))] := hok33
   refine V.sg fun K27 k28 => ?_
   refine V.run h26 [(3, .ix g29 o30 l.length cl .i64 (i : Int) 1 hA31), (0, .l ⟨g29, o30 + (i : Int).toNat * 1, none⟩ (.string (at_ Rp.str l (i : Int))) (hE34.at 0 rfl))] 5 12 14 [(11, .func (.func 99) #[] #[]), (15, .string (at_ Rp.str l (i : Int)))] fun a h35 => ?_
   refine V.cl h35 (Go.Proofs.enters_of Tryz.func99 (by kernel_rfl) rfl) (bad1_any w11 (at_ Rp.str l (i : Int))) ?_
   rintro _ w37 ⟨rfl, hF36⟩
   refine ⟨_, rfl, fun a h38 => ?_⟩
   have hsw37 := hF36.size
   have hF_39 := hF_13.new hF36
   have hSl_40 := hSl_14.fr0 hF36
   refine V.nt (k28 _ _ ?_)
   refine V.cp h38 (¬ (((at_ Rp.str l (i : Int)).size : Int) ≤ 65536)) (fun ht42 => ?_) (fun ht42 => ?_)
   ·
    refine V.sr h38 [] 17 17 [(4, .int .i64 (i : Int))] fun a h45 => ?_
    refine V.ret (V.blk_r (V.then_r (V.then_r (V.blk_r (V.then_r ?_)))))
    refine V.r1 h45 (.int .i64 (i : Int)) ?_
    exact ⟨_, rfl, hF_39, .inr ⟨by omega, AllG.no (i := i) (by omega) fun hg => by unfold gS at hg; omega⟩⟩
   ·
    refine V.skip (V.blk_n ?_)
    refine V.then_n (k23 _ _ ?_)
    refine V.rr h38 [(0, .i ((i : Int) + 1))] 18 18 [(8, .int .i64 ((i : Int) + 1))] fun a h46 => ?_
    refine V.then_n ?_
    refine ⟨i + 1, by omega, ?_⟩
    refine ⟨(h46.eq 8 (v := (.int .i64 ((i : Int) + 1))) (u := (.int .i64 ((i + 1) : Int))) (V.int_eq (by omega))).only _, hF_39, hSl_40, (by omega), (hG.step (by unfold gS; omega))⟩
  ·
   refine V.exit (V.then_e (V.then_e (V.blk_hit ?_)))
   refine V.then_n (k6 _ _ ?_)
   refine V.sr h18 [] 1 0 [(4, .int .i64 (-1))] fun a h49 => ?_
   refine V.ret ?_
   refine V.r1 h49 (.int .i64 (-1)) ?_
   exact ⟨_, rfl, hF_13, .inl ⟨rfl, hG.le (by omega)⟩⟩
theorem con_str (w : World) (Al : Option Addr) (cl : Nat) (l : List ByteArray) (hSl : SlR Rp.str (fun k => k < w.heap.size) w (.slice Al l.length cl) l) : Calls Tryz.prog 98 #[.slice Al l.length cl, .func (.func 99) #[] #[]] w (fun e w' => e = .returned (.bool (bP (¬ AllG (gS l) l.length))) ∧ Fr [] w w') := by
 have hF := Fr.refl [] w
 refine V.en 9 Tryz.func98 fun a h1 => ?_
 refine V.sr h1 [] 4 4 [] fun a h4 => ?_
 refine V.sg fun K5 k6 => ?_
 refine V.run h4 [] 2 1 0 [(5, .slice Al l.length cl), (6, .func (.func 99) #[] #[])] fun a h7 => ?_
 refine V.cl h7 (Go.Proofs.enters_of Tryz.func135 (by kernel_rfl) rfl) (ix_str w Al cl l hSl.old) ?_
 rintro _ w11 ⟨r8, rfl, hF9, hr10⟩
 refine ⟨_, rfl, fun a h12 => ?_⟩
 have hsw11 := hF9.size
 have hF_13 := hF.new hF9
 refine V.re h12 [] 8 8 [(4, .bool (decide (r8 ≥ 0)))] fun a h15 => k6 _ _ ?_
 refine V.ret ?_
 refine V.r1 h15 (.bool (decide (r8 ≥ 0))) ?_
 exact ⟨congrArg (fun b => Ending.returned (Value.bool b)) (bP_dec.trans (congrArg bP (propext ⟨fun h => by (rcases hr10 with h1 | h1; omega; exact h1.2), fun h => by (rcases hr10 with h1 | h1; exact absurd h1.2 h; omega)⟩))), hF_13⟩
theorem ix_fd (w : World) (Al : Option Addr) (cl : Nat) (l : List (ByteArray × ByteArray)) (hSl : SlR fdR (fun k => k < w.heap.size) w (.slice Al l.length cl) l) : Calls Tryz.prog 137 #[.slice Al l.length cl, .func (.func 103) #[] #[]] w (fun e w' => ∃ r : Int, e = .returned (.int .i64 r) ∧ Fr [] w w' ∧ ((r = -1 ∧ AllG (gFs l) l.length) ∨ (0 ≤ r ∧ ¬ AllG (gFs l) l.length))) := by
 have hF := Fr.refl [] w
 have hlen0 := hSl.len_le
 refine V.en 19 Tryz.func137 fun a h1 => ?_
 refine V.sr h1 [] 4 4 [] fun a h4 => ?_
 refine V.seq fun K5 k6 => ?_
 refine V.sr h4 [] 6 6 [(7, .int .i64 ((l.length : Nat) : Int)), (8, .int .i64 0)] fun a h9 => ?_
 refine V.block ?_
 refine V.loop1 (fun (i : Nat) a_ w_ => En 19 [] a_ [(0, .slice Al l.length cl), (1, .func (.func 103) #[] #[]), (7, .int .i64 ((l.length : Nat) : Int)), (8, .int .i64 (i : Int))] ∧ Fr [] w w_ ∧ SlR fdR (fun k => k < w.heap.size) w_ (.slice Al l.length cl) l ∧ (i ≤ l.length) ∧ (AllG (gFs l) i)) (fun (i : Nat) => l.length - i) 0 ?_ ?_
 ·
  refine ⟨(h9.eq 8 (v := (.int .i64 0)) (u := (.int .i64 (0 : Int))) (V.int_eq (by omega))).only _, hF, hSl, (by omega), (AllG.zero _)⟩
 ·
  rintro i a10 w11 ⟨h12, hF_13, hSl_14, hi, hG⟩
  have hfs15 := hF_13.size
  refine V.sr h12 [] 1 0 [(9, .bool (decide ((i : Int) < ((l.length : Nat) : Int))))] fun a h18 => ?_
  refine V.seq fun K19 k20 => ?_
  refine V.cp h18 ((i : Int) < ((l.length : Nat) : Int)) (fun ht21 => ?_) (fun ht21 => ?_)
  ·
   refine V.skip ?_
   refine V.then_n (k20 _ _ ?_)
   refine V.seq fun K22 k23 => ?_
   refine V.block ?_
   refine V.sr h18 [] 10 10 [(5, .int .i64 (i : Int))] fun a h26 => ?_
   obtain ⟨g29, o30, hA31, hA31l, hA31z⟩ := hSl_14.addr (by omega)
   obtain ⟨cs32, hok33, hE34⟩ := hSl_14.els hA31 (i : Int) (by omega) (by omega)
   obtain rfl : cs32 = [.string (at_ fdR l (i : Int)).1, .string (at_ fdR l (i : Int)).2] := hok33
   refine V.sg fun K27 k28 => ?_
   refine V.run h26 [(3, .ix g29 o30 l.length cl .i64 (i : Int) 2 hA31), (0, .ls ⟨g29, o30 + (i : Int).toNat * 2, none⟩ [.string ((at_ fdR l (i : Int)).1), .string ((at_ fdR l (i : Int)).2)] (hE34.cells 0 _ rfl))] 5 12 14 [(11, .func (.func 103) #[] #[]), (15, .agg #[.string ((at_ fdR l (i : Int)).1), .string ((at_ fdR l (i : Int)).2)])] fun a h35 => ?_
   refine V.cl h35 (Go.Proofs.enters_of Tryz.func103 (by kernel_rfl) rfl) (bad2_any w11 ((at_ fdR l (i : Int)).1) ((at_ fdR l (i : Int)).2)) ?_
   rintro _ w37 ⟨rfl, hF36⟩
   refine ⟨_, rfl, fun a h38 => ?_⟩
   have hsw37 := hF36.size
   have hF_39 := hF_13.new hF36
   have hSl_40 := hSl_14.fr0 hF36
   refine V.nt (k28 _ _ ?_)
   refine V.cp h38 (¬ ((((at_ fdR l (i : Int)).1).size : Int) ≤ 65536 ∧ (((at_ fdR l (i : Int)).2).size : Int) ≤ 65536)) (fun ht42 => ?_) (fun ht42 => ?_)
   ·
    refine V.sr h38 [] 17 17 [(4, .int .i64 (i : Int))] fun a h45 => ?_
    refine V.ret (V.blk_r (V.then_r (V.then_r (V.blk_r (V.then_r ?_)))))
    refine V.r1 h45 (.int .i64 (i : Int)) ?_
    exact ⟨_, rfl, hF_39, .inr ⟨by omega, AllG.no (i := i) (by omega) fun hg => by unfold gFs at hg; omega⟩⟩
   ·
    refine V.skip (V.blk_n ?_)
    refine V.then_n (k23 _ _ ?_)
    refine V.rr h38 [(0, .i ((i : Int) + 1))] 18 18 [(8, .int .i64 ((i : Int) + 1))] fun a h46 => ?_
    refine V.then_n ?_
    refine ⟨i + 1, by omega, ?_⟩
    refine ⟨(h46.eq 8 (v := (.int .i64 ((i : Int) + 1))) (u := (.int .i64 ((i + 1) : Int))) (V.int_eq (by omega))).only _, hF_39, hSl_40, (by omega), (hG.step (by unfold gFs; omega))⟩
  ·
   refine V.exit (V.then_e (V.then_e (V.blk_hit ?_)))
   refine V.then_n (k6 _ _ ?_)
   refine V.sr h18 [] 1 0 [(4, .int .i64 (-1))] fun a h49 => ?_
   refine V.ret ?_
   refine V.r1 h49 (.int .i64 (-1)) ?_
   exact ⟨_, rfl, hF_13, .inl ⟨rfl, hG.le (by omega)⟩⟩
theorem con_fd (w : World) (Al : Option Addr) (cl : Nat) (l : List (ByteArray × ByteArray)) (hSl : SlR fdR (fun k => k < w.heap.size) w (.slice Al l.length cl) l) : Calls Tryz.prog 102 #[.slice Al l.length cl, .func (.func 103) #[] #[]] w (fun e w' => e = .returned (.bool (bP (¬ AllG (gFs l) l.length))) ∧ Fr [] w w') := by
 have hF := Fr.refl [] w
 refine V.en 9 Tryz.func102 fun a h1 => ?_
 refine V.sr h1 [] 4 4 [] fun a h4 => ?_
 refine V.sg fun K5 k6 => ?_
 refine V.run h4 [] 2 1 0 [(5, .slice Al l.length cl), (6, .func (.func 103) #[] #[])] fun a h7 => ?_
 refine V.cl h7 (Go.Proofs.enters_of Tryz.func137 (by kernel_rfl) rfl) (ix_fd w Al cl l hSl.old) ?_
 rintro _ w11 ⟨r8, rfl, hF9, hr10⟩
 refine ⟨_, rfl, fun a h12 => ?_⟩
 have hsw11 := hF9.size
 have hF_13 := hF.new hF9
 refine V.re h12 [] 8 8 [(4, .bool (decide (r8 ≥ 0)))] fun a h15 => k6 _ _ ?_
 refine V.ret ?_
 refine V.r1 h15 (.bool (decide (r8 ≥ 0))) ?_
 exact ⟨congrArg (fun b => Ending.returned (Value.bool b)) (bP_dec.trans (congrArg bP (propext ⟨fun h => by (rcases hr10 with h1 | h1; omega; exact h1.2), fun h => by (rcases hr10 with h1 | h1; exact absurd h1.2 h; omega)⟩))), hF_13⟩
end Go.Proofs.YtdebkbfnngkdlaaGreatDoor
end
