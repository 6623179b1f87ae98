/- A map of one's own, keyed by texts: what is read of it is a function. And: clear of one's own row's tail. -/
import Derived.Test.YtkepojdmgdgaoaaSl
import Derived.Maps.Own
import Derived.StringKeys
import Derived.Maps.Views
import Derived.Lib.SliceRun
namespace Go.Base
open Go.RowKit
theorem Fr.bel {w0 w w1 : World} {B : Nat} (h : Fr [] w0 w) (k : Below B w w1) (hB : w0.heap.size ≤ B) : Fr [] w0 w1 :=
  ⟨k.os.trans h.os, k.tape.trans h.tape, k.output.trans h.output, Nat.le_trans h.size k.size, fun i hi hn => (k.block i (Nat.lt_of_lt_of_le hi hB)).trans (h.block i hi hn)⟩
theorem Blk.bel {w w1 : World} {B b : Nat} {cs : List Value} {t : TypeId} (h : Blk w b cs t) (k : Below B w w1) (hb : b < B) : Blk w1 b cs t := (k.block b hb).trans h
end Go.Base
namespace Go.V
open Go.Plan (wpL)
open Go.RowKit Go.Base Go.Maps
set_option linter.unusedVariables false
set_option linter.unusedSimpArgs false
/-- A type of elements. -/
structure Ve (P : Program) (k e : TypeId) (β : Type) where
  enc : β → Value
  lit : β → Lit
  z : β
  ok : β → Prop
  hp : ∀ x, ok x → plainElem (H := Unit) P e (enc x) = some (.lit (lit x), [])
  inv : ∀ v x ps, plainElem (H := Unit) P e v = some (.lit (lit x), ps) → v = enc x
  hz : ∀ w, (zeroValue e).run P w = .ok (enc z) w
  okz : ok z
  hk : P.underlying k = some .string
def veB {P : Program} {k e : TypeId} (hk : P.underlying k = some .string) (he : P.underlying e = some .bool) (hz : ∀ w, (zeroValue e).run P w = .ok (.bool false) w) : Ve P k e Bool where
  enc := .bool
  lit := .bool
  z := false
  ok := fun _ => True
  hp := fun x _ => plainElem_bool he x
  inv := fun v x ps h => by
    unfold plainElem at h
    rw [he] at h
    cases v <;> simp at h
    obtain ⟨h, _⟩ := h
    rw [h]
  hz := hz
  okz := trivial
  hk := hk
def veI {P : Program} {k e : TypeId} (hk : P.underlying k = some .string) (he : P.underlying e = some (.int .i64)) (hz : ∀ w, (zeroValue e).run P w = .ok (.int .i64 0) w) : Ve P k e Int where
  enc := .int .i64
  lit := .int .i64
  z := 0
  ok := fun x => -9223372036854775808 ≤ x ∧ x ≤ 9223372036854775807
  hp := fun x h => plainElem_int he (by
    unfold Lit.wf
    have h1 : IntKind.i64.min = -9223372036854775808 := by decide
    have h2 : IntKind.i64.max = 9223372036854775807 := by decide
    simp [h1, h2]; omega)
  inv := fun v x ps h => by
    obtain ⟨a, rfl, h1, _⟩ := plainElem_int_inv he h
    simp only [Prod.mk.injEq, DataW.lit.injEq, Lit.int.injEq, true_and] at h1
    rw [h1.1]
  hz := hz
  okz := by omega
  hk := hk
section
variable {P : Program} {k e : TypeId} {β : Type} {E : Ve P k e β} {w w' : World} {b n : Nat} {f : ByteArray → β}
def Mp (E : Ve P k e β) (w : World) (b n : Nat) (f : ByteArray → β) : Prop :=
  (∀ s, E.ok (f s)) ∧ ∃ D : DataW Unit, w.ownsMap P k (plainElem P e) b n D ∧ IsMap D ∧ ∀ s : ByteArray, s.size ≤ maxLen → D.atKey (.string s.data.toList) (.lit (E.lit E.z)) = .lit (E.lit (f s))
theorem Mp.lt (h : Mp E w b n f) : b < w.heap.size := by obtain ⟨_, D, h, _⟩ := h; exact h.lt
theorem Mp.fr (h : Mp E w b n f) {l : List Nat} (F : Fr l w w') (hb : b ∉ l) : Mp E w' b n f := by
  obtain ⟨h0, D, h1, h2, h3⟩ := h
  have hlt := h1.lt
  obtain ⟨es, clock, hbk, F0, hs, hD⟩ := h1
  exact ⟨h0, D, ⟨es, clock, (F.block b hlt hb).trans hbk, F0, hs, hD⟩, h2, h3⟩
theorem Mp.fr0 (h : Mp E w b n f) (F : Fr [] w w') : Mp E w' b n f := h.fr F (by simp)
theorem Mp.fr1 (h : Mp E w b n f) {g : Nat} (F : Fr [g] w w') (hb : b ≠ g) : Mp E w' b n f := h.fr F (by simpa using hb)
theorem Mp.bel (h : Mp E w b n f) {B : Nat} (k : Below B w w') (hb : b < B) : Mp E w' b n f := by
  obtain ⟨h0, D, h1, h2, h3⟩ := h
  obtain ⟨es, clock, hbk, F0, hs, hD⟩ := h1
  exact ⟨h0, D, ⟨es, clock, (k.block b hb).trans hbk, F0, hs, hD⟩, h2, h3⟩
theorem Mp.cg (h : Mp E w b n f) {f' : ByteArray → β} (e : f = f') : Mp E w b n f' := e ▸ h
theorem Mp.up (h : Mp E w b n f) {n' : Nat} (hn : n ≤ n') : Mp E w b n' f := by
  obtain ⟨h0, D, h1, h2⟩ := h
  exact ⟨h0, D, h1.mono hn, h2⟩
def upd (f : ByteArray → β) (s : ByteArray) (y : β) : ByteArray → β := fun q => if q = s then y else f q
theorem key_ok (E : Ve P k e β) {s : ByteArray} (hs : s.size ≤ maxLen) : keyOf P k (.string s) = some (.string s.data.toList) := WideMaps.keyOf_string_mk E.hk hs
/-- What is read. -/
theorem Mp.look (h : Mp E w b n f) {t : TypeId} (ht : P.underlying t = some (.map k e)) {s : ByteArray} (hs : s.size ≤ maxLen) : (Instr.lookup t (.map (some b)) (.string s) false).run P w = .ok (E.enc (f s)) w := by
  obtain ⟨h0, D, h1, h2, h3⟩ := h
  obtain ⟨v, ps, hr, hv⟩ := h1.lookup (string_keyed E.hk) ht (E.hz w) (E.hp _ E.okz) (key_ok E hs)
  rw [h3 s hs] at hv
  rw [hr, E.inv v _ ps hv]
theorem lit_ne {s q : ByteArray} (h : q ≠ s) : Lit.string q.data.toList ≠ .string s.data.toList := fun e => h (by
  injection e with e
  cases q; cases s
  congr 1
  exact Array.ext' e)
/-- What is written. -/
theorem Mp.put (h : Mp E w b n f) {t : TypeId} (ht : P.underlying t = some (.map k e)) {s : ByteArray} (hs : s.size ≤ maxLen) {y : β} (hy : E.ok y) (hn : n < maxLen) :
    ∃ w', (Instr.mapUpdate t (.map (some b)) (.string s) (E.enc y)).run P w = .ok () w' ∧ Mp E w' b (n + 1) (upd f s y) ∧ Fr [b] w w' := by
  obtain ⟨h0, D, h1, h2, h3⟩ := h
  obtain ⟨w', hr, hm, hg⟩ := h1.update (string_keyed E.hk) ht hn (key_ok E hs) (E.hp y hy)
  refine ⟨w', hr, ⟨fun q => ?_, _, hm, h2.put _ _, fun q hq => ?_⟩, ⟨hg.os, hg.tape, hg.output, hg.size, fun i hi hx => hg.block i hi fun q => hx (by injection q with q; simp [q])⟩⟩
  · unfold upd; split
    · exact hy
    · exact h0 q
  · unfold upd
    by_cases hqs : q = s
    · rw [if_pos hqs, hqs, atKey_put_same (k := .string s.data.toList) h2 True.intro]
    · rw [if_neg hqs, atKey_put_other (lit_ne hqs)]; exact h3 q hq
theorem Mp.made (E : Ve P k e β) (w : World) : Mp E (w.alloc (.map #[] 0)) w.heap.size 0 (fun _ => E.z) :=
  ⟨fun _ => E.okz, _, World.ownsMap_made w P k _, isMap_empty, fun s _ => by rfl⟩
end
def mapOf (P : Program) (t k e : TypeId) : Bool := match P.underlying t with
  | some (.map k' e') => Nat.beq k' k && Nat.beq e' e
  | _ => false
theorem mapOf_spec {P : Program} {t k e : TypeId} (h : mapOf P t k e = true) : P.underlying t = some (.map k e) := by
  unfold mapOf at h
  split at h
  · rename_i k' e' he
    simp only [Bool.and_eq_true] at h
    rw [he, Nat.eq_of_beq_eq_true h.1, Nat.eq_of_beq_eq_true h.2]
  · cases h
section
variable {P : Program} {w : World} {k e : TypeId} {β : Type} {E : Ve P k e β}
/-- A look-up. -/
def It.lk {b n : Nat} {f : ByteArray → β} (h : Mp E w b n f) (s : ByteArray) (hs : s.size ≤ maxLen) : It P w where
  c R o := match o.op with
    | .lookup t m x false => .vs [opv R m, opv R x] (mapOf P t k e)
    | _ => .bad
  want := .vs [some (.map (some b)), some (.string s)] true
  x := E.enc (f s)
  h := fun a R o he hk => by
    obtain ⟨d, op, ty, pos, aft, g⟩ := o
    cases op <;> simp only [reduceCtorEq] at hk
    case lookup t m x c =>
      cases c <;> simp only [reduceCtorEq] at hk
      injection hk with h1 h2
      injection h1 with h1 h3
      injection h3 with h3 _
      have hm := opv_eval he h1
      have hx := opv_eval he h3
      simp only [execOp, hm, hx, Sem.run_bind, h.look (mapOf_spec h2) hs, Result.andThen_ok, Sem.run_pure]
end
theorem over_tk : ∀ (vs cs : List Value) (off n : Nat), n ≤ off → (over cs off vs).take n = cs.take n
  | [], cs, off, n, h => rfl
  | v :: vs, cs, off, n, h => by
    show (over (cs.set off v) (off + 1) vs).take n = cs.take n
    rw [over_tk vs _ _ _ (by omega)]
    apply List.ext_getElem?
    intro i
    rw [List.getElem?_take, List.getElem?_take]
    split
    · rw [List.getElem?_set_ne (by omega)]
    · rfl
section
variable {ro : Option Nat} {P : Program} {Q : Exit → Act → World → Prop} {a : Act} {w : World} {ops : Array Oper} {rest : List Oper} {d : Option Tmp} {ty : TypeId} {pos : String} {aft : Array Edge} {g : Option (Nat × Bool)} {k e : TypeId} {β : Type}
/-- make. -/
theorem mkM (E : Ve P k e β) {t : TypeId} (kk : ∀ w1 b, b = w.heap.size → Mp E w1 b 0 (fun _ => E.z) → Fr [] w w1 → w1.heap.size = b + 1 → L ro P ops Q rest (a.put d (.map (some b))) w1) : St ro P ops Q rest ⟨d, .makeMap t none, ty, pos, aft, g⟩ a w :=
  St.val (v := .map (some w.heap.size)) (w' := w.alloc (.map #[] 0)) (by simp only [execOp]; rfl) (kk _ _ rfl (Mp.made E w) (Fr.alloc _ _ _) (by simp))
/-- A store into it. -/
theorem upM {E : Ve P k e β} {b n : Nat} {f : ByteArray → β} {t : TypeId} {m x v : Operand} (h : Mp E w b n f) (s : ByteArray) (y : β) (hm : a.eval m = .map (some b)) (hx : a.eval x = .string s) (hv : a.eval v = E.enc y) (ht : mapOf P t k e = true) (hs : s.size ≤ maxLen) (hy : E.ok y) (hn : n < maxLen)
    (kk : ∀ w1, Mp E w1 b (n + 1) (upd f s y) → Fr [b] w w1 → L ro P ops Q rest a w1) : St ro P ops Q rest ⟨none, .mapUpdate t m x v, ty, pos, aft, g⟩ a w := by
  obtain ⟨w1, hr, h1, h2⟩ := h.put (mapOf_spec ht) hs hy hn
  unfold St
  have he : (execOp a.eval ⟨none, .mapUpdate t m x v, ty, pos, aft, g⟩).run P w = .ok .skip w1 := by
    simp only [execOp, hm, hx, hv, Sem.run_bind, hr, Result.andThen_ok, Sem.run_pure]
  rw [he]
  exact kk w1 h1 h2
/-- clear of the tail of one's own row of texts. -/
theorem clrS {base gg n c m : Nat} {el : TypeId} {l : List ByteArray} {t : TypeId} {x : Operand} (h : OwR Rp.str NoZ w base el (.slice (some ⟨gg, 0, none⟩) n c) l) (hx : a.eval x = .slice (cutA (some ⟨gg, 0, none⟩) m c 1) (n - m) (c - m)) (hm : m < n) (ht : P.underlying t = some (.slice e)) (hz : ∀ w, (zeroValue e).run P w = .ok (.string ⟨#[]⟩) w)
    (kk : ∀ w1, OwR Rp.str NoZ w1 base el (.slice (some ⟨gg, 0, none⟩) m c) (l.take m) → Fr [gg] w w1 → w1.heap.size = w.heap.size → L ro P ops Q rest a w1) : St ro P ops Q rest ⟨none, .call ⟨.builtin .clear, #[x], #[t]⟩, ty, pos, aft, g⟩ a w := by
  obtain ⟨cur, hB, hcl, hn, hnc, hcm, hg, htk⟩ := h.openS
  obtain ⟨q, hq⟩ : ∃ q, n - m = q + 1 := ⟨n - m - 1, by omega⟩
  have hA : cutA (some ⟨gg, 0, none⟩) m c 1 = some ⟨gg, m, none⟩ := by
    unfold cutA
    rw [if_neg (by omega)]
    simp [Addr.add]; omega
  have hzc : (Builtin.zeroCells (Value.string ⟨#[]⟩).cells (q + 1)).toList = List.replicate (q + 1) (.string ⟨#[]⟩) := by
    simp only [Value.cells]
    simp [Builtin.zeroCells]
    apply List.ext_getElem
    · simp
    · intro i h1 h2
      simp [Nat.mod_one]
  obtain ⟨w1, h2, h3, h4, h5⟩ := run_storeCells (P := P) gg el m (List.replicate (q + 1) (.string ⟨#[]⟩)) 0 w cur (fun u hu => by rw [List.eq_of_mem_replicate hu]; rfl) hB (by simp; omega)
  have hrun : (execOp a.eval ⟨none, .call ⟨.builtin .clear, #[x], #[t]⟩, ty, pos, aft, g⟩).run P w = .ok (.value (.tuple #[])) w1 := by
    simp only [execOp, resolve, invoke, builtin, Sem.run_bind, Sem.run_pure, Result.andThen_ok, List.map_toArray, List.map_cons, List.map_nil, hx, hA, hq]
    simp [Builtin.clear_, run_underlying ht, hz, hzc, h2]
  refine St.val hrun (kk w1 ?_ h4 h5)
  have hlen : (l.take m).length = m := by rw [List.length_take]; omega
  have hr := OwR.mkS (l := l.take m) h3 (by simp [over_length, hcl]) (by omega) hcm hg ?_
  · rw [hlen] at hr; exact hr
  · rw [hlen, Nat.add_zero, over_tk _ _ _ _ (Nat.le_refl _), List.map_take, ← htk, List.take_take, Nat.min_eq_left (by omega)]
end
end Go.V
