/- A walk by steps that are named: the frame under one letter, what it holds as facts; the world under one letter, what it holds as facts. -/
import Derived.Test.YtkepojdmgdgaoaaPlan
import Derived.Test.YtkepojdmgdgaoaaBase
import Derived.KernelRfl
import Derived.IntWalk
import Derived.Lib.Strings
import Derived.RangeFuncNested
import Derived.Shelf.Abstract
namespace Go.V
open Go.Plan (FW wpL bind_ok NOk)
open Go.RowKit Go.Base
set_option linter.unusedVariables false
set_option linter.unusedSimpArgs false

/-! ### 1. Code -/
def Wp (ro : Option Nat) (P : Program) (c : Code) (Q : Exit → Act → World → Prop) (a : Act) (w : World) : Prop := c.wpIn (FW ro) 0 P Q a w
def L (ro : Option Nat) (P : Program) (ops : Array Oper) (Q : Exit → Act → World → Prop) (l : List Oper) (a : Act) (w : World) : Prop := wpL ro P ops Q l a w
def St (ro : Option Nat) (P : Program) (ops : Array Oper) (Q : Exit → Act → World → Prop) (rest : List Oper) (o : Oper) (a : Act) (w : World) : Prop := o.uponIn (FW ro) 0 P a (L ro P ops Q rest) Q ((execOp a.eval o).run P w)
section
variable {ro : Option Nat} {P : Program} {Q : Exit → Act → World → Prop} {a : Act} {w : World}
theorem skip (h : Q .normal a w) : Wp ro P .skip Q a w := wpIn_skip h
theorem ret (h : Q .ret a w) : Wp ro P .ret Q a w := wpIn_ret h
theorem exit {i : Nat} (h : Q (.exit i) a w) : Wp ro P (.exit i) Q a w := wpIn_exit h
theorem seq {x y : Code} (h : ∀ K : Act → World → Prop, (∀ a w, Wp ro P y Q a w → K a w) → Wp ro P x (Exit.then K Q) a w) : Wp ro P (.seq x y) Q a w := wpIn_seq_k h
theorem seqd {x y : Code} (h : Wp ro P x (Exit.then (Wp ro P y Q) Q) a w) : Wp ro P (.seq x y) Q a w := wpIn_seq h
theorem mono {c : Code} {Q' : Exit → Act → World → Prop} (h : Wp ro P c Q a w) (hq : ∀ e a w, Q e a w → Q' e a w) : Wp ro P c Q' a w := wpIn_mono h hq
/-- What is known behind the first part is all that the second is told. -/
theorem seq_cut {x y : Code} (J : Act → World → Prop) (h : Wp ro P x (Exit.then J Q) a w) (k : ∀ a w, J a w → Wp ro P y Q a w) : Wp ro P (.seq x y) Q a w :=
  wpIn_seq (wpIn_mono h fun e a w q => by cases e <;> first | exact k _ _ q | exact q)
theorem cut {x : Code} {K : Act → World → Prop} (J : Act → World → Prop) (h : Wp ro P x (Exit.then J Q) a w) (k : ∀ a w, J a w → K a w) : Wp ro P x (Exit.then K Q) a w :=
  wpIn_mono h fun e a w q => by cases e <;> first | exact k _ _ q | exact q
theorem cond {c : Operand} {x y : Code} {t : Bool} (hc : a.eval c = .bool t) (h1 : t = true → Wp ro P x Q a w) (h2 : t = false → Wp ro P y Q a w) : Wp ro P (.cond c x y) Q a w := wpIn_cond_split hc h1 h2
theorem condP {c : Operand} {x y : Code} {p : Prop} [Decidable p] (hc : a.eval c = .bool (decide p)) (h1 : p → Wp ro P x Q a w) (h2 : ¬ p → Wp ro P y Q a w) : Wp ro P (.cond c x y) Q a w :=
  wpIn_cond_split hc (fun h => h1 (of_decide_eq_true h)) (fun h => h2 (of_decide_eq_false h))
theorem cond_t {c : Operand} {x y : Code} (hc : a.eval c = .bool true) (h : Wp ro P x Q a w) : Wp ro P (.cond c x y) Q a w := wpIn_cond hc h
theorem cond_f {c : Operand} {x y : Code} (hc : a.eval c = .bool false) (h : Wp ro P y Q a w) : Wp ro P (.cond c x y) Q a w := wpIn_cond hc h
theorem block {i : Nat} {c : Code} (h : Wp ro P c (Exit.inBlock i Q) a w) : Wp ro P (.block i c) Q a w := wpIn_block h
theorem exists_min (p : Nat → Prop) (h : ∃ n, p n) : ∃ n, p n ∧ ∀ m, p m → n ≤ m := by
  obtain ⟨n, hn⟩ := h
  induction n using Nat.strongRecOn with
  | _ n ih =>
    by_cases h : ∃ m, m < n ∧ p m
    · obtain ⟨m, hm, hp⟩ := h; exact ih m hm hp
    · exact ⟨n, hn, fun m hm => Nat.le_of_not_lt fun hlt => h ⟨m, hlt, hm⟩⟩
/-- A loop, by a ghost: what holds at a round's head, of which ghost; a measure of the ghost. -/
theorem loop {c : Code} {σ : Type} (I : σ → Act → World → Prop) (m : σ → Nat) (s0 : σ) (h0 : I s0 a w)
    (hr : ∀ s a w, I s a w → Wp ro P c (Exit.then (fun a' w' => ∃ s', m s' < m s ∧ I s' a' w') Q) a w) : Wp ro P (.loop c) Q a w := by
  classical
  have hex : ∀ a w, (∃ s, I s a w) → ∃ n, (∃ s, m s = n ∧ I s a w) ∧ ∀ k, (∃ s, m s = k ∧ I s a w) → n ≤ k := fun a w ⟨s, h⟩ => exists_min _ ⟨_, s, rfl, h⟩
  let μ : Act → World → Nat := fun a w => if h : ∃ s, I s a w then Classical.choose (hex a w h) else 0
  refine wpIn_loop (fun a w => ∃ s, I s a w) μ ⟨s0, h0⟩ ?_
  intro a w hI
  have hμ : ∃ s, m s = μ a w ∧ I s a w := by
    show ∃ s, m s = (if h : ∃ s, I s a w then Classical.choose (hex a w h) else 0) ∧ I s a w
    rw [dif_pos hI]
    exact (Classical.choose_spec (hex a w hI)).1
  obtain ⟨s, hm, hs⟩ := hμ
  refine wpIn_mono (hr s a w hs) ?_
  intro e a' w' q
  cases e with
  | normal =>
    obtain ⟨s', hlt, hI'⟩ := q
    refine ⟨⟨s', hI'⟩, ?_⟩
    have : μ a' w' ≤ m s' := by
      show (if h : ∃ s, I s a' w' then Classical.choose (hex a' w' h) else 0) ≤ m s'
      rw [dif_pos ⟨s', hI'⟩]
      exact (Classical.choose_spec (hex a' w' ⟨s', hI'⟩)).2 _ ⟨s', rfl, hI'⟩
    omega
  | _ => exact q
theorem region {l : List Oper} {id : Nat} (hnd : Plan.noDefer l.toArray = true) (h : L ro P l.toArray Q l a w) : Wp ro P (.region id l.toArray false) Q a w := Plan.wp_region_text hnd h
theorem nil {ops : Array Oper} (h : Q .normal a w) : L ro P ops Q [] a w := h
theorem go {ops : Array Oper} {rest : List Oper} {d : Option Tmp} {op : Op} {ty : TypeId} {pos : String} {aft : Array Edge} (h : St ro P ops Q rest ⟨d, op, ty, pos, aft, none⟩ a w) : L ro P ops Q (⟨d, op, ty, pos, aft, none⟩ :: rest) a w := by
  unfold L wpL; rw [if_pos (by simp [Region.wanted])]; exact h
theorem go_on {ops : Array Oper} {rest : List Oper} {d : Option Tmp} {op : Op} {ty : TypeId} {pos : String} {aft : Array Edge} {j : Nat} {want : Bool} (t : Tmp) (hd : (ops[j]?).bind (·.dst) = some t) (hv : a.eval (.tmp t) = .bool want)
    (h : St ro P ops Q rest ⟨d, op, ty, pos, aft, some (j, want)⟩ a w) : L ro P ops Q (⟨d, op, ty, pos, aft, some (j, want)⟩ :: rest) a w := by
  have hy : yielded ops a.tmps j = some want := by
    unfold yielded; rw [hd]
    simp only [Act.eval, Array.getD_eq_getD_getElem?] at hv
    cases h : a.tmps[t]? with
    | none => rw [h] at hv; simp [undef] at hv
    | some v => rw [h] at hv; simp at hv; simp [h, hv]
  unfold L wpL; rw [if_pos (by simp [Region.wanted, hy])]; exact h
theorem go_off {ops : Array Oper} {rest : List Oper} {d : Option Tmp} {op : Op} {ty : TypeId} {pos : String} {aft : Array Edge} {j : Nat} {want have_ : Bool} (t : Tmp) (hd : (ops[j]?).bind (·.dst) = some t) (hv : a.eval (.tmp t) = .bool have_) (hne : (have_ == want) = false)
    (h : L ro P ops Q rest (a.put d undef) w) : L ro P ops Q (⟨d, op, ty, pos, aft, some (j, want)⟩ :: rest) a w := by
  have hy : yielded ops a.tmps j = some have_ := by
    unfold yielded; rw [hd]
    simp only [Act.eval, Array.getD_eq_getD_getElem?] at hv
    cases h : a.tmps[t]? with
    | none => rw [h] at hv; simp [undef] at hv
    | some v => rw [h] at hv; simp at hv; simp [h, hv]
  unfold L wpL; rw [if_neg (by simp [Region.wanted, hy]; simpa using hne)]; exact h
theorem go_none {ops : Array Oper} {rest : List Oper} {d : Option Tmp} {op : Op} {ty : TypeId} {pos : String} {aft : Array Edge} {j : Nat} {want : Bool} (t : Tmp) (hd : (ops[j]?).bind (·.dst) = some t) (hv : a.eval (.tmp t) = undef)
    (h : L ro P ops Q rest (a.put d undef) w) : L ro P ops Q (⟨d, op, ty, pos, aft, some (j, want)⟩ :: rest) a w := by
  have hy : yielded ops a.tmps j = none := by
    unfold yielded; rw [hd]
    simp only [Act.eval, Array.getD_eq_getD_getElem?] at hv
    cases h : a.tmps[t]? with
    | none => simp [h]
    | some v => rw [h] at hv; simp at hv; simp [h, hv, undef]
  unfold L wpL; rw [if_neg (by simp [Region.wanted, hy])]; exact h
end

theorem evc {a : Act} {v : Value} : a.eval (.const v) = v := rfl
theorem evf {a : Act} {f : Nat} : a.eval (.func f) = .func (.func f) #[] #[] := rfl
/-! ### 2. The frame -/
structure Sd (n : Nat) (ds : List Deferred) (a : Act) : Prop where
  size : a.tmps.size = n
  defers : a.defers = ds
abbrev Sz (n : Nat) (a : Act) : Prop := Sd n [] a
theorem Sd.put {n : Nat} {ds : List Deferred} {a : Act} (h : Sd n ds a) (d : Option Tmp) (v : Value) : Sd n ds (a.put d v) := by
  cases d with
  | none => exact h
  | some d => exact ⟨by simp [Act.put, h.size], h.defers⟩
theorem at_same {n : Nat} {ds : List Deferred} {a : Act} (h : Sd n ds a) {d : Nat} (hd : decide (d < n) = true) (v : Value) : (a.put (some d) v).eval (.tmp d) = v := by
  have : d < a.tmps.size := by rw [h.size]; exact of_decide_eq_true hd
  simp [Act.eval, Act.put, this]
theorem at_other {a : Act} {d t : Nat} (hne : Nat.beq d t = false) (v : Value) {u : Value} (h : a.eval (.tmp t) = u) : (a.put (some d) v).eval (.tmp t) = u := by
  have hne' : d ≠ t := Nat.ne_of_beq_eq_false hne
  rw [← h]
  simp [Act.eval, Act.put, Array.getElem?_setIfInBounds_ne hne']
def Evs (a : Act) : List (Nat × Value) → Prop
  | [] => True
  | (t, v) :: l => a.eval (.tmp t) = v ∧ Evs a l
def lookupV : List (Nat × Value) → Nat → Value
  | [], _ => undef
  | (k, v) :: l, t => bif Nat.beq k t then v else lookupV l t
def hasT : List (Nat × Value) → Nat → Bool
  | [], _ => false
  | (k, _) :: l, t => Nat.beq k t || hasT l t
theorem Evs.look {a : Act} : ∀ {l : List (Nat × Value)} {t : Nat}, Evs a l → hasT l t = true → a.eval (.tmp t) = lookupV l t
  | (k, v) :: l, t, h, ht => by
    simp only [hasT, lookupV] at *
    cases hk : Nat.beq k t with
    | true =>
      have := Nat.eq_of_beq_eq_true hk
      subst this
      simp [h.1]
    | false => rw [hk] at ht; simp at ht; simp; exact h.2.look ht
def envOf (l : List (Nat × Value)) : Operand → Value
  | .tmp t => lookupV l t
  | .const v => v
  | .global g => .pointer (some ⟨g, 0, none⟩)
  | .func f => .func (.func f) #[] #[]
def known (l : List (Nat × Value)) (o : Oper) : Bool := (match o.op with | .select .. => false | _ => true) && o.op.operands.all fun
  | .tmp t => hasT l t
  | _ => true
theorem exec_env {a : Act} {o : Oper} {l : List (Nat × Value)} (he : Evs a l) (hk : known l o = true) : execOp a.eval o = execOp (envOf l) o := by
  unfold known at hk
  simp only [Bool.and_eq_true] at hk
  refine execOp_congr o (fun cs b h => by have := hk.1; rw [h] at this; cases this) fun x hx => ?_
  have := Array.all_eq_true_iff_forall_mem.1 hk.2 x hx
  cases x with
  | tmp t => exact he.look this
  | _ => rfl

/-! ### 3. Operations -/
section
variable {ro : Option Nat} {P : Program} {Q : Exit → Act → World → Prop} {a : Act} {w : World} {ops : Array Oper} {rest : List Oper} {d : Option Tmp} {op : Op} {ty : TypeId} {pos : String} {aft : Array Edge} {g : Option (Nat × Bool)}
/-- What comes to a value. -/
theorem St.val {o : Oper} {v : Value} {w' : World} (h : (execOp a.eval o).run P w = .ok (.value v) w') (k : L ro P ops Q rest (a.put o.dst v) w') : St ro P ops Q rest o a w := by
  unfold St; rw [h]; exact k
theorem pv (l : List (Nat × Value)) (he : Evs a l) (hk : known l ⟨d, op, ty, pos, aft, g⟩ = true) (v : Value) (hr : (execOp (envOf l) ⟨d, op, ty, pos, aft, g⟩).run P w = .ok (.value v) w) (k : L ro P ops Q rest (a.put d v) w) :
    St ro P ops Q rest ⟨d, op, ty, pos, aft, g⟩ a w := St.val (by rw [exec_env he hk]; exact hr) k
theorem pvw (l : List (Nat × Value)) (he : Evs a l) (hk : known l ⟨d, op, ty, pos, aft, g⟩ = true) (v' v : Value) (hr : (execOp (envOf l) ⟨d, op, ty, pos, aft, g⟩).run P w = .ok (.value v') w) (hv : v' = v) (k : L ro P ops Q rest (a.put d v) w) :
    St ro P ops Q rest ⟨d, op, ty, pos, aft, g⟩ a w := by subst hv; exact pv l he hk v' hr k
theorem mv {x : Operand} {v : Value} (hx : a.eval x = v) (k : L ro P ops Q rest (a.put d v) w) : St ro P ops Q rest ⟨d, .move x, ty, pos, aft, g⟩ a w := St.val (v := v) (by simp [execOp, hx]) k
theorem asg {x : Operand} {v : Value} (hx : a.eval x = v) (k : L ro P ops Q rest (a.put d v) w) : St ro P ops Q rest ⟨d, .assign x, ty, pos, aft, g⟩ a w := St.val (v := v) (by simp [execOp, hx]) k
end
/-! ### 4. Memory -/
section
variable {ro : Option Nat} {P : Program} {Q : Exit → Act → World → Prop} {a : Act} {w : World} {ops : Array Oper} {rest : List Oper} {d : Option Tmp} {op : Op} {ty : TypeId} {pos : String} {aft : Array Edge} {g : Option (Nat × Bool)}
/-- A new block. -/
theorem mk (l : List (Nat × Value)) (he : Evs a l) (hk : known l ⟨d, op, ty, pos, aft, g⟩ = true) (cs : List Value) (t : TypeId) (v : Nat → Value)
    (hr : (execOp (envOf l) ⟨d, op, ty, pos, aft, g⟩).run P w = .ok (.value (v w.heap.size)) (w.alloc (.cells cs.toArray t (0, 0))))
    (k : ∀ w1 b, b = w.heap.size → Blk w1 b cs t → Fr [] w w1 → w1.heap.size = b + 1 → L ro P ops Q rest (a.put d (v b)) w1) : St ro P ops Q rest ⟨d, op, ty, pos, aft, g⟩ a w :=
  St.val (by rw [exec_env he hk]; exact hr) (k _ _ rfl (Blk.new w cs t) (Fr.alloc _ _ _) (by simp))
def scalar (P : Program) (t : TypeId) : Bool := match P.underlying t with
  | some (.struct _) => false
  | some (.array ..) => false
  | some _ => true
  | none => false
theorem isAgg_scalar {t : TypeId} (h : scalar P t = true) : (isAgg t).run P w = .ok false w := by
  unfold scalar at h
  split at h
  · cases h
  · cases h
  · rename_i dd h1 h2 hd
    unfold isAgg
    rw [Sem.run_bind, run_underlying hd]
    simp only [Result.andThen_ok]
    cases dd <;> first | rfl | exact (h1 _ rfl).elim | exact (h2 _ _ rfl).elim
  · cases h
theorem run_loadVar_scalar {t : TypeId} (h : scalar P t = true) {ad : Addr} {v : Value} (hc : w.cell? ad = some v) : (loadVar t ad).run P w = .ok v w := by
  unfold loadVar
  rw [Sem.run_bind, isAgg_scalar h]
  simp only [Result.andThen_ok, Bool.false_eq_true, if_false]
  exact Plan.load_kept hc
/-- A load of one cell. -/
theorem ld {t : TypeId} {x : Operand} (ad : Addr) (v : Value) (hx : a.eval x = .pointer (some ad)) (ht : scalar P t = true) (hc : w.cell? ad = some v) (k : L ro P ops Q rest (a.put d v) w) : St ro P ops Q rest ⟨d, .load t x, ty, pos, aft, g⟩ a w := by
  refine St.val (v := v) (w' := w) ?_ k
  simp only [execOp, hx, Instr.loadAt, Instr.sureAddr, Sem.run_bind, Sem.run_pure, Result.andThen_ok, run_loadVar_scalar ht hc]
def aggSize (P : Program) (t : TypeId) : Option Nat := match P.underlying t with
  | some (.struct _) => (P.info? t).map (·.size)
  | some (.array ..) => (P.info? t).map (·.size)
  | _ => none
theorem aggSize_spec {t : TypeId} {n : Nat} (h : aggSize P t = some n) : (isAgg t).run P w = .ok true w ∧ (sizeOf t).run P w = .ok n w := by
  unfold aggSize at h
  split at h
  all_goals first
    | (rename_i hd
       obtain ⟨i, hi, rfl⟩ := Option.map_eq_some_iff.1 h
       exact ⟨by unfold isAgg; rw [Sem.run_bind, run_underlying hd]; rfl, by unfold sizeOf typeInfo; simp [Sem.run_bind, hi]⟩)
    | cases h
theorem run_loadVar_agg {t : TypeId} {cs : List Value} (h : aggSize P t = some cs.length) {ad : Addr} (hc : ∀ j u, cs[j]? = some u → w.cell? (ad.add j) = some u) : (loadVar t ad).run P w = .ok (.agg cs.toArray) w := by
  obtain ⟨h1, h2⟩ := aggSize_spec (w := w) h
  unfold loadVar
  rw [Sem.run_bind, h1]
  simp only [Result.andThen_ok, if_true]
  rw [Sem.run_bind, h2]
  simp only [Result.andThen_ok]
  rw [Sem.run_bind, run_loadCells_list (w := w) (P := P) ad cs hc]
  rfl
/-- A load of a struct, of an array. -/
theorem lds {t : TypeId} {x : Operand} (ad : Addr) (cs : List Value) (hx : a.eval x = .pointer (some ad)) (ht : aggSize P t = some cs.length) (hc : ∀ j u, cs[j]? = some u → w.cell? (ad.add j) = some u)
    (k : L ro P ops Q rest (a.put d (.agg cs.toArray)) w) : St ro P ops Q rest ⟨d, .load t x, ty, pos, aft, g⟩ a w := by
  refine St.val (v := .agg cs.toArray) (w' := w) ?_ k
  simp only [execOp, hx, Instr.loadAt, Instr.sureAddr, Sem.run_bind, Sem.run_pure, Result.andThen_ok, run_loadVar_agg ht hc]
/-- Cells of a block, from one on. -/
theorem blk_cells {b : Nat} {cs0 : List Value} {bt : TypeId} (h : Blk w b cs0 bt) (off : Nat) (cs : List Value) (hcs : (cs0.drop off).take cs.length = cs) : ∀ j u, cs[j]? = some u → w.cell? ((⟨b, off, none⟩ : Addr).add j) = some u := by
  intro j u hj
  have ha : (⟨b, off, none⟩ : Addr).add j = ⟨b, off + j, none⟩ := by unfold Addr.add; split <;> simp_all
  rw [ha, h.cell]
  have hlt : j < cs.length := (List.getElem?_eq_some_iff.1 hj).1
  rw [← hcs, List.getElem?_take_of_lt hlt, List.getElem?_drop] at hj
  exact hj
def over : List Value → Nat → List Value → List Value
  | cs, _, [] => cs
  | cs, off, v :: vs => over (cs.set off v) (off + 1) vs
theorem over_length : ∀ (vs cs : List Value) (off : Nat), (over cs off vs).length = cs.length
  | [], cs, off => rfl
  | v :: vs, cs, off => by simp [over, over_length vs]
theorem run_storeCells (b : Nat) (bt : TypeId) (off0 : Nat) : ∀ (vs : List Value) (i : Nat) (w : World) (cs : List Value), (∀ v ∈ vs, v.oneCell' = true) → Blk w b cs bt → off0 + i + vs.length ≤ cs.length →
    ∃ w1, (storeCells ⟨b, off0, none⟩ vs i).run P w = .ok () w1 ∧ Blk w1 b (over cs (off0 + i) vs) bt ∧ Fr [b] w w1 ∧ w1.heap.size = w.heap.size
  | [], i, w, cs, _, hB, _ => ⟨w, rfl, hB, Fr.refl _ _, rfl⟩
  | v :: vs, i, w, cs, h1, hB, hl => by
    have ha : (⟨b, off0, none⟩ : Addr).add i = ⟨b, off0 + i, none⟩ := by unfold Addr.add; split <;> simp_all
    simp only [List.length_cons] at hl
    have hcell : w.cell? ⟨b, off0 + i, none⟩ = some (cs[off0 + i]'(by omega)) := by rw [hB.cell, List.getElem?_eq_getElem]
    have hst : (store ⟨b, off0 + i, none⟩ v).run P w = .ok () (w.setCell ⟨b, off0 + i, none⟩ v) := by
      rw [run_store P w _ v .plain (h1 v (List.mem_cons_self ..))]
      simp [stored, hcell, hB.frozen]
    obtain ⟨w1, h2, h3, h4, h5⟩ := run_storeCells b bt off0 vs (i + 1) (w.setCell ⟨b, off0 + i, none⟩ v) (cs.set (off0 + i) v) (fun u hu => h1 u (List.mem_cons_of_mem _ hu)) (hB.set _ _) (by simp; omega)
    refine ⟨w1, ?_, h3, ?_, ?_⟩
    · unfold storeCells
      rw [Sem.run_bind, ha, hst]
      exact h2
    · exact (Fr.setCell w ⟨b, off0 + i, none⟩ v).trans h4 (fun k hk _ => by simpa using hk)
    · rw [h5]; simp
/-- A store into a block that is known whole. -/
theorem stn {t : TypeId} {x y : Operand} (b off : Nat) (v : Value) (vs : List Value) (hx : a.eval x = .pointer (some ⟨b, off, none⟩)) (hy : a.eval y = v) (hvs : v.cells = vs.toArray) (h1 : vs.all Value.oneCell' = true)
    (ht : (P.info? t).map (·.size) = some vs.length) {cs : List Value} {bt : TypeId} (hB : Blk w b cs bt) (hoff : off + vs.length ≤ cs.length) (cs' : List Value) (hcs : over cs off vs = cs')
    (k : ∀ w1, Blk w1 b cs' bt → Fr [b] w w1 → w1.heap.size = w.heap.size → L ro P ops Q rest a w1) : St ro P ops Q rest ⟨none, .store t x y, ty, pos, aft, g⟩ a w := by
  subst hcs
  obtain ⟨w1, h2, h3, h4, h5⟩ := run_storeCells (P := P) b bt off vs 0 w cs (fun u hu => List.all_eq_true.1 h1 u hu) hB (by simpa using hoff)
  obtain ⟨i, hi, hs⟩ := Option.map_eq_some_iff.1 ht
  unfold St
  have hr : (execOp a.eval ⟨none, .store t x y, ty, pos, aft, g⟩).run P w = .ok .skip w1 := by
    simp only [execOp, hx, hy, Instr.storeAt, Instr.sureAddr, storeVar, Sem.run_bind, Sem.run_pure, Result.andThen_ok, sizeOf, typeInfo, run_program, hi, hs, hvs, List.size_toArray, ne_eq, not_true_eq_false, if_false]
    rw [h2]
    rfl
  rw [hr]
  exact k w1 (by simpa using h3) h4 h5
/-- The address of a slice's element. -/
theorem ixa {t : TypeId} {x i : Operand} (g0 o n c : Nat) (kk : IntKind) (iv : Int) (sz : Nat) (hx : a.eval x = .slice (some ⟨g0, o, none⟩) n c) (hi : a.eval i = .int kk iv) (h0 : 0 ≤ iv) (h1 : iv < n)
    (ht : (match P.underlying t with | some (.slice e) => (P.info? e).map (·.size) | _ => none) = some sz)
    (k : L ro P ops Q rest (a.put d (.pointer (some ⟨g0, o + iv.toNat * sz, none⟩))) w) : St ro P ops Q rest ⟨d, .indexAddr t x i, ty, pos, aft, g⟩ a w := by
  refine St.val (v := .pointer (some ⟨g0, o + iv.toNat * sz, none⟩)) (w' := w) ?_ k
  split at ht
  · rename_i e he
    obtain ⟨inf, hinf, rfl⟩ := Option.map_eq_some_iff.1 ht
    have ha : (⟨g0, o, none⟩ : Addr).add (iv.toNat * inf.size) = ⟨g0, o + iv.toNat * inf.size, none⟩ := by unfold Addr.add; split <;> simp_all
    simp only [execOp, hx, hi, Instr.indexAt, asIntOf, Sem.run_bind, Sem.run_pure, Result.andThen_ok, run_underlying he, h0, h1, and_self, if_true, sizeOf, typeInfo, run_program, hinf, ha]
  · cases ht
/-- A string's byte. -/
def byt (s : ByteArray) (i : Int) : UInt8 := s.data.getD i.toNat 0
def bi (s : ByteArray) (i : Int) : Int := ((byt s i).toNat : Int)
theorem ixs {t : TypeId} {x i : Operand} (s : ByteArray) (kk : IntKind) (iv : Int) (hx : a.eval x = .string s) (hi : a.eval i = .int kk iv) (h0 : 0 ≤ iv) (h1 : iv < s.size) (ht : P.underlying t = some .string)
    (k : L ro P ops Q rest (a.put d (.int .u8 (bi s iv))) w) : St ro P ops Q rest ⟨d, .index t x i, ty, pos, aft, g⟩ a w := by
  refine St.val (v := .int .u8 (bi s iv)) (w' := w) ?_ k
  have hlt : iv.toNat < s.size := by omega
  have hg : s[iv.toNat]? = some (byt s iv) := by
    unfold byt
    have hlt' : iv.toNat < s.data.size := hlt
    simp only [Array.getD_eq_getD_getElem?]
    rw [show s[iv.toNat]? = s.data[iv.toNat]? from by simp [getElem?_def, hlt, hlt']; rfl, Array.getElem?_eq_getElem hlt']
    rfl
  simp only [execOp, hx, hi, Instr.index, asIntOf, Sem.run_bind, Sem.run_pure, Result.andThen_ok, run_underlying ht, h0, if_true, hg, bi]
/-- A cut of a string. -/
theorem sls {t : TypeId} {x : Operand} {lo hi : Option Operand} (s : ByteArray) (l h : Int) (hx : a.eval x = .string s)
    (hl : (match lo with | some q => ∃ k, a.eval q = .int k l | none => l = 0)) (hh : (match hi with | some q => ∃ k, a.eval q = .int k h | none => h = s.size))
    (h0 : 0 ≤ l) (h1 : l ≤ h) (h2 : h ≤ s.size) (ht : P.underlying t = some .string)
    (k : L ro P ops Q rest (a.put d (.string (s.extract l.toNat h.toNat))) w) : St ro P ops Q rest ⟨d, .slice t x lo hi none, ty, pos, aft, g⟩ a w := by
  refine St.val (v := .string (s.extract l.toNat h.toNat)) (w' := w) ?_ k
  have hb : (Instr.sliceBounds false s.size s.size (lo.map a.eval) (hi.map a.eval) none).run P w = .ok (l.toNat, h.toNat, s.size) w := by
    unfold Instr.sliceBounds
    cases hi with
    | none =>
      subst hh
      cases lo with
      | none => subst hl; simp [Sem.run_bind]
      | some q =>
        obtain ⟨kk, hq⟩ := hl
        simp [Sem.run_bind, hq, Instr.sliceBound, asIntOf, h0, h1]
    | some p =>
      obtain ⟨kp, hp⟩ := hh
      have h3 : 0 ≤ h := by omega
      cases lo with
      | none => subst hl; simp [Sem.run_bind, hp, Instr.sliceBound, asIntOf, h3, h2]
      | some q =>
        obtain ⟨kk, hq⟩ := hl
        simp [Sem.run_bind, hp, hq, Instr.sliceBound, asIntOf, h3, h2, h0]
        intro hlt
        omega
  simp only [execOp, hx, Instr.sliceAt, Instr.slice, Sem.run_bind, Sem.run_pure, Result.andThen_ok, run_underlying ht, Option.map_none, Option.isSome_none, Bool.false_eq_true, if_false, hb]
theorem callsFW {f : FuncId} {args : Array Value} {R : Ending → World → Prop} (h : Calls P f args w R) : CallsIn (FW ro) 0 P f args w R := by
  have h0 : CallsIn Fence.wide 0 P f args w R := callsIn_wide.2 h
  cases ro with
  | none => exact h0
  | some l => exact h0.inRound l
/-- A call of a function whose contract is known. -/
theorem call {f : Operand} {args : Array Operand} {ts : Array TypeId} (gn : FuncId) (cap av : Array Value) (hf : a.eval f = .func (.func gn) #[] cap) (ha : args.map a.eval = av)
    (he : ∀ args w, (callFunc gn args).run P w = .ok (.enter gn args) w) {R : Ending → World → Prop} (hc : Calls P gn (av ++ cap) w R)
    (k : ∀ e w1, R e w1 → ∃ v, e = .returned v ∧ L ro P ops Q rest (a.put d v) w1) : St ro P ops Q rest ⟨d, .call ⟨.value f, args, ts⟩, ty, pos, aft, g⟩ a w := by
  unfold St
  have hr : (execOp a.eval ⟨d, .call ⟨.value f, args, ts⟩, ty, pos, aft, g⟩).run P w = .ok (.enter gn (av ++ cap)) w := by
    simp only [execOp, resolve, hf, ha, Deferred.ofValue, Sem.run_bind, Sem.run_pure, Result.andThen_ok, invoke, he, Array.empty_append]
  rw [hr]
  refine ⟨(fun h => by cases h), (callsFW hc).mono fun e w1 h => ?_⟩
  obtain ⟨v, rfl, hk⟩ := k e w1 h
  exact hk
end

/-! ### 5. A call's end -/
section
variable {P : Program} {fn : Func} {R : Ending → World → Prop} {a : Act} {w : World} {n : Nat}
theorem ret0 (hz : Sz n a) (hf : fn.results = #[]) (hR : R (.returned (.tuple #[])) w) : bodyPost P fn R .ret a w := bodyPost_ret (results_none hf _ _ _) hz.defers hR
theorem end0 (hz : Sz n a) (hf : fn.results = #[]) (hR : R (.returned (.tuple #[])) w) : bodyPost P fn R .normal a w := bodyPost_end (results_none hf _ _ _) hz.defers hR
theorem ret1 (hz : Sz n a) {t : Tmp} (hf : fn.results = #[.tmp t]) {v : Value} (hv : a.eval (.tmp t) = v) (hR : R (.returned v) w) : bodyPost P fn R .ret a w :=
  bodyPost_ret (v := v) ((results_tmp hf _ _ _).trans (by rw [← hv]; rfl)) hz.defers hR
theorem ret2 (hz : Sz n a) {t u : Tmp} (hf : fn.results = #[.tmp t, .tmp u]) {v v' : Value} (hv : a.eval (.tmp t) = v) (hv' : a.eval (.tmp u) = v') (hR : R (.returned (.tuple #[v, v'])) w) : bodyPost P fn R .ret a w :=
  bodyPost_ret (v := .tuple #[v, v']) ((results_tmp2 hf _ _ _).trans (by rw [← hv, ← hv']; rfl)) hz.defers hR
theorem ret3 (hz : Sz n a) {t u s : Tmp} (hf : fn.results = #[.tmp t, .tmp u, .tmp s]) {v v' v'' : Value} (hv : a.eval (.tmp t) = v) (hv' : a.eval (.tmp u) = v') (hv'' : a.eval (.tmp s) = v'') (hR : R (.returned (.tuple #[v, v', v''])) w) : bodyPost P fn R .ret a w := by
  refine bodyPost_ret (v := .tuple #[v, v', v'']) ?_ hz.defers hR
  have e1 : a.tmps[t]?.getD undef = v := by have := hv; simpa [Act.eval] using this
  have e2 : a.tmps[u]?.getD undef = v' := by have := hv'; simpa [Act.eval] using this
  have e3 : a.tmps[s]?.getD undef = v'' := by have := hv''; simpa [Act.eval] using this
  simp [results, hf, e1, e2, e3]
/-- one result that lies in memory, one that lies in a temporary -/
theorem retC (hz : Sz n a) {s t : Nat} (hf : fn.results = #[.cell s t]) (ad : Addr) (hs : a.eval (.tmp s) = .pointer (some ad)) {v : Value} (hl : (loadVar t ad).run P w = .ok v w) (hR : R (.returned v) w) : bodyPost P fn R .ret a w := by
  refine bodyPost_ret (v := v) ?_ hz.defers hR
  have e1 : a.tmps[s]?.getD undef = .pointer (some ad) := by have := hs; simpa [Act.eval] using this
  simp [results, hf, e1, asAddr, Sem.run_bind, hl]
theorem retCT (hz : Sz n a) {s t u : Nat} (hf : fn.results = #[.cell s t, .tmp u]) (ad : Addr) (hs : a.eval (.tmp s) = .pointer (some ad)) {v v' : Value} (hl : (loadVar t ad).run P w = .ok v w) (hu : a.eval (.tmp u) = v') (hR : R (.returned (.tuple #[v, v'])) w) : bodyPost P fn R .ret a w := by
  refine bodyPost_ret (v := .tuple #[v, v']) ?_ hz.defers hR
  have e1 : a.tmps[s]?.getD undef = .pointer (some ad) := by have := hs; simpa [Act.eval] using this
  have e2 : a.tmps[u]?.getD undef = v' := by have := hu; simpa [Act.eval] using this
  simp [results, hf, e1, e2, asAddr, Sem.run_bind, hl]
theorem enter {f : FuncId} {c : Code} {args : Array Value} (N : Nat) (hf : P.funcs[f]? = some fn) (hb : fn.body = some c) (hn : args.size + (fn.ntmps - args.size) = N)
    (h : ∀ a, Sz N a → (∀ j v, args[j]? = some v → a.eval (.tmp j) = v) → Wp none P c (bodyPost P fn R) a w) : Calls P f args w R := by
  refine callsIn_wide.1 (callsIn_of_wp (F := Fence.wide) (n := 0) hf hb trivial (h _ ⟨?_, rfl⟩ ?_))
  · simp only [Array.size_append, Array.size_replicate]; exact hn
  · intro j v hj
    have hlt : j < args.size := (Array.getElem?_eq_some_iff.1 hj).1
    simp only [Act.eval, Array.getD_eq_getD_getElem?]
    rw [Array.getElem?_append_left hlt, hj]
    rfl
end
/-! ### 6. Contexts; a new letter for the frame -/
section
variable {ro : Option Nat} {P : Program} {K : Act → World → Prop} {Q : Exit → Act → World → Prop} {a : Act} {w : World} {ops : Array Oper} {rest : List Oper} {c : Code}
theorem then_n (h : K a w) : Exit.then K Q .normal a w := h
theorem then_e {i : Nat} (h : Q (.exit i) a w) : Exit.then K Q (.exit i) a w := h
theorem then_r (h : Q .ret a w) : Exit.then K Q .ret a w := h
theorem blk_n {i : Nat} (h : Q .normal a w) : Exit.inBlock i Q .normal a w := h
theorem blk_hit {i : Nat} (h : Q .normal a w) : Exit.inBlock i Q (.exit i) a w := by unfold Exit.inBlock; simpa using h
theorem blk_miss {i j : Nat} (hne : Nat.beq i j = false) (h : Q (.exit j) a w) : Exit.inBlock i Q (.exit j) a w := by
  have hne' : i ≠ j := Nat.ne_of_beq_eq_false hne
  unfold Exit.inBlock
  simp only
  first
    | (rw [if_neg (fun e => hne' e.symm)]; exact h)
    | (rw [if_neg hne']; exact h)
theorem blk_r {i : Nat} (h : Q .ret a w) : Exit.inBlock i Q .ret a w := h
theorem flushL {n : Nat} {ds : List Deferred} (hz : Sd n ds a) (k : ∀ a1, Sd n ds a1 → (∀ t v, a.eval (.tmp t) = v → a1.eval (.tmp t) = v) → L ro P ops Q rest a1 w) : L ro P ops Q rest a w := k a hz fun _ _ h => h
theorem flushW {n : Nat} {ds : List Deferred} (hz : Sd n ds a) (k : ∀ a1, Sd n ds a1 → (∀ t v, a.eval (.tmp t) = v → a1.eval (.tmp t) = v) → Wp ro P c Q a1 w) : Wp ro P c Q a w := k a hz fun _ _ h => h
theorem loop1 {α : Type} (I : α → Act → World → Prop) (m : α → Nat) (x : α) (h0 : I x a w) (hr : ∀ x a w, I x a w → Wp ro P c (Exit.then (fun a' w' => ∃ x', m x' < m x ∧ I x' a' w') Q) a w) : Wp ro P (.loop c) Q a w := loop I m x h0 hr
theorem loop2 {α β : Type} (I : α → β → Act → World → Prop) (m : α → β → Nat) (x : α) (y : β) (h0 : I x y a w) (hr : ∀ x y a w, I x y a w → Wp ro P c (Exit.then (fun a' w' => ∃ x' y', m x' y' < m x y ∧ I x' y' a' w') Q) a w) : Wp ro P (.loop c) Q a w :=
  loop (fun s : α × β => I s.1 s.2) (fun s => m s.1 s.2) (x, y) h0 fun s a w h => mono (hr s.1 s.2 a w h) fun e a w q => by cases e <;> first | (obtain ⟨x', y', q⟩ := q; exact ⟨(x', y'), q⟩) | exact q
theorem loop3 {α β γ : Type} (I : α → β → γ → Act → World → Prop) (m : α → β → γ → Nat) (x : α) (y : β) (z : γ) (h0 : I x y z a w) (hr : ∀ x y z a w, I x y z a w → Wp ro P c (Exit.then (fun a' w' => ∃ x' y' z', m x' y' z' < m x y z ∧ I x' y' z' a' w') Q) a w) : Wp ro P (.loop c) Q a w :=
  loop2 (fun (s : α × β) => I s.1 s.2) (fun s => m s.1 s.2) (x, y) z h0 fun s z a w h => mono (hr s.1 s.2 z a w h) fun e a w q => by cases e <;> first | (obtain ⟨x', y', z', q⟩ := q; exact ⟨(x', y'), z', q⟩) | exact q
theorem loop4 {α β γ δ : Type} (I : α → β → γ → δ → Act → World → Prop) (m : α → β → γ → δ → Nat) (x : α) (y : β) (z : γ) (u : δ) (h0 : I x y z u a w) (hr : ∀ x y z u a w, I x y z u a w → Wp ro P c (Exit.then (fun a' w' => ∃ x' y' z' u', m x' y' z' u' < m x y z u ∧ I x' y' z' u' a' w') Q) a w) : Wp ro P (.loop c) Q a w :=
  loop3 (fun (s : α × β) => I s.1 s.2) (fun s => m s.1 s.2) (x, y) z u h0 fun s z u a w h => mono (hr s.1 s.2 z u a w h) fun e a w q => by cases e <;> first | (obtain ⟨x', y', z', u', q⟩ := q; exact ⟨(x', y'), z', u', q⟩) | exact q
theorem loop5 {α β γ δ ε : Type} (I : α → β → γ → δ → ε → Act → World → Prop) (m : α → β → γ → δ → ε → Nat) (x : α) (y : β) (z : γ) (u : δ) (v : ε) (h0 : I x y z u v a w) (hr : ∀ x y z u v a w, I x y z u v a w → Wp ro P c (Exit.then (fun a' w' => ∃ x' y' z' u' v', m x' y' z' u' v' < m x y z u v ∧ I x' y' z' u' v' a' w') Q) a w) : Wp ro P (.loop c) Q a w :=
  loop4 (fun (s : α × β) => I s.1 s.2) (fun s => m s.1 s.2) (x, y) z u v h0 fun s z u v a w h => mono (hr s.1 s.2 z u v a w h) fun e a w q => by cases e <;> first | (obtain ⟨x', y', z', u', v', q⟩ := q; exact ⟨(x', y'), z', u', v', q⟩) | exact q
end

/-! numbers that fit their kind -/
theorem w_i64 {x : Int} (h : -9223372036854775808 ≤ x) (h' : x ≤ 9223372036854775807) : Value.int .i64 (IntKind.i64.wrap x) = .int .i64 x := by
  rw [IntWalk.i64_in _ ⟨h, h'⟩]
theorem w_u8 {x : Int} (h : 0 ≤ x) (h' : x ≤ 255) : Value.int .u8 (IntKind.u8.wrap x) = .int .u8 x := by rw [IntWalk.u8_in _ ⟨h, h'⟩]
theorem w_u64 {x : Int} (h : 0 ≤ x) (h' : x ≤ 18446744073709551615) : Value.int .u64 (IntKind.u64.wrap x) = .int .u64 x := by rw [IntWalk.u64_in _ ⟨h, h'⟩]
theorem w_i32 {x : Int} (h : -2147483648 ≤ x) (h' : x ≤ 2147483647) : Value.int .i32 (IntKind.i32.wrap x) = .int .i32 x := by rw [IntWalk.i32_in _ ⟨h, h'⟩]
/-! tests, as propositions -/
theorem t_eql {x y : Int} : Value.bool (x == y) = .bool (decide (x = y)) := by rw [show (x == y) = decide (x = y) from by rw [Bool.eq_iff_iff]; simp]
theorem t_neq {x y : Int} : Value.bool (x != y) = .bool (decide (¬ x = y)) := by congr 1; rw [Bool.eq_iff_iff]; simp
theorem t_not {p : Prop} [Decidable p] : Value.bool (!decide p) = .bool (decide (¬ p)) := by congr 1; simp
theorem t_beql {x y : Bool} : Value.bool (x == y) = .bool (decide (x = y)) := by rw [show (x == y) = decide (x = y) from by rw [Bool.eq_iff_iff]; simp]
theorem t_bneq {x y : Bool} : Value.bool (!(x == y)) = .bool (decide (¬ x = y)) := by congr 1; rw [Bool.eq_iff_iff]; simp
theorem toList_inj {s t : ByteArray} : s.toList = t.toList ↔ s = t := by
  constructor
  · intro h
    rw [ByteArray.toList_eq, ByteArray.toList_eq] at h
    cases s; cases t
    congr 1
    exact Array.ext' h
  · rintro rfl; rfl
theorem t_seql {s t : ByteArray} : Value.bool (s.toList == t.toList) = .bool (decide (s = t)) := by congr 1; rw [Bool.eq_iff_iff]; simp [toList_inj]
theorem t_sneq {s t : ByteArray} : Value.bool (!(s.toList == t.toList)) = .bool (decide (¬ s = t)) := by congr 1; rw [Bool.eq_iff_iff]; simp [toList_inj]
theorem int_eq {k : IntKind} {x y : Int} (h : x = y) : Value.int k x = .int k y := by rw [h]
theorem sl_eq {A : Option Addr} {n m c : Nat} (h : n = m) : Value.slice A n c = .slice A m c := by rw [h]
theorem dt {p : Prop} [Decidable p] (h : p) : Value.bool (decide p) = .bool true := by rw [decide_eq_true h]
theorem df {p : Prop} [Decidable p] (h : ¬ p) : Value.bool (decide p) = .bool false := by rw [decide_eq_false h]
theorem bt {b : Bool} (h : b = true) : Value.bool b = .bool true := by rw [h]
theorem bf {b : Bool} (h : ¬ b = true) : Value.bool b = .bool false := by simp at h; rw [h]
theorem bool_eq {p q : Prop} [Decidable p] [Decidable q] (h : p ↔ q) : Value.bool (decide p) = .bool (decide q) := by rw [decide_eq_decide.2 h]
theorem byt_lt (s : ByteArray) (i : Int) : 0 ≤ bi s i ∧ bi s i ≤ 255 := by unfold bi; have := (byt s i).toNat_lt; omega
/-- A text's bytes, as numbers. -/
def ints (s : ByteArray) : List Int := s.data.toList.map fun b => (b.toNat : Int)
theorem ints_length (s : ByteArray) : (ints s).length = s.size := by simp [ints]
theorem ints_get (s : ByteArray) (k : Nat) (h : k < s.size) : (ints s)[k]? = some (bi s k) := by
  have h' : k < s.data.size := h
  simp only [ints, bi, byt, List.getElem?_map, Array.getElem?_toList, Array.getD_eq_getD_getElem?, Int.toNat_natCast, Array.getElem?_eq_getElem h', Option.map_some, Option.getD_some]
theorem drop_ints (s : ByteArray) (k : Nat) (h : k < s.size) : (ints s).drop k = bi s k :: (ints s).drop (k + 1) := by
  have hl : k < (ints s).length := by rw [ints_length]; exact h
  rw [List.drop_eq_getElem_cons hl]
  have := ints_get s k h
  rw [List.getElem?_eq_getElem hl] at this
  injection this with this
  rw [this]
theorem drop_end (s : ByteArray) (k : Nat) (h : s.size ≤ k) : (ints s).drop k = [] := List.drop_eq_nil_of_le (by rw [ints_length]; exact h)
theorem ints_inj {s t : ByteArray} (h : ints s = ints t) : s = t := by
  have : s.data.toList = t.data.toList := by
    unfold ints at h
    refine (List.map_inj_right (fun a b hab => ?_)).1 h
    exact UInt8.toNat_inj.1 (by omega)
  cases s; cases t
  congr 1
  exact Array.ext' this
theorem ints_extract (s : ByteArray) (a b : Nat) : ints (s.extract a b) = ((ints s).drop a).take (b - a) := by
  unfold ints
  rw [Lib.extract_data, List.map_take, List.map_drop]
theorem ints_append (s t : ByteArray) : ints (s ++ t) = ints s ++ ints t := by simp [ints]
def slt (s t : ByteArray) : Prop := Op.bytesLess s.toList t.toList = true
instance (s t : ByteArray) : Decidable (slt s t) := by unfold slt; exact inferInstance
theorem less_irr : ∀ l : List UInt8, Op.bytesLess l l = false
  | [] => rfl
  | a :: l => by
    have : ¬ a < a := fun h => by have := UInt8.lt_iff_toNat_lt.1 h; omega
    simp [Op.bytesLess, less_irr l, this]
theorem less_tri : ∀ l k : List UInt8, Op.bytesLess k l = (!(Op.bytesLess l k || l == k))
  | [], [] => rfl
  | [], _ :: _ => rfl
  | _ :: _, [] => rfl
  | a :: l, b :: k => by
    simp only [Op.bytesLess, less_tri l k]
    by_cases hab : a = b
    · subst hab
      have : ¬ a < a := fun h => by have := UInt8.lt_iff_toNat_lt.1 h; omega
      simp [this]
    · have hba : ¬ b = a := fun h => hab h.symm
      by_cases hlt : a < b
      · have h2 : ¬ b < a := fun h => by have h1 := UInt8.lt_iff_toNat_lt.1 h; have h3 := UInt8.lt_iff_toNat_lt.1 hlt; omega
        simp [hlt, h2, hba]
      · have h2 : b < a := by
          rw [UInt8.lt_iff_toNat_lt] at hlt ⊢
          have : a.toNat ≠ b.toNat := fun h => hab (UInt8.toNat_inj.1 h)
          omega
        simp [hlt, h2, hab]
theorem t_slss {s t : ByteArray} : Value.bool (Op.bytesLess s.toList t.toList) = .bool (decide (slt s t)) := congrArg Value.bool (by rw [Bool.eq_iff_iff, decide_eq_true_eq]; rfl)
theorem t_sgeq {s t : ByteArray} : Value.bool (!Op.bytesLess s.toList t.toList) = .bool (decide (¬ slt s t)) := by congr 1; rw [Bool.eq_iff_iff]; simp [slt]
theorem t_sgtr {s t : ByteArray} : Value.bool (!(Op.bytesLess s.toList t.toList || s.toList == t.toList)) = .bool (decide (slt t s)) := congrArg Value.bool (by rw [← less_tri, Bool.eq_iff_iff, decide_eq_true_eq]; rfl)
theorem t_sleq {s t : ByteArray} : Value.bool (Op.bytesLess s.toList t.toList || s.toList == t.toList) = .bool (decide (¬ slt t s)) := by
  congr 1; rw [Bool.eq_iff_iff]; simp [slt, less_tri s.toList t.toList]
theorem min_int {k : IntKind} {x y : Int} : Value.int k (if y < x then y else x) = .int k (min x y) := by congr 1; split <;> omega
theorem max_int {k : IntKind} {x y : Int} : Value.int k (if y > x then y else x) = .int k (max x y) := by congr 1; split <;> omega
theorem rem_in {k : IntKind} {x y : Int} (h : 0 ≤ x) : Value.int k (Int.tmod x y) = .int k (x % y) := by rw [Int.tmod_eq_emod_of_nonneg h]
theorem quo_i64 {x y : Int} (h : 0 ≤ x) (h1 : 0 < y) (h2 : x ≤ 9223372036854775807) : Value.int .i64 (IntKind.i64.wrap (Int.tdiv x y)) = .int .i64 (x / y) := by
  rw [Int.tdiv_eq_ediv_of_nonneg h]
  have h3 : x / y ≤ x := Int.ediv_le_self y h
  have h4 : 0 ≤ x / y := Int.ediv_nonneg h (by omega)
  exact w_i64 (by omega) (by omega)
theorem quo_u8 {x y : Int} (h : 0 ≤ x) (h1 : 0 < y) (h2 : x ≤ 255) : Value.int .u8 (IntKind.u8.wrap (Int.tdiv x y)) = .int .u8 (x / y) := by
  rw [Int.tdiv_eq_ediv_of_nonneg h]
  have h3 : x / y ≤ x := Int.ediv_le_self y h
  have h4 : 0 ≤ x / y := Int.ediv_nonneg h (by omega)
  exact w_u8 (by omega) (by omega)
theorem quo_u64 {x y : Int} (h : 0 ≤ x) (h1 : 0 < y) (h2 : x ≤ 18446744073709551615) : Value.int .u64 (IntKind.u64.wrap (Int.tdiv x y)) = .int .u64 (x / y) := by
  rw [Int.tdiv_eq_ediv_of_nonneg h]
  have h3 : x / y ≤ x := Int.ediv_le_self y h
  have h4 : 0 ≤ x / y := Int.ediv_nonneg h (by omega)
  exact w_u64 (by omega) (by omega)
section
variable {a : Act}
theorem args0 : (#[] : Array Operand).map a.eval = #[] := by simp
theorem args1 {x : Operand} {v : Value} (h : a.eval x = v) : #[x].map a.eval = #[v] := by subst h; simp
theorem args2 {x y : Operand} {v u : Value} (h : a.eval x = v) (h' : a.eval y = u) : #[x, y].map a.eval = #[v, u] := by subst h h'; simp
theorem args3 {x y z : Operand} {v u t : Value} (h : a.eval x = v) (h' : a.eval y = u) (h'' : a.eval z = t) : #[x, y, z].map a.eval = #[v, u, t] := by subst h h' h''; simp
theorem args4 {x y z q : Operand} {v u t s : Value} (h : a.eval x = v) (h' : a.eval y = u) (h'' : a.eval z = t) (h3 : a.eval q = s) : #[x, y, z, q].map a.eval = #[v, u, t, s] := by subst h h' h'' h3; simp
theorem args5 {x y z q r : Operand} {v u t s o : Value} (h : a.eval x = v) (h' : a.eval y = u) (h'' : a.eval z = t) (h3 : a.eval q = s) (h4 : a.eval r = o) : #[x, y, z, q, r].map a.eval = #[v, u, t, s, o] := by subst h h' h'' h3 h4; simp
variable {ro : Option Nat} {P : Program} {Q : Exit → Act → World → Prop} {w : World} {ops : Array Oper} {rest : List Oper} {d : Option Tmp} {ty : TypeId} {pos : String} {aft : Array Edge} {g : Option (Nat × Bool)}
theorem pk_t {c x y : Operand} (hc : a.eval c = .bool true) {v : Value} (hx : a.eval x = v) (k : L ro P ops Q rest (a.put d v) w) : St ro P ops Q rest ⟨d, .pick c x y, ty, pos, aft, g⟩ a w :=
  St.val (v := v) (by simp [execOp, hc, hx, asBool]) k
theorem pk_f {c x y : Operand} (hc : a.eval c = .bool false) {v : Value} (hy : a.eval y = v) (k : L ro P ops Q rest (a.put d v) w) : St ro P ops Q rest ⟨d, .pick c x y, ty, pos, aft, g⟩ a w :=
  St.val (v := v) (by simp [execOp, hc, hy, asBool]) k
theorem cat {t t' : TypeId} {x y : Operand} {s u : ByteArray} (hx : a.eval x = .string s) (hy : a.eval y = .string u) (h : s.size + u.size ≤ 9223372036854775807) (k : L ro P ops Q rest (a.put d (.string (s ++ u))) w) : St ro P ops Q rest ⟨d, .binOp .add t x y t', ty, pos, aft, g⟩ a w := by
  refine St.val (v := .string (s ++ u)) (w' := w) ?_ k
  have h' : ¬ ((s.size + u.size : Nat) : Int) > IntKind.i64.max := by
    have : IntKind.i64.max = 9223372036854775807 := rfl
    omega
  simp only [execOp, hx, hy, eqGuard, binOp, Op.stringOp]
  rw [if_neg h']
  rfl
theorem rem {t t' : TypeId} {x' y' : Operand} {k : IntKind} {x y : Int} (hx : a.eval x' = .int k x) (hy : a.eval y' = .int k y) (h : 0 ≤ x) (h1 : 0 < y) (kk : L ro P ops Q rest (a.put d (.int k (x % y))) w) : St ro P ops Q rest ⟨d, .binOp .rem t x' y' t', ty, pos, aft, g⟩ a w := by
  refine St.val (v := .int k (x % y)) (w' := w) ?_ kk
  have hne : ¬ y = 0 := by omega
  simp only [execOp, hx, hy, eqGuard, binOp, Op.intDiv, ne_eq, not_true_eq_false, if_false, hne, Int.tmod_eq_emod_of_nonneg h]
  rfl
theorem fa {s : TypeId} {x : Operand} {f b o : Nat} (hx : a.eval x = .pointer (some ⟨b, o, none⟩)) (off : Nat) (hr : ∀ a' w, (Instr.fieldAt s (.pointer (some a')) f).run P w = .ok (.pointer (some (a'.add off))) w)
    (k : L ro P ops Q rest (a.put d (.pointer (some ⟨b, o + off, none⟩))) w) : St ro P ops Q rest ⟨d, .fieldAddr s x f, ty, pos, aft, g⟩ a w := by
  refine St.val (v := .pointer (some ⟨b, o + off, none⟩)) (w' := w) ?_ k
  have ha : (⟨b, o, none⟩ : Addr).add off = ⟨b, o + off, none⟩ := by unfold Addr.add; split <;> simp_all
  simp only [execOp, hx, Sem.run_bind, hr, Result.andThen_ok, ha]
  rfl
/-- A load that was carried out early: its block is there still, those cells as they were. -/
theorem held_blk {t : TypeId} {x : Operand} {b off : Nat} (hx : a.eval x = .pointer (some ⟨b, off, none⟩)) {w' : World} {cs cs' : List Value} {bt bt' : TypeId} (h : Blk w b cs bt) (h' : Blk w' b cs' bt') {n : Nat}
    (hn : (P.info? t).map (fun i => max 1 i.size) = some n) (he : (cs.drop off).take n = (cs'.drop off).take n) (hl : off + n ≤ cs.length) : Plan.CellsKept P t (a.eval x) w w' := by
  rw [hx]
  unfold Plan.CellsKept
  intro i hi k hk
  obtain ⟨i', hi', rfl⟩ := Option.map_eq_some_iff.1 hn
  rw [hi] at hi'; injection hi' with hi'; subst hi'
  have ha : (⟨b, off, none⟩ : Addr).add k = ⟨b, off + k, none⟩ := by unfold Addr.add; split <;> simp_all
  rw [ha, h.cell, h'.cell]
  have h1 : cs[off + k]? = cs'[off + k]? := by
    have := congrArg (fun l => l[k]?) he
    simpa [List.getElem?_take_of_lt hk, List.getElem?_drop] using this
  exact ⟨_, List.getElem?_eq_getElem (by omega), h1 ▸ List.getElem?_eq_getElem (by omega)⟩
end
theorem held_undef {P : Program} {a : Act} {t : TypeId} {x : Operand} (hx : a.eval x = undef) {w w' : World} : Plan.CellsKept P t (a.eval x) w w' := by rw [hx]; exact trivial
theorem plan {ro : Option Nat} {P : Program} {Q : Exit → Act → World → Prop} {l : List Oper} {id : Nat} {a : Act} {w : World} (A : List (List Nat)) (p : Plan.Plan) (hm : P.follows .mixedOrders = true) (hok : Plan.planOk l A p = true)
    (hQ : ∀ c a t w, Q (.panic c) { a with tmps := t } w → Q (.panic c) a w) (h : Plan.wpSegs ro P l Q p a w.drew) : Wp ro P (.region id l.toArray true) Q a w := Plan.wp_region_plan A p hm hok hQ h
theorem L_eq {ro : Option Nat} {P : Program} {ops : Array Oper} {Q : Exit → Act → World → Prop} {l : List Oper} {a : Act} {w : World} : wpL ro P ops Q l a w = L ro P ops Q l a w := rfl
def hasG (l : List (Nat × Value)) (ops : Array Oper) (o : Oper) : Bool := match o.guard with
  | none => true
  | some (j, _) => match (ops[j]?).bind (·.dst) with
    | none => true
    | some t => hasT l t
def chkE (P : Program) (l : List (Nat × Value)) (ops : Array Oper) (os : List Oper) : Bool := os.all fun o => Plan.isL o || ((Plan.asks o).all (hasT l) && Plan.okP P (envOf l) o) || (hasG l ops o && Plan.offE ops (envOf l) o)
theorem chk {P : Program} {a : Act} (l : List (Nat × Value)) {ops : Array Oper} {os : List Oper} (he : Evs a l) (hk : chkE P l ops os = true) : Plan.segChk P ops a os = true := by
  unfold Plan.segChk
  unfold chkE at hk
  rw [List.all_eq_true] at hk ⊢
  intro o ho
  have h := hk o ho
  simp only [Bool.or_eq_true, Bool.and_eq_true] at h ⊢
  rcases h with (h | ⟨h1, h2⟩) | ⟨h1, h2⟩
  · exact .inl (.inl h)
  · refine .inl (.inr ?_)
    rw [← h2]
    refine Plan.okP_congr fun x hx => ?_
    cases x with
    | tmp t => exact he.look (List.all_eq_true.1 h1 t (hx t rfl))
    | _ => rfl
  · refine .inr ?_
    rw [← h2]
    refine Plan.offE_congr fun j w t hg hd => ?_
    unfold hasG at h1
    rw [hg] at h1
    simp only [hd] at h1
    exact he.look h1
attribute [irreducible] Wp L St
/-! ### Short forms -/
section
variable {n : Nat} {ds : List Deferred} {a : Act} {t : Nat} {u : Value}
theorem Sd.p1 {d1 : Option Tmp} {v1 : Value} (h : Sd n ds a) : Sd n ds (a.put d1 v1) := h.put _ _
theorem Sd.p2 {d1 d2 : Option Tmp} {v1 v2 : Value} (h : Sd n ds a) : Sd n ds ((a.put d1 v1).put d2 v2) := h.p1.p1
theorem Sd.p4 {d1 d2 d3 d4 : Option Tmp} {v1 v2 v3 v4 : Value} (h : Sd n ds a) : Sd n ds ((((a.put d1 v1).put d2 v2).put d3 v3).put d4 v4) := h.p2.p2
theorem Sd.p8 {d1 d2 d3 d4 d5 d6 d7 d8 : Option Tmp} {v1 v2 v3 v4 v5 v6 v7 v8 : Value} (h : Sd n ds a) : Sd n ds ((((((((a.put d1 v1).put d2 v2).put d3 v3).put d4 v4).put d5 v5).put d6 v6).put d7 v7).put d8 v8) := h.p4.p4
theorem Sd.p16 {d1 d2 d3 d4 d5 d6 d7 d8 d9 d10 d11 d12 d13 d14 d15 d16 : Option Tmp} {v1 v2 v3 v4 v5 v6 v7 v8 v9 v10 v11 v12 v13 v14 v15 v16 : Value} (h : Sd n ds a) : Sd n ds ((((((((((((((((a.put d1 v1).put d2 v2).put d3 v3).put d4 v4).put d5 v5).put d6 v6).put d7 v7).put d8 v8).put d9 v9).put d10 v10).put d11 v11).put d12 v12).put d13 v13).put d14 v14).put d15 v15).put d16 v16) := h.p8.p8
theorem o1 {d1 : Nat} {v1 : Value} (h : Nat.beq d1 t = false) (hx : a.eval (.tmp t) = u) : (a.put (some d1) v1).eval (.tmp t) = u := at_other h _ hx
theorem o2 {d1 d2 : Nat} {v1 v2 : Value} (h : (Nat.beq d1 t || Nat.beq d2 t) = false) (hx : a.eval (.tmp t) = u) : ((a.put (some d1) v1).put (some d2) v2).eval (.tmp t) = u := o1 (Bool.or_eq_false_iff.1 h).2 (o1 (Bool.or_eq_false_iff.1 h).1 hx)
theorem o4 {d1 d2 d3 d4 : Nat} {v1 v2 v3 v4 : Value} (h : ((Nat.beq d1 t || Nat.beq d2 t) || (Nat.beq d3 t || Nat.beq d4 t)) = false) (hx : a.eval (.tmp t) = u) : ((((a.put (some d1) v1).put (some d2) v2).put (some d3) v3).put (some d4) v4).eval (.tmp t) = u := o2 (Bool.or_eq_false_iff.1 h).2 (o2 (Bool.or_eq_false_iff.1 h).1 hx)
theorem o8 {d1 d2 d3 d4 d5 d6 d7 d8 : Nat} {v1 v2 v3 v4 v5 v6 v7 v8 : Value} (h : (((Nat.beq d1 t || Nat.beq d2 t) || (Nat.beq d3 t || Nat.beq d4 t)) || ((Nat.beq d5 t || Nat.beq d6 t) || (Nat.beq d7 t || Nat.beq d8 t))) = false) (hx : a.eval (.tmp t) = u) : ((((((((a.put (some d1) v1).put (some d2) v2).put (some d3) v3).put (some d4) v4).put (some d5) v5).put (some d6) v6).put (some d7) v7).put (some d8) v8).eval (.tmp t) = u := o4 (Bool.or_eq_false_iff.1 h).2 (o4 (Bool.or_eq_false_iff.1 h).1 hx)
theorem o16 {d1 d2 d3 d4 d5 d6 d7 d8 d9 d10 d11 d12 d13 d14 d15 d16 : Nat} {v1 v2 v3 v4 v5 v6 v7 v8 v9 v10 v11 v12 v13 v14 v15 v16 : Value} (h : ((((Nat.beq d1 t || Nat.beq d2 t) || (Nat.beq d3 t || Nat.beq d4 t)) || ((Nat.beq d5 t || Nat.beq d6 t) || (Nat.beq d7 t || Nat.beq d8 t))) || (((Nat.beq d9 t || Nat.beq d10 t) || (Nat.beq d11 t || Nat.beq d12 t)) || ((Nat.beq d13 t || Nat.beq d14 t) || (Nat.beq d15 t || Nat.beq d16 t)))) = false) (hx : a.eval (.tmp t) = u) : ((((((((((((((((a.put (some d1) v1).put (some d2) v2).put (some d3) v3).put (some d4) v4).put (some d5) v5).put (some d6) v6).put (some d7) v7).put (some d8) v8).put (some d9) v9).put (some d10) v10).put (some d11) v11).put (some d12) v12).put (some d13) v13).put (some d14) v14).put (some d15) v15).put (some d16) v16).eval (.tmp t) = u := o8 (Bool.or_eq_false_iff.1 h).2 (o8 (Bool.or_eq_false_iff.1 h).1 hx)
end
section
variable {n : Nat} {ds : List Deferred} {ro : Option Nat} {P : Program} {Q : Exit → Act → World → Prop} {a : Act} {w : World} {ops : Array Oper} {rest : List Oper} {d : Option Tmp} {op : Op} {ty : TypeId} {pos : String} {aft : Array Edge}
theorem sm (h : Sd n ds a) {t : Nat} {v : Value} (hd : decide (t < n) = true) : (a.put (some t) v).eval (.tmp t) = v := at_same h hd v
theorem ge_ (l : List (Nat × Value)) (he : Evs a l) (v : Value) (k : L ro P ops Q rest (a.put d v) w) (hk : known l ⟨d, op, ty, pos, aft, none⟩ = true := by kernel_rfl) (hr : (execOp (envOf l) ⟨d, op, ty, pos, aft, none⟩).run P w = .ok (.value v) w := by kernel_rfl) :
    L ro P ops Q (⟨d, op, ty, pos, aft, none⟩ :: rest) a w := go (pv l he hk v hr k)
theorem gf_ (l : List (Nat × Value)) (he : Evs a l) (v' v : Value) (hv : v' = v) (k : L ro P ops Q rest (a.put d v) w) (hk : known l ⟨d, op, ty, pos, aft, none⟩ = true := by kernel_rfl) (hr : (execOp (envOf l) ⟨d, op, ty, pos, aft, none⟩).run P w = .ok (.value v') w := by kernel_rfl) :
    L ro P ops Q (⟨d, op, ty, pos, aft, none⟩ :: rest) a w := go (pvw l he hk v' v hr hv k)
theorem gm {x : Operand} {v : Value} (hx : a.eval x = v) (k : L ro P ops Q rest (a.put d v) w) : L ro P ops Q (⟨d, .move x, ty, pos, aft, none⟩ :: rest) a w := go (mv hx k)
theorem ga {x : Operand} {v : Value} (hx : a.eval x = v) (k : L ro P ops Q rest (a.put d v) w) : L ro P ops Q (⟨d, .assign x, ty, pos, aft, none⟩ :: rest) a w := go (asg hx k)
theorem rg {l : List Oper} {id : Nat} (h : L ro P l.toArray Q l a w) (hnd : Plan.noDefer l.toArray = true := by kernel_rfl) : Wp ro P (.region id l.toArray false) Q a w := region hnd h
end
end Go.V
