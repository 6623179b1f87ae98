/- Two structs of two numbers each, held against each other. -/
import Derived.Test.YtalhmegjomfbaaaPlanT
import Derived.Laws.StructEq
namespace Go.V
open Go.Plan (wpL)
open Go.RowKit Go.Base
set_option linter.unusedVariables false
section
variable {P : Program}
theorem run_part {w : World} {t : TypeId} {cs : Array Value} {o : Nat} {v : Value} (h : scalar P t = true) (hv : cs[o]? = some v) : (part t cs o).run P w = .ok v w := by
  unfold part
  rw [Sem.run_bind, isAgg_scalar h]
  simp [hv]
theorem eqFields_ints (d : Nat) {cs ds : List Int} {k : IntKind} : ∀ (fs : List Field) (o : Nat) (w : World), (∀ f ∈ fs, f.name ≠ "_" ∧ scalar P f.type = true ∧ ∃ k', P.underlying f.type = some (.int k')) → (∀ i f, fs[i]? = some f → f.offset = o + i) →
    o + fs.length = cs.length → cs.length = ds.length → (Op.eqFields (d + 1) (cs.map (Value.int k)).toArray (ds.map (Value.int k)).toArray fs).run P w = .ok (decide (cs.drop o = ds.drop o)) w
  | [], o, w, _, _, h1, h2 => by
    simp only [Op.eqFields]
    simp at h1
    rw [List.drop_eq_nil_of_le (by omega), List.drop_eq_nil_of_le (by omega)]
    simp
  | f :: fs, o, w, hf, ho, h1, h2 => by
    obtain ⟨hn, hs, k', hk⟩ := hf f (List.mem_cons_self ..)
    have hof : f.offset = o := ho 0 f rfl
    simp at h1
    have hc : o < cs.length := by omega
    have hd : o < ds.length := by omega
    have e1 : (cs.map (Value.int k)).toArray[o]? = some (.int k cs[o]) := by simp [hc]
    have e2 : (ds.map (Value.int k)).toArray[o]? = some (.int k ds[o]) := by simp [hd]
    simp only [Op.eqFields]
    rw [if_pos hn, Sem.run_bind, hof, run_part hs e1]
    simp only [Result.andThen_ok]
    rw [Sem.run_bind, run_part hs e2]
    simp only [Result.andThen_ok]
    rw [Sem.run_bind, run_equalIn_int w d f.type k k' _ _ hk]
    simp only [Result.andThen_ok]
    have ih := eqFields_ints d (k := k) fs (o + 1) w (fun g hg => hf g (List.mem_cons_of_mem _ hg)) (fun i g hg => by have := ho (i + 1) g (by simpa using hg); omega) (by omega) h2
    have e3 : cs.drop o = cs[o] :: cs.drop (o + 1) := List.drop_eq_getElem_cons hc
    have e4 : ds.drop o = ds[o] :: ds.drop (o + 1) := List.drop_eq_getElem_cons hd
    rw [e3, e4]
    by_cases he : cs[o] = ds[o]
    · rw [he, beq_self_eq_true, Bool.not_true, if_neg (by decide), ih]
      congr 1
      rw [decide_eq_decide, List.cons.injEq]
      simp
    · rw [show (cs[o] == ds[o]) = false from by simpa using he, Bool.not_false, if_pos rfl]
      rw [decide_eq_false (by rw [List.cons.injEq]; exact fun h => he h.1)]
      rfl
def intT (P : Program) (t : TypeId) : Bool := match P.underlying t with
  | some (.int _) => true
  | _ => false
/-- A struct of n numbers. -/
def aggOk (P : Program) (t : TypeId) (n : Nat) : Bool := match P.underlying t with
  | some (.struct fs) => fs.size == n && (List.range n).all (fun i => match fs.toList[i]? with
    | some f => f.name != "_" && scalar P f.type && intT P f.type && f.offset == i
    | none => false) && !P.stoodInHeld t && !P.eqGuardType P.depth t
  | _ => false
theorem equalIn_ints {t : TypeId} {cs ds : List Int} {k : IntKind} {w : World} (h : aggOk P t cs.length = true) (hl : cs.length = ds.length) :
    (Op.equalIn 10000 t (.agg (cs.map (Value.int k)).toArray) (.agg (ds.map (Value.int k)).toArray)).run P w = .ok (decide (cs = ds)) w ∧ P.eqGuardType P.depth t = false := by
  unfold aggOk at h
  split at h
  · rename_i fs hu
    simp only [Bool.and_eq_true, beq_iff_eq, Bool.not_eq_true', List.all_eq_true, List.mem_range] at h
    obtain ⟨⟨⟨h1, h2⟩, h3⟩, h4⟩ := h
    have hfo : P.fieldsOf t = fs := by unfold Program.fieldsOf; rw [hu]
    have each : ∀ (i : Nat) (f : Field), fs.toList[i]? = some f → f.name ≠ "_" ∧ scalar P f.type = true ∧ intT P f.type = true ∧ f.offset = i := by
      intro i f hf
      have hi : i < cs.length := by have := (List.getElem?_eq_some_iff.1 hf).1; simp at this; omega
      have := h2 i hi
      rw [hf] at this
      simp only [Bool.and_eq_true, bne_iff_ne, beq_iff_eq] at this
      exact ⟨this.1.1.1, this.1.1.2, this.1.2, this.2⟩
    refine ⟨?_, h4⟩
    rw [show (10000 : Nat) = 9998 + 1 + 1 from rfl, run_equalIn_agg w (9998 + 1) t _ _ (by rw [hfo]; exact hu) h3, hfo,
      eqFields_ints 9998 fs.toList 0 w (fun f hf => by
        obtain ⟨i, hi⟩ := List.mem_iff_getElem?.1 hf
        obtain ⟨a1, a2, a3, _⟩ := each i f hi
        refine ⟨a1, a2, ?_⟩
        unfold intT at a3
        split at a3
        · exact ⟨_, ‹_›⟩
        · cases a3) (fun i f hf => by rw [Nat.zero_add]; exact (each i f hf).2.2.2) (by simpa using h1) hl]
    rfl
  · cases h
section
variable {ro : Option Nat} {Q : Exit → Act → World → Prop} {a : Act} {w : World} {ops : Array Oper} {rest : List Oper} {d : Option Tmp} {ty : TypeId} {pos : String} {aft : Array Edge} {g : Option (Nat × Bool)}
theorem neqA {t t' : TypeId} {x y : Operand} (k : IntKind) (cs ds : List Int) (hx : a.eval x = .agg (cs.map (Value.int k)).toArray) (hy : a.eval y = .agg (ds.map (Value.int k)).toArray) (h : aggOk P t cs.length = true) (hl : cs.length = ds.length)
    (kk : L ro P ops Q rest (a.put d (.bool (decide (¬ cs = ds)))) w) : St ro P ops Q rest ⟨d, .binOp .neq t x y t', ty, pos, aft, g⟩ a w := by
  obtain ⟨h1, h2⟩ := equalIn_ints (k := k) (w := w) h hl
  refine St.val (v := .bool (decide (¬ cs = ds))) (w' := w) ?_ kk
  simp only [execOp, hx, hy]
  rw [Sem.run_bind, Sem.run_bind, run_eqGuard_agg w .neq t x y _ _ h2]
  simp only [Result.andThen_ok]
  rw [run_neq_struct, h1]
  simp [Result.andThen, Sem.run_pure]
theorem eqA {t t' : TypeId} {x y : Operand} (k : IntKind) (cs ds : List Int) (hx : a.eval x = .agg (cs.map (Value.int k)).toArray) (hy : a.eval y = .agg (ds.map (Value.int k)).toArray) (h : aggOk P t cs.length = true) (hl : cs.length = ds.length)
    (kk : L ro P ops Q rest (a.put d (.bool (decide (cs = ds)))) w) : St ro P ops Q rest ⟨d, .binOp .eql t x y t', ty, pos, aft, g⟩ a w := by
  obtain ⟨h1, h2⟩ := equalIn_ints (k := k) (w := w) h hl
  refine St.val (v := .bool (decide (cs = ds))) (w' := w) ?_ kk
  simp only [execOp, hx, hy]
  rw [Sem.run_bind, Sem.run_bind, run_eqGuard_agg w .eql t x y _ _ h2]
  simp only [Result.andThen_ok]
  rw [run_eql_struct, h1]
  simp [Result.andThen, Sem.run_pure]
end
end
end Go.V
