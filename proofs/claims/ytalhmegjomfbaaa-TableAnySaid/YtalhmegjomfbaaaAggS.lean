/- Two structs of a text and a number each, held against each other; append of what make made to nothing; the number of places. -/
import Derived.Test.YtalhmegjomfbaaaAgg
import Derived.Test.YtalhmegjomfbaaaApp
import Derived.Lib.AppendZeros
namespace Go.V
open Go.Plan (wpL)
open Go.RowKit Go.Base
set_option linter.unusedVariables false
set_option linter.unusedSimpArgs false
section
variable {P : Program}
def strT (P : Program) (t : TypeId) : Bool := match P.underlying t with
  | some .string => true
  | _ => false
/-- A struct of a text and a number. -/
def aggSI (P : Program) (t : TypeId) : Bool := match P.underlying t with
  | some (.struct fs) => (match fs.toList with
    | [f0, f1] => f0.name != "_" && scalar P f0.type && strT P f0.type && f0.offset == 0 && (f1.name != "_" && scalar P f1.type && intT P f1.type && f1.offset == 1)
    | _ => false) && !P.stoodInHeld t && !P.eqGuardType P.depth t
  | _ => false
theorem equalIn_SI {t : TypeId} {s s' : ByteArray} {n n' : Int} {k : IntKind} {w : World} (h : aggSI P t = true) :
    (Op.equalIn 10000 t (.agg #[.string s, .int k n]) (.agg #[.string s', .int k n'])).run P w = .ok (decide (s = s' ∧ n = n')) w ∧ P.eqGuardType P.depth t = false := by
  unfold aggSI at h
  split at h
  · rename_i fs hu
    simp only [Bool.and_eq_true, Bool.not_eq_true'] at h
    obtain ⟨⟨h1, h2⟩, h3⟩ := h
    refine ⟨?_, h3⟩
    split at h1
    · rename_i f0 f1 hfs
      simp only [Bool.and_eq_true, bne_iff_ne, beq_iff_eq] at h1
      obtain ⟨⟨⟨⟨a1, a2⟩, a3⟩, a4⟩, ⟨⟨b1, b2⟩, b3⟩, b4⟩ := h1
      have hfo : P.fieldsOf t = fs := by unfold Program.fieldsOf; rw [hu]
      have hs : P.underlying f0.type = some .string := by unfold strT at a3; split at a3 <;> first | assumption | cases a3
      obtain ⟨k', hk⟩ : ∃ k', P.underlying f1.type = some (.int k') := by unfold intT at b3; split at b3 <;> first | exact ⟨_, ‹_›⟩ | cases b3
      have e0 : (#[Value.string s, .int k n] : Array Value)[0]? = some (.string s) := rfl
      have e0' : (#[Value.string s', .int k n'] : Array Value)[0]? = some (.string s') := rfl
      have e1 : (#[Value.string s, .int k n] : Array Value)[1]? = some (.int k n) := rfl
      have e1' : (#[Value.string s', .int k n'] : Array Value)[1]? = some (.int k n') := rfl
      have hss : (s.toList == s'.toList) = decide (s = s') := by
        rw [Bool.eq_iff_iff, beq_iff_eq, decide_eq_true_eq]
        exact ⟨fun h => by have := congrArg Value.bool (show (s.toList == s'.toList) = true by rw [h]; exact beq_self_eq_true _); rw [t_seql] at this; injection this with this; exact of_decide_eq_true this, fun h => by rw [h]⟩
      rw [show (10000 : Nat) = 9998 + 1 + 1 from rfl, run_equalIn_agg w (9998 + 1) t _ _ (by rw [hfo]; exact hu) h2, hfo, hfs]
      simp only [Op.eqFields]
      rw [if_pos a1, Sem.run_bind, a4, run_part a2 e0]
      simp only [Result.andThen_ok]
      rw [Sem.run_bind, run_part a2 e0']
      simp only [Result.andThen_ok]
      rw [Sem.run_bind, run_equalIn_string w 9998 f0.type _ _ hs]
      simp only [Result.andThen_ok, hss]
      by_cases hq : s = s'
      · rw [decide_eq_true hq, Bool.not_true, if_neg (by decide), if_pos b1, Sem.run_bind, b4, run_part b2 e1]
        simp only [Result.andThen_ok]
        rw [Sem.run_bind, run_part b2 e1']
        simp only [Result.andThen_ok]
        rw [Sem.run_bind, run_equalIn_int w 9998 f1.type k k' _ _ hk]
        simp only [Result.andThen_ok]
        by_cases hn : n = n'
        · rw [hn, beq_self_eq_true, Bool.not_true, if_neg (by decide), decide_eq_true ⟨hq, rfl⟩]; rfl
        · rw [show (n == n') = false from by simpa using hn, Bool.not_false, if_pos rfl, decide_eq_false (fun h => hn h.2)]; rfl
      · rw [decide_eq_false hq, Bool.not_false, if_pos rfl, decide_eq_false (fun h => hq h.1)]; rfl
    · cases h1
  · cases h
end
section
variable {P : Program} {ro : Option Nat} {Q : Exit → Act → World → Prop} {a : Act} {w : World} {ops : Array Oper} {rest : List Oper} {d : Option Tmp} {ty : TypeId} {pos : String} {aft : Array Edge} {g : Option (Nat × Bool)}
theorem neqSI {t t' : TypeId} {x y : Operand} (k : IntKind) (s s' : ByteArray) (n n' : Int) (hx : a.eval x = .agg #[.string s, .int k n]) (hy : a.eval y = .agg #[.string s', .int k n']) (h : aggSI P t = true)
    (kk : L ro P ops Q rest (a.put d (.bool (decide (¬ (s = s' ∧ n = n'))))) w) : St ro P ops Q rest ⟨d, .binOp .neq t x y t', ty, pos, aft, g⟩ a w := by
  obtain ⟨h1, h2⟩ := equalIn_SI (k := k) (s := s) (s' := s') (n := n) (n' := n') (w := w) h
  refine St.val (v := .bool (decide (¬ (s = s' ∧ n = n')))) (w' := w) ?_ kk
  simp only [execOp, hx, hy]
  rw [Sem.run_bind, Sem.run_bind, run_eqGuard_agg w .neq t x y _ _ h2]
  simp only [Result.andThen_ok]
  rw [run_neq_struct, h1]
  simp [Result.andThen, Sem.run_pure]
theorem eqSI {t t' : TypeId} {x y : Operand} (k : IntKind) (s s' : ByteArray) (n n' : Int) (hx : a.eval x = .agg #[.string s, .int k n]) (hy : a.eval y = .agg #[.string s', .int k n']) (h : aggSI P t = true)
    (kk : L ro P ops Q rest (a.put d (.bool (decide (s = s' ∧ n = n')))) w) : St ro P ops Q rest ⟨d, .binOp .eql t x y t', ty, pos, aft, g⟩ a w := by
  obtain ⟨h1, h2⟩ := equalIn_SI (k := k) (s := s) (s' := s') (n := n) (n' := n') (w := w) h
  refine St.val (v := .bool (decide (s = s' ∧ n = n'))) (w' := w) ?_ kk
  simp only [execOp, hx, hy]
  rw [Sem.run_bind, Sem.run_bind, run_eqGuard_agg w .eql t x y _ _ h2]
  simp only [Result.andThen_ok]
  rw [run_eql_struct, h1]
  simp [Result.andThen, Sem.run_pure]
/-- append(nothing, make(n)...). -/
theorem appZ {α : Type} {R : Rp α} {t tn e : TypeId} {s x : Operand} {z : Value} {bytes n : Nat} {k kn : IntKind} (hs : a.eval s = .slice none 0 0) (hx : a.eval x = .int k (n : Int)) (ht : P.underlying t = some (.slice e)) (htn : P.underlying tn = some (.int kn))
    (hinfo : (P.info? e).map (fun i => (i.zero, i.size, i.bytes)) = some (some z, R.sz, bytes)) (hzs : z.cells.size = R.sz) (hsz : 0 < R.sz) (h0 : 0 < n) (hb0 : 0 < bytes) (hb : n * bytes ≤ 140737488355328)
    (kk : ∀ g' c w1, OwR R NoZ w1 w.heap.size e (.slice (some ⟨g', 0, none⟩) 0 c) [] → Fr [] w w1 → L ro P ops Q rest (a.put d (.slice (some ⟨g', 0, none⟩) n c)) w1) : St ro P ops Q rest ⟨d, .call ⟨.builtin .append, #[s, x], #[t, tn]⟩, ty, pos, aft, g⟩ a w := by
  obtain ⟨i, hi, hzz⟩ := Option.map_eq_some_iff.1 hinfo
  simp only [Prod.mk.injEq] at hzz
  obtain ⟨hz0, hz1, hz2⟩ := hzz
  have hle : n ≤ 140737488355328 := Nat.le_trans (Nat.le_mul_of_pos_right _ hb0) hb
  have hr := Lib.run_append_nil_zeros (P := P) w t tn ty e i z k kn ht htn hi hz0 n h0 (by omega) (by omega) (by rw [hz2]; omega)
  have hcap := grownCap_ge w n 0 e
  have hmax := grownCap_le_maxLen w n 0 e (by unfold maxLen; omega)
  generalize grownCap w n 0 e = c at hr hcap hmax
  generalize hZ : Builtin.zeroCells z.cells n ++ Builtin.zeroCells z.cells (c - n) = Z at hr
  have hZs : Z.size = c * R.sz := by
    rw [← hZ]; simp only [Array.size_append, size_zeroCells, hzs]; rw [← Nat.add_mul]; congr 1; omega
  have hrun : (execOp a.eval ⟨d, .call ⟨.builtin .append, #[s, x], #[t, tn]⟩, ty, pos, aft, g⟩).run P w = .ok (.value (.slice (some ⟨w.heap.size, 0, none⟩) n c)) (w.drew.alloc (.cells Z e)) := by
    simp only [execOp, resolve, invoke, builtin, Sem.run_bind, Sem.run_pure, Result.andThen_ok, List.map_toArray, List.map_cons, List.map_nil, hs, hx, hr]
  have hf : Fr [] w (w.drew.alloc (.cells Z e)) := (Fr.drew [] w).new (Fr.alloc [] _ _)
  refine St.val hrun (kk _ c _ ⟨[], ⟨by simp, .inr ⟨w.heap.size, c, Z, rfl, Nat.le_refl _, ?_, Nat.zero_le _, hmax, hZs, by simp⟩⟩, rfl, fun b hb hz => hz⟩ hf)
  exact World.alloc_heap_new w.drew _
end
end Go.V
