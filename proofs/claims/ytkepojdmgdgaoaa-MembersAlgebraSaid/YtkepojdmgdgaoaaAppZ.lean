/- append of what make made to nothing. -/
import Derived.Test.YtkepojdmgdgaoaaRep
import Derived.Lib.AppendZeros
namespace Go.V
open Go.Plan (wpL)
open Go.RowKit Go.Base
set_option linter.unusedVariables false
set_option linter.unusedSimpArgs false
section
variable {P : Program} {ro : Option Nat} {Q : Exit → Act → World → Prop} {a : Act} {w : World} {ops : Array Oper} {rest : List Oper} {d : Option Tmp} {ty : TypeId} {pos : String} {aft : Array Edge} {g : Option (Nat × Bool)}
/-- append(nothing, make(n)...). -/
theorem appZ {α : Type} {R : Rp α} {t tn e : TypeId} {s x : Operand} {z : Value} {bytes n : Nat} {k kn : IntKind} (hs : a.eval s = .slice none 0 0) (hx : a.eval x = .int k (n : Int)) (ht : P.underlying t = some (.slice e)) (htn : P.underlying tn = some (.int kn))
    (hinfo : (P.info? e).map (fun i => (i.zero, i.size, i.bytes)) = some (some z, R.sz, bytes)) (hzs : z.cells.size = R.sz) (hsz : 0 < R.sz) (h0 : 0 < n) (hb0 : 0 < bytes) (hb : n * bytes ≤ 140737488355328)
    (kk : ∀ g' c w1, OwR R NoZ w1 w.heap.size e (.slice (some ⟨g', 0, none⟩) 0 c) [] → Fr [] w w1 → L ro P ops Q rest (a.put d (.slice (some ⟨g', 0, none⟩) n c)) w1) : St ro P ops Q rest ⟨d, .call ⟨.builtin .append, #[s, x], #[t, tn]⟩, ty, pos, aft, g⟩ a w := by
  obtain ⟨i, hi, hzz⟩ := Option.map_eq_some_iff.1 hinfo
  simp only [Prod.mk.injEq] at hzz
  obtain ⟨hz0, hz1, hz2⟩ := hzz
  have hle : n ≤ 140737488355328 := Nat.le_trans (Nat.le_mul_of_pos_right _ hb0) hb
  have hr := Lib.run_append_nil_zeros (P := P) w t tn ty e i z k kn ht htn hi hz0 n h0 (by omega) (by omega) (by rw [hz2]; omega)
  have hcap := grownCap_ge w n 0 e
  have hmax := grownCap_le_maxLen w n 0 e (by unfold maxLen; omega)
  generalize grownCap w n 0 e = c at hr hcap hmax
  generalize hZ : Builtin.zeroCells z.cells n ++ Builtin.zeroCells z.cells (c - n) = Z at hr
  have hZs : Z.size = c * R.sz := by
    rw [← hZ]; simp only [Array.size_append, size_zeroCells, hzs]; rw [← Nat.add_mul]; congr 1; omega
  have hrun : (execOp a.eval ⟨d, .call ⟨.builtin .append, #[s, x], #[t, tn]⟩, ty, pos, aft, g⟩).run P w = .ok (.value (.slice (some ⟨w.heap.size, 0, none⟩) n c)) (w.drew.alloc (.cells Z e)) := by
    simp only [execOp, resolve, invoke, builtin, Sem.run_bind, Sem.run_pure, Result.andThen_ok, List.map_toArray, List.map_cons, List.map_nil, hs, hx, hr]
  have hf : Fr [] w (w.drew.alloc (.cells Z e)) := (Fr.drew [] w).new (Fr.alloc [] _ _)
  refine St.val hrun (kk _ c _ ⟨[], ⟨by simp, .inr ⟨w.heap.size, c, Z, rfl, Nat.le_refl _, ?_, Nat.zero_le _, hmax, hZs, by simp⟩⟩, rfl, fun b hb hz => hz⟩ hf)
  exact World.alloc_heap_new w.drew _
end
end Go.V
