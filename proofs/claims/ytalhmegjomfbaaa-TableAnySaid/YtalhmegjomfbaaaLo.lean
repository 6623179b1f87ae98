/- An argument that is a slice of acts. -/
import Derived.Test.YtalhmegjomfbaaaLp
import Derived.Test.YtalhmegjomfbaaaOpenO
namespace Go.Proofs.Ytalhmegjomfbaaa
open Go.V Go.Base Go.Deep Go.WideShapes Go.ChangeShapes Go.Joins
set_option linter.unusedVariables false
theorem cells34 : Try.prog.cellsOf 34 = 4 := by kernel_rfl
theorem cells3 : Try.prog.cellsOf 3 = 1 := by kernel_rfl
theorem cells9 : Try.prog.cellsOf 9 = 1 := by kernel_rfl
theorem cells22 : Try.prog.cellsOf 22 = 1 := by kernel_rfl
theorem list4 {β : Type} {cs : List β} (h : cs.length = 4) : ∃ a b c d, cs = [a, b, c, d] := by
  match cs, h with
  | [a, b, c, d], _ => exact ⟨a, b, c, d, rfl⟩
/-- A struct of a number, a text, a number, a word. -/
theorem four_el {H : Type} {enc : TypeId × Value → H} {P : Program} {W : World} {t t3 t9 t22 : TypeId} {f0 f1 f2 f3 : Field} (n : Nat) (cs : List Value) (x : DataW H × List MemPlace) (ht : P.underlying t = some (.struct #[f0, f1, f2, f3])) (hc : P.cellsOf t = 4)
    (e0 : f0.type = t3 ∧ f0.offset = 0) (e1 : f1.type = t9 ∧ f1.offset = 1) (e2 : f2.type = t3 ∧ f2.offset = 2) (e3 : f3.type = t22 ∧ f3.offset = 3) (c3 : P.cellsOf t3 = 1) (c9 : P.cellsOf t9 = 1) (c22 : P.cellsOf t22 = 1)
    (u3 : P.underlying t3 = some (.int .i64)) (u9 : P.underlying t9 = some .string) (u22 : P.underlying t22 = some (.int .u64)) (h : DataW.trod enc P W 0 (fun _ => true) true n t cs = some x) :
    ∃ d : OpD, cs = [.int .i64 d.kind, .string d.key, .int .i64 d.v, .int .u64 (d.draw : Int)] ∧ d.ok := by
  obtain ⟨y0, y1, y2, y3, k, rfl, hl, h0, h1, h2, h3⟩ := trod_struct4 ht h
  rw [hc] at hl
  obtain ⟨c0, c1, c2, c3', rfl⟩ := list4 hl
  rw [e0.1, e0.2, c3] at h0
  rw [e1.1, e1.2, c9] at h1
  rw [e2.1, e2.2, c3] at h2
  rw [e3.1, e3.2, c22] at h3
  obtain ⟨n0, q0, _, w0⟩ := DataW.trod_int u3 h0
  obtain ⟨s1, q1, _, w1⟩ := DataW.trod_string u9 h1
  obtain ⟨n2, q2, _, w2⟩ := DataW.trod_int u3 h2
  obtain ⟨n3, q3, _, w3⟩ := DataW.trod_int u22 h3
  simp at q0 q1 q2 q3
  subst q0; subst q1; subst q2; subst q3
  have z3 := wf_u64 w3
  obtain ⟨m3, rfl⟩ : ∃ m : Nat, n3 = (m : Int) := ⟨n3.toNat, by omega⟩
  exact ⟨⟨n0, s1, n2, m3⟩, rfl, wf_i64 w0, by unfold maxLen at w1; omega, wf_i64 w2, by show m3 < 18446744073709551616; omega⟩
theorem op_el {H : Type} {enc : TypeId × Value → H} {W : World} (n : Nat) (cs : List Value) (x : DataW H × List MemPlace) (h : DataW.trod enc Try.prog W 0 (fun _ => true) true n 34 cs = some x) (hp : ∀ p ∈ x.2, p.block < W.heap.size) : ∃ d : OpD, opR.ok (fun b => b < W.heap.size) W d cs :=
  four_el n cs x Try.underlying34 cells34 ⟨rfl, rfl⟩ ⟨rfl, rfl⟩ ⟨rfl, rfl⟩ ⟨rfl, rfl⟩ cells3 cells9 cells22 Try.underlying3 Try.underlying9 Try.underlying22 h
theorem open_ops {H : Type} {enc : TypeId × Value → H} {W : World} {A : Option Addr} {n c : Nat} {d : DataW H} {ps : List MemPlace} (hd : DataW.Trod enc Try.prog W 0 (fun _ => true) true 27 (.slice A n c) d ps) (hlt : ∀ x ∈ ps, x.block < W.heap.size) :
    ∃ l : List OpD, n = l.length ∧ SlR opR (fun b => b < W.heap.size) W (.slice A n c) l :=
  open_slR Try.underlying27 cells34 (by decide) op_el hd hlt
end Go.Proofs.Ytalhmegjomfbaaa
