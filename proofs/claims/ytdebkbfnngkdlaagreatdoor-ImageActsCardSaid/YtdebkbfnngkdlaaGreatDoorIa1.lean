/- Joined texts: Plan, Base, V, PlanT, Run, SetL, Rep. -/
import Derived.OrdersIn
import Derived.TacticsIn
import Derived.WalkKit
import Derived.WalkLawsBesides
import Derived.Maps.AppendAt
import Derived.OneCell
import Derived.Laws.OwnMore
import Derived.KernelRfl
import Derived.IntWalk
import Derived.Lib.Strings
import Derived.RangeFuncNested
import Derived.Shelf.Abstract
import Derived.Lib.SlicesCompact
import Derived.Sort.Walk0
section
namespace Go.Plan
set_option linter.unusedVariables false
set_option linter.unusedSimpArgs false

/-! ### 1. What leaves the world alone and asks nothing of it -/
def SQ {α : Type} (s : Sem α) : Prop := ∀ (P : Program) (w w1 : World) (a : α), s.run P w = .ok a w1 → w1 = w ∧ ∀ w', s.run P w' = .ok a w'
def SR {α : Type} (s : Sem α) : Prop := ∀ (P : Program) (w w1 : World) (a : α), s.run P w = .ok a w1 → w1 = w
def NOk {α : Type} (s : Sem α) : Prop := ∀ (P : Program) (w w1 : World) (a : α), s.run P w ≠ .ok a w1

theorem SQ.sr {α : Type} {s : Sem α} (h : SQ s) : SR s := fun P w w1 a e => (h P w w1 a e).1
theorem SQ.pure {α : Type} (a : α) : SQ (Pure.pure a : Sem α) := fun P w w1 b h => by
  simp at h; obtain ⟨rfl, rfl⟩ := h; exact ⟨rfl, fun _ => by simp⟩
theorem NOk.sq {α : Type} {s : Sem α} (h : NOk s) : SQ s := fun P w w1 a e => absurd e (h P w w1 a)
theorem NOk.sr {α : Type} {s : Sem α} (h : NOk s) : SR s := fun P w w1 a e => absurd e (h P w w1 a)
theorem NOk.halt {α : Type} (h : Halt) : NOk (Sem.halt h : Sem α) := fun P w w1 a e => by simp [Sem.run] at e
theorem bind_ok {α β : Type} {s : Sem α} {f : α → Sem β} {P : Program} {w w1 : World} {b : β} (e : (s >>= f).run P w = .ok b w1) : ∃ a w2, s.run P w = .ok a w2 ∧ (f a).run P w2 = .ok b w1 := by
  rw [Sem.run_bind] at e
  cases h : s.run P w with
  | ok a w2 => rw [h] at e; exact ⟨a, w2, rfl, e⟩
  | halt x w2 => rw [h] at e; simp at e
theorem SQ.bind {α β : Type} {s : Sem α} {f : α → Sem β} (h : SQ s) (k : ∀ a, SQ (f a)) : SQ (s >>= f) := fun P w w1 b e => by
  obtain ⟨a, w2, e1, e2⟩ := bind_ok e
  obtain ⟨rfl, h1⟩ := h P w w2 a e1
  obtain ⟨rfl, h2⟩ := k a P _ w1 b e2
  exact ⟨rfl, fun w' => by rw [Sem.run_bind, h1 w']; exact h2 w'⟩
theorem SR.bind {α β : Type} {s : Sem α} {f : α → Sem β} (h : SR s) (k : ∀ a, SR (f a)) : SR (s >>= f) := fun P w w1 b e => by
  obtain ⟨a, w2, e1, e2⟩ := bind_ok e
  obtain rfl := h P w w2 a e1
  exact k a P _ w1 b e2
theorem NOk.bind {α β : Type} {s : Sem α} {f : α → Sem β} (k : ∀ a, NOk (f a)) : NOk (s >>= f) := fun P w w1 b e => by
  obtain ⟨a, w2, _, e2⟩ := bind_ok e
  exact k a P _ w1 b e2
theorem NOk.bind_left {α β : Type} {s : Sem α} {f : α → Sem β} (k : NOk s) : NOk (s >>= f) := fun P w w1 b e => by
  obtain ⟨a, w2, e1, _⟩ := bind_ok e
  exact k P _ _ a e1
theorem SQ.map {α β : Type} {s : Sem α} (g : α → β) (h : SQ s) : SQ (g <$> s) := by
  have : (g <$> s) = (s >>= fun a => Pure.pure (g a)) := by rfl
  rw [this]; exact h.bind fun _ => SQ.pure _
theorem SQ.ite {α : Type} {c : Prop} [Decidable c] {s t : Sem α} (h : SQ s) (k : SQ t) : SQ (if c then s else t) := by split <;> assumption
theorem SQ.program {α : Type} {f : Program → Sem α} (k : ∀ p, SQ (f p)) : SQ (program >>= f) := fun P w w1 b e => by
  have e' : (f P).run P w = .ok b w1 := by rw [Sem.run_bind] at e; simpa [program, Sem.run] using e
  obtain ⟨h1, h2⟩ := k P P w w1 b e'
  exact ⟨h1, fun w' => by rw [Sem.run_bind]; simpa [program, Sem.run] using h2 w'⟩
theorem nok_stuck {α : Type} (s : String) : NOk (stuck s : Sem α) := NOk.halt _
theorem nok_unsupported {α : Type} (u : Unsupported) : NOk (unsupported u : Sem α) := NOk.halt _
theorem nok_goPanic {α : Type} (v : Value) : NOk (goPanic v : Sem α) := NOk.halt _
theorem nok_runtimePanic {α : Type} (e : RuntimeError) : NOk (runtimePanic e : Sem α) := by
  unfold runtimePanic
  refine NOk.bind fun p => ?_
  cases e with
  | typeAssertion i c a m => exact NOk.bind fun _ => NOk.bind fun _ => nok_goPanic _
  | panicNil => exact NOk.bind fun _ => NOk.bind fun _ => nok_goPanic _
  | _ => exact nok_goPanic _
theorem nok_boundsPanic {α : Type} (k : IntKind) (x y : Int) (c : BoundsCode) : NOk (boundsPanic k x y c : Sem α) := by
  unfold boundsPanic
  split
  · exact NOk.bind fun _ => nok_runtimePanic _
  · exact NOk.bind fun _ => nok_runtimePanic _
theorem sq_typeInfo (t : TypeId) : SQ (typeInfo t) := by
  unfold typeInfo
  refine SQ.program fun p => ?_
  split
  · exact SQ.pure _
  · exact (nok_stuck _).sq
theorem sq_underlying (t : TypeId) : SQ (underlying t) := by
  unfold underlying
  refine SQ.program fun p => ?_
  split
  · exact SQ.pure _
  · exact (nok_stuck _).sq
theorem sq_zeroValue (t : TypeId) : SQ (zeroValue t) := by
  unfold zeroValue
  refine (sq_typeInfo t).bind fun i => ?_
  split
  · exact SQ.pure _
  · exact (nok_unsupported _).sq
theorem sq_sizeOf (t : TypeId) : SQ (sizeOf t) := (sq_typeInfo t).bind fun _ => SQ.pure _
theorem sq_isAgg (t : TypeId) : SQ (isAgg t) := by
  unfold isAgg
  refine (sq_underlying t).bind fun d => ?_
  split <;> exact SQ.pure _
theorem sq_part (t : TypeId) (cs : Array Value) (o : Nat) : SQ (part t cs o) := by
  unfold part
  refine (sq_isAgg t).bind fun b => ?_
  split
  · exact (sq_sizeOf t).bind fun _ => SQ.pure _
  · split
    · exact SQ.pure _
    · exact (nok_stuck _).sq
theorem sq_asBool (v : Value) : SQ (asBool v) := by unfold asBool; split <;> first | exact SQ.pure _ | exact (nok_stuck _).sq
theorem sq_asAgg (v : Value) : SQ (asAgg v) := by unfold asAgg; split <;> first | exact SQ.pure _ | exact (nok_stuck _).sq
theorem sq_asIntOf (v : Value) : SQ (asIntOf v) := by unfold asIntOf; split <;> first | exact SQ.pure _ | exact (nok_stuck _).sq | exact (nok_unsupported _).sq
theorem sq_sureAddr (v : Value) : SQ (Instr.sureAddr v) := by unfold Instr.sureAddr; split <;> first | exact SQ.pure _ | exact (nok_stuck _).sq
theorem sq_asAddr (v : Value) : SQ (asAddr v) := by unfold asAddr; split <;> first | exact SQ.pure _ | exact (nok_stuck _).sq | exact (nok_runtimePanic _).sq
theorem sq_listMapM {α β : Type} (f : α → Sem β) (h : ∀ a, SQ (f a)) : ∀ l : List α, SQ (l.mapM f)
  | [] => by simp only [List.mapM_nil]; exact SQ.pure _
  | a :: l => by
    simp only [List.mapM_cons]
    exact (h a).bind fun _ => (sq_listMapM f h l).bind fun _ => SQ.pure _
theorem sq_arrayMapM {α β : Type} (f : α → Sem β) (h : ∀ a, SQ (f a)) (l : Array α) : SQ (l.mapM f) := by
  rw [Array.mapM_eq_mapM_toList]
  exact SQ.map _ (sq_listMapM f h l.toList)
theorem sq_build (t : TypeId) (ps : Array (Nat × Value)) : SQ (Instr.build t ps) := by
  unfold Instr.build
  refine (sq_zeroValue t).bind fun z => ?_
  refine (sq_underlying t).bind fun d => ?_
  split
  · refine (sq_arrayMapM _ (fun f => (sq_sizeOf _).bind fun _ => SQ.pure _) _).bind fun places => ?_
    split
    · exact SQ.pure _
    · exact (nok_stuck _).sq
  · refine (sq_sizeOf _).bind fun size => ?_
    split
    · exact SQ.pure _
    · exact (nok_stuck _).sq
  · exact (nok_stuck _).sq
theorem sq_extract (v : Value) (i : Nat) : SQ (Instr.extract v i) := by
  unfold Instr.extract
  split
  · split
    · exact SQ.pure _
    · exact (nok_stuck _).sq
  · exact (nok_stuck _).sq
theorem sq_field (t : TypeId) (x : Value) (f : Nat) : SQ (Instr.field t x f) := by
  unfold Instr.field
  refine (sq_underlying t).bind fun d => ?_
  split
  · split
    · exact (sq_asAgg x).bind fun _ => sq_part _ _ _
    · exact (nok_stuck _).sq
  · exact (nok_stuck _).sq
theorem sq_index (t : TypeId) (x i : Value) : SQ (Instr.index t x i) := by
  unfold Instr.index
  repeat' first
    | (with_reducible exact SQ.pure _)
    | (with_reducible exact (nok_stuck _).sq)
    | (with_reducible exact (nok_unsupported _).sq)
    | (with_reducible exact (nok_boundsPanic _ _ _ _).sq)
    | (with_reducible exact (nok_runtimePanic _).sq)
    | (with_reducible exact sq_underlying _)
    | (with_reducible exact sq_sizeOf _)
    | (with_reducible exact sq_sureAddr _)
    | (with_reducible exact sq_asIntOf _)
    | (with_reducible exact sq_asAddr _)
    | (with_reducible exact sq_part _ _ _)
    | (with_reducible refine SQ.bind ?_ (fun _ => ?_))
    | split
    | dsimp only
theorem sq_indexAt (t : TypeId) (x i : Value) : SQ (Instr.indexAt t x i) := by
  unfold Instr.indexAt
  repeat' first
    | (with_reducible exact SQ.pure _)
    | (with_reducible exact (nok_stuck _).sq)
    | (with_reducible exact (nok_unsupported _).sq)
    | (with_reducible exact (nok_boundsPanic _ _ _ _).sq)
    | (with_reducible exact (nok_runtimePanic _).sq)
    | (with_reducible exact sq_underlying _)
    | (with_reducible exact sq_sizeOf _)
    | (with_reducible exact sq_sureAddr _)
    | (with_reducible exact sq_asIntOf _)
    | (with_reducible exact sq_asAddr _)
    | (with_reducible exact sq_part _ _ _)
    | (with_reducible refine SQ.bind ?_ (fun _ => ?_))
    | split
    | dsimp only
theorem sq_sliceBound (x : Value) (y : Nat) (c : BoundsCode) : SQ (Instr.sliceBound x y c) := by
  unfold Instr.sliceBound
  repeat' first
    | (with_reducible exact SQ.pure _)
    | (with_reducible exact (nok_stuck _).sq)
    | (with_reducible exact (nok_unsupported _).sq)
    | (with_reducible exact (nok_boundsPanic _ _ _ _).sq)
    | (with_reducible exact (nok_runtimePanic _).sq)
    | (with_reducible exact sq_underlying _)
    | (with_reducible exact sq_sizeOf _)
    | (with_reducible exact sq_sureAddr _)
    | (with_reducible exact sq_asIntOf _)
    | (with_reducible exact sq_asAddr _)
    | (with_reducible exact sq_part _ _ _)
    | (with_reducible refine SQ.bind ?_ (fun _ => ?_))
    | split
    | dsimp only
theorem sq_sliceBounds (b : Bool) (n c : Nat) (l h m : Option Value) : SQ (Instr.sliceBounds b n c l h m) := by
  unfold Instr.sliceBounds
  repeat' first
    | (with_reducible exact SQ.pure _)
    | (with_reducible exact (nok_stuck _).sq)
    | (with_reducible exact (nok_unsupported _).sq)
    | (with_reducible exact (nok_boundsPanic _ _ _ _).sq)
    | (with_reducible exact (nok_runtimePanic _).sq)
    | (with_reducible exact sq_underlying _)
    | (with_reducible exact sq_sizeOf _)
    | (with_reducible exact sq_sureAddr _)
    | (with_reducible exact sq_asIntOf _)
    | (with_reducible exact sq_asAddr _)
    | (with_reducible exact sq_part _ _ _)
    | (with_reducible exact sq_sliceBound _ _ _)
    | (with_reducible refine SQ.bind ?_ (fun _ => ?_))
    | split
    | dsimp only
theorem sq_slice (t : TypeId) (x : Value) (l h m : Option Value) : SQ (Instr.slice t x l h m) := by
  unfold Instr.slice
  repeat' first
    | (with_reducible exact SQ.pure _)
    | (with_reducible exact (nok_stuck _).sq)
    | (with_reducible exact (nok_unsupported _).sq)
    | (with_reducible exact (nok_boundsPanic _ _ _ _).sq)
    | (with_reducible exact (nok_runtimePanic _).sq)
    | (with_reducible exact sq_underlying _)
    | (with_reducible exact sq_sizeOf _)
    | (with_reducible exact sq_sureAddr _)
    | (with_reducible exact sq_asIntOf _)
    | (with_reducible exact sq_asAddr _)
    | (with_reducible exact sq_part _ _ _)
    | (with_reducible exact sq_sliceBounds _ _ _ _ _ _)
    | (with_reducible refine SQ.bind ?_ (fun _ => ?_))
    | split
    | dsimp only
theorem sq_sliceAt (t : TypeId) (x : Value) (l h m : Option Value) : SQ (Instr.sliceAt t x l h m) := by
  unfold Instr.sliceAt
  repeat' first
    | (with_reducible exact SQ.pure _)
    | (with_reducible exact (nok_stuck _).sq)
    | (with_reducible exact (nok_unsupported _).sq)
    | (with_reducible exact (nok_boundsPanic _ _ _ _).sq)
    | (with_reducible exact (nok_runtimePanic _).sq)
    | (with_reducible exact sq_underlying _)
    | (with_reducible exact sq_sizeOf _)
    | (with_reducible exact sq_sureAddr _)
    | (with_reducible exact sq_asIntOf _)
    | (with_reducible exact sq_asAddr _)
    | (with_reducible exact sq_part _ _ _)
    | (with_reducible exact sq_sliceBounds _ _ _ _ _ _)
    | (with_reducible exact sq_slice _ _ _ _ _)
    | (with_reducible refine SQ.bind ?_ (fun _ => ?_))
    | split
    | dsimp only
theorem sq_intArith (op : BinOp) (k : IntKind) (x y : Int) : SQ (Op.intArith op k x y) := by
  unfold Op.intArith; split <;> first | exact SQ.pure _ | exact (nok_stuck _).sq
theorem sq_intDiv (op : BinOp) (k : IntKind) (x y : Int) : SQ (Op.intDiv op k x y) := by
  unfold Op.intDiv
  split
  · exact (nok_runtimePanic _).sq
  · split <;> first | exact SQ.pure _ | exact (nok_stuck _).sq
theorem sq_intBits (op : BinOp) (k : IntKind) (x y : Int) : SQ (Op.intBits op k x y) := by
  unfold Op.intBits; dsimp only; split <;> first | exact SQ.pure _ | exact (nok_stuck _).sq
theorem sq_shift (op : BinOp) (k : IntKind) (x : Int) (yk : IntKind) (y : Int) : SQ (Op.shift op k x yk y) := by
  unfold Op.shift
  split
  · exact (nok_runtimePanic _).sq
  · dsimp only; split <;> first | exact SQ.pure _ | exact (nok_stuck _).sq
theorem sq_intCmp (op : BinOp) (x y : Int) : SQ (Op.intCmp op x y) := by
  unfold Op.intCmp; split <;> first | exact SQ.pure _ | exact (nok_stuck _).sq
theorem sq_stringOp (op : BinOp) (x y : ByteArray) : SQ (Op.stringOp op x y) := by
  unfold Op.stringOp; dsimp only
  split
  · split
    · exact (nok_unsupported _).sq
    · exact SQ.pure _
  all_goals first | exact SQ.pure _ | exact (nok_stuck _).sq
theorem sq_unary (op : UnOp) (x : Value) : SQ (Op.unary op x) := by
  unfold Op.unary
  split <;> first | exact sq_intArith _ _ _ _ | exact sq_intBits _ _ _ _ | exact SQ.pure _ | exact (nok_unsupported _).sq | exact (nok_stuck _).sq
theorem sq_makeInterface (t : TypeId) (x : Value) : SQ (Instr.makeInterface t x) := by
  unfold Instr.makeInterface
  refine (sq_underlying t).bind fun d => ?_
  split <;> first | exact SQ.pure _ | exact (nok_stuck _).sq
theorem sq_makeFunc (f : Fn) (a b : Array Value) : SQ (Instr.makeFunc f a b) := SQ.pure _

def basic : Value → Bool
  | .int .. => true
  | .string _ => true
  | .bool _ => true
  | _ => false
theorem basic_cases {v : Value} (h : basic v = true) : (∃ k n, v = .int k n) ∨ (∃ s, v = .string s) ∨ ∃ b, v = .bool b := by
  cases v <;> simp [basic] at h
  · exact .inr (.inr ⟨_, rfl⟩)
  · exact .inl ⟨_, _, rfl⟩
  · exact .inr (.inl ⟨_, rfl⟩)
theorem sq_equal_basic (t : TypeId) (x y : Value) (hx : basic x = true) (hy : basic y = true) : SQ (Op.equal t x y) := by
  unfold Op.equal Op.maxDepth
  rcases basic_cases hx with ⟨k, n, rfl⟩ | ⟨s, rfl⟩ | ⟨b, rfl⟩ <;> rcases basic_cases hy with ⟨k', n', rfl⟩ | ⟨s', rfl⟩ | ⟨b', rfl⟩ <;>
  · unfold Op.equalIn
    refine (sq_underlying t).bind fun d => ?_
    cases d <;> first | exact SQ.pure _ | exact (nok_stuck _).sq | (dsimp only; split <;> first | exact SQ.pure _ | exact (nok_stuck _).sq)
theorem sq_binOp_basic (op : BinOp) (t : TypeId) (x y : Value) (hx : basic x = true) (hy : basic y = true) : SQ (binOp op t x y) := by
  have heq := sq_equal_basic t x y hx hy
  rcases basic_cases hx with ⟨k, n, rfl⟩ | ⟨s, rfl⟩ | ⟨b, rfl⟩ <;> rcases basic_cases hy with ⟨k', n', rfl⟩ | ⟨s', rfl⟩ | ⟨b', rfl⟩ <;> cases op <;> unfold binOp <;> dsimp only <;>
  first
  | exact sq_shift _ _ _ _ _
  | exact sq_stringOp _ _ _
  | exact heq.bind fun _ => SQ.pure _
  | exact (nok_stuck _).sq
  | exact (nok_unsupported _).sq
  | (split <;> first | exact (nok_stuck _).sq | exact sq_intArith _ _ _ _ | exact sq_intDiv _ _ _ _ | exact sq_intBits _ _ _ _ | exact sq_intCmp _ _ _)

theorem sq_convert_int (src dst : TypeId) (k : IntKind) (n : Int) (P : Program) (kd : IntKind) (h : P.underlying dst = some (.int kd)) (w w1 : World) (v : Value)
    (e : (convert src dst (.int k n)).run P w = .ok v w1) : w1 = w ∧ ∀ w', (convert src dst (.int k n)).run P w' = .ok v w' := by
  cases hs : P.underlying src with
  | none => simp [convert, Sem.run_bind, underlying, program, Sem.run, hs, stuck] at e
  | some d =>
    have run : ∀ w', (convert src dst (.int k n)).run P w' = .ok (.int kd (kd.wrap n)) w' := fun w' => by
      simp [convert, Sem.run_bind, underlying, program, Sem.run, hs, h, Conv.intToInt]
    rw [run w] at e
    injection e with e1 e2
    subst e1; subst e2
    exact ⟨rfl, run⟩
theorem sq_convert_string (src dst : TypeId) (s : ByteArray) (P : Program) (h : P.underlying dst = some .string) (w w1 : World) (v : Value)
    (e : (convert src dst (.string s)).run P w = .ok v w1) : w1 = w ∧ ∀ w', (convert src dst (.string s)).run P w' = .ok v w' := by
  cases hs : P.underlying src with
  | none => simp [convert, Sem.run_bind, underlying, program, Sem.run, hs, stuck] at e
  | some d =>
    have run : ∀ w', (convert src dst (.string s)).run P w' = .ok (.string s) w' := fun w' => by
      cases d <;> simp [convert, Sem.run_bind, underlying, program, Sem.run, hs, h]
    rw [run w] at e
    injection e with e1 e2
    subst e1; subst e2
    exact ⟨rfl, run⟩
theorem sq_eqGuard (op : BinOp) (t : TypeId) (x y : Operand) (a b : Value) (ha : basic a = true) : SQ (eqGuard op t x y a b) := by
  unfold eqGuard
  refine SQ.ite ?_ ?_
  · exact SQ.pure _
  · rcases basic_cases ha with ⟨k, n, rfl⟩ | ⟨s, rfl⟩ | ⟨b', rfl⟩ <;> (dsimp only; exact SQ.pure _)
/-! ### 2. Operations that only compute, or only read -/
def segSem (ρ : Operand → Value) (o : Oper) : Option (Sem Value) := match o.op with
  | .move x | .assign x => some (pure (ρ x))
  | .pick c a b => some (do pure (if ← asBool (ρ c) then ρ a else ρ b))
  | .build t parts => some (Instr.build t (parts.map fun (i, x) => (i, ρ x)))
  | .load t a => some (Instr.loadAt t (ρ a))
  | .nilCheck x => match ρ x with
    | .pointer (some _) => some (pure (ρ x))
    | .func (.func _) _ _ => some (pure (ρ x))
    | _ => none
  | .binOp op t x y _ => some (do eqGuard op t x y (ρ x) (ρ y); binOp op t (ρ x) (ρ y))
  | .unOp op _ x => some (Op.unary op (ρ x))
  | .convert src dst x => some (convert src dst (ρ x))
  | .makeInterface t x => some (Instr.makeInterface t (ρ x))
  | .makeFunc fn first captured => some (Instr.makeFunc fn (first.map ρ) (captured.map ρ))
  | .slice t x lo hi mx => some (Instr.sliceAt t (ρ x) (lo.map ρ) (hi.map ρ) (mx.map ρ))
  | .fieldAddr s x f => some (Instr.fieldAt s (ρ x) f)
  | .field t x f => some (Instr.field t (ρ x) f)
  | .indexAddr t x ix => some (Instr.indexAt t (ρ x) (ρ ix))
  | .index t x ix => some (Instr.index t (ρ x) (ρ ix))
  | .extract t ix => some (Instr.extract (ρ t) ix)
  | .call { callee := .builtin .len, args, argTypes } => some (Builtin.len_ argTypes o.type (args.map ρ))
  | .call { callee := .builtin .cap, args, argTypes } => some (Builtin.cap_ argTypes o.type (args.map ρ))
  | .call { callee := .builtin .min, args, argTypes } => some (Builtin.min_ argTypes o.type (args.map ρ))
  | .call { callee := .builtin .max, args, argTypes } => some (Builtin.max_ argTypes o.type (args.map ρ))
  | _ => none
theorem execOp_seg {ρ : Operand → Value} {o : Oper} {s : Sem Value} (h : segSem ρ o = some s) : execOp ρ o = (do pure (Next.value (← s))) := by
  obtain ⟨dst, op, type, pos, after, guard⟩ := o
  unfold segSem at h
  dsimp only at h
  split at h <;> first
    | (injection h with h; subst h; rfl)
    | (injection h with h; subst h; rename_i c _ _; simp only [execOp]; cases ρ c <;> rfl)
    | (split at h <;> first
        | (injection h with h; subst h; rename_i hx; simp only [execOp, hx]; rfl)
        | (cases h))
    | (cases h)
/-- The one whose value may hang on the world. -/
def isL (o : Oper) : Bool := match o.op with
  | .load .. => true
  | _ => false
def sized (P : Program) (s : TypeId) (f : Nat) : Bool := match P.underlying s with
  | some (.struct fs) => match fs[f]? with
    | some fl => match P.info? fl.type with
      | some i => i.size != 0
      | none => false
    | none => false
  | _ => false
def lenArg : Value → Bool
  | .string _ => true
  | .slice .. => true
  | _ => false
def capArg : Value → Bool
  | .slice .. => true
  | _ => false
/-- The others: what they are handed lets them ask nothing of the world. -/
def okP (P : Program) (ρ : Operand → Value) (o : Oper) : Bool := match o.op with
  | .move _ | .assign _ | .pick .. | .build .. | .unOp .. | .makeInterface .. | .makeFunc .. | .slice .. | .field .. | .indexAddr .. | .index .. | .extract .. => true
  | .nilCheck x => match ρ x with
    | .pointer (some _) => true
    | .func (.func _) _ _ => true
    | _ => false
  | .fieldAddr s _ f => sized P s f
  | .binOp _ _ x y _ => basic (ρ x) && basic (ρ y)
  | .convert _ dst x => match ρ x, P.underlying dst with
    | .int .., some (.int _) => true
    | .string _, some .string => true
    | _, _ => false
  | .call { callee := .builtin .len, args, argTypes } => args.all fun x => lenArg (ρ x)
  | .call { callee := .builtin .cap, args, argTypes } => args.all fun x => capArg (ρ x)
  | .call { callee := .builtin .min, args, argTypes } => args.all fun x => basic (ρ x)
  | .call { callee := .builtin .max, args, argTypes } => args.all fun x => basic (ρ x)
  | _ => false
/-- What okP looks at. -/
def asks (o : Oper) : List Tmp := match o.op with
  | .nilCheck x => [x].filterMap fun | .tmp t => some t | _ => none
  | .binOp _ _ x y _ => [x, y].filterMap fun | .tmp t => some t | _ => none
  | .convert _ _ x => [x].filterMap fun | .tmp t => some t | _ => none
  | .call c => c.args.toList.filterMap fun | .tmp t => some t | _ => none
  | _ => []
section
variable {P : Program}
def SQP (P : Program) (s : Sem Value) : Prop := ∀ (w w1 : World) (a : Value), s.run P w = .ok a w1 → w1 = w ∧ ∀ w', s.run P w' = .ok a w'
theorem SQ.at {s : Sem Value} (h : SQ s) : SQP P s := h P
theorem sq_fieldAt {s : TypeId} {x : Value} {f : Nat} (h : sized P s f = true) : SQP P (Instr.fieldAt s x f) := by
  unfold sized at h
  split at h
  · rename_i fs hs
    split at h
    · rename_i fl hf
      split at h
      · rename_i i hi
        have hne : i.size ≠ 0 := by simpa using h
        intro w w1 a e
        have run : ∀ w', (Instr.fieldAt s x f).run P w' = (match x with | .pointer (some ad) => .ok (.pointer (some (ad.add fl.offset))) w' | _ => .halt (.stuck "an address expected (no nilCheck in front?)") w') := by
          intro w'
          unfold Instr.fieldAt Instr.sureAddr fieldPlace
          simp only [Sem.run_bind, underlying, program, Sem.run, hs, sizeOf, typeInfo, hi, Sem.run_pure, Result.andThen_ok, hf]
          cases x with
          | pointer r => cases r <;> simp [hi, stuck, Sem.run, hne]
          | _ => simp [stuck, Sem.run]
        rw [run w] at e
        cases x with
        | pointer r => cases r with
          | none => simp at e
          | some ad =>
            simp only [Result.ok.injEq] at e
            obtain ⟨e1, e2⟩ := e
            subst e1; subst e2
            exact ⟨rfl, fun w' => run w'⟩
        | _ => simp at e
      · cases h
    · cases h
  · cases h
theorem sq_len (ts : Array TypeId) (t : TypeId) (args : Array Value) (h : ∀ v, args[0]? = some v → lenArg v = true) : SQ (Builtin.len_ ts t args) := by
  unfold Builtin.len_
  split
  · rename_i h1 h2
    have h3 := h h1 (by simpa using (Prod.ext_iff.1 h2).2)
    clear h h2
    refine (sq_underlying _).bind fun d => ?_
    split <;> first | exact SQ.pure _ | exact (nok_stuck _).sq | (simp [lenArg, capArg] at h3; done) | (refine (sq_underlying _).bind fun d => ?_; split <;> first | exact SQ.pure _ | exact (nok_stuck _).sq)
  · exact (nok_stuck _).sq
theorem sq_cap (ts : Array TypeId) (t : TypeId) (args : Array Value) (h : ∀ v, args[0]? = some v → capArg v = true) : SQ (Builtin.cap_ ts t args) := by
  unfold Builtin.cap_
  split
  · rename_i h1 h2
    have h3 := h h1 (by simpa using (Prod.ext_iff.1 h2).2)
    clear h h2
    refine (sq_underlying _).bind fun d => ?_
    split <;> first | exact SQ.pure _ | exact (nok_stuck _).sq | (simp [lenArg, capArg] at h3; done) | (refine (sq_underlying _).bind fun d => ?_; split <;> first | exact SQ.pure _ | exact (nok_stuck _).sq)
  · exact (nok_stuck _).sq
theorem sq_min2 (x y : Value) (hx : basic x = true) (hy : basic y = true) : SQ (Builtin.min2 x y) := by
  rcases basic_cases hx with ⟨k, n, rfl⟩ | ⟨s, rfl⟩ | ⟨b, rfl⟩ <;> rcases basic_cases hy with ⟨k', n', rfl⟩ | ⟨s', rfl⟩ | ⟨b', rfl⟩ <;> unfold Builtin.min2 <;>
    first | exact SQ.pure _ | exact (nok_stuck _).sq | exact (sq_stringOp _ _ _).bind fun _ => (sq_asBool _).bind fun _ => SQ.pure _
theorem sq_max2 (x y : Value) (hx : basic x = true) (hy : basic y = true) : SQ (Builtin.max2 x y) := by
  rcases basic_cases hx with ⟨k, n, rfl⟩ | ⟨s, rfl⟩ | ⟨b, rfl⟩ <;> rcases basic_cases hy with ⟨k', n', rfl⟩ | ⟨s', rfl⟩ | ⟨b', rfl⟩ <;> unfold Builtin.max2 <;>
    first | exact SQ.pure _ | exact (nok_stuck _).sq | exact (sq_stringOp _ _ _).bind fun _ => (sq_asBool _).bind fun _ => SQ.pure _
theorem sq_foldl (f : Value → Value → Sem Value) (hf : ∀ x y, basic x = true → basic y = true → SQ (f x y)) (hb : ∀ P w w1 x y z, basic x = true → basic y = true → (f x y).run P w = .ok z w1 → basic z = true) :
    ∀ (l : List Value) (x : Value), basic x = true → (∀ y ∈ l, basic y = true) → SQ (l.foldlM f x)
  | [], x, _, _ => by simp only [List.foldlM_nil]; exact SQ.pure _
  | y :: l, x, hx, h => by
    simp only [List.foldlM_cons]
    intro P w w1 a e
    obtain ⟨z, w2, e1, e2⟩ := bind_ok e
    have hy := h y (List.mem_cons_self ..)
    obtain ⟨rfl, h1⟩ := hf x y hx hy P w w2 z e1
    obtain ⟨rfl, h2⟩ := sq_foldl f hf hb l z (hb P _ _ x y z hx hy e1) (fun q hq => h q (List.mem_cons_of_mem _ hq)) P _ w1 a e2
    exact ⟨rfl, fun w' => by rw [Sem.run_bind, h1 w']; exact h2 w'⟩
theorem min2_basic (P : Program) (w w1 : World) (x y z : Value) (hx : basic x = true) (hy : basic y = true) (e : (Builtin.min2 x y).run P w = .ok z w1) : basic z = true := by
  rcases basic_cases hx with ⟨k, n, rfl⟩ | ⟨s, rfl⟩ | ⟨b, rfl⟩ <;> rcases basic_cases hy with ⟨k', n', rfl⟩ | ⟨s', rfl⟩ | ⟨b', rfl⟩ <;> unfold Builtin.min2 at e
  case inl.inl => simp at e; rw [← e.1]; rfl
  case inr.inl.inr.inl =>
    obtain ⟨a, w2, _, e2⟩ := bind_ok e
    obtain ⟨b, w3, _, e3⟩ := bind_ok e2
    simp at e3; rw [← e3.1]; rfl
  all_goals simp [stuck, Sem.run] at e
theorem max2_basic (P : Program) (w w1 : World) (x y z : Value) (hx : basic x = true) (hy : basic y = true) (e : (Builtin.max2 x y).run P w = .ok z w1) : basic z = true := by
  rcases basic_cases hx with ⟨k, n, rfl⟩ | ⟨s, rfl⟩ | ⟨b, rfl⟩ <;> rcases basic_cases hy with ⟨k', n', rfl⟩ | ⟨s', rfl⟩ | ⟨b', rfl⟩ <;> unfold Builtin.max2 at e
  case inl.inl => simp at e; rw [← e.1]; rfl
  case inr.inl.inr.inl =>
    obtain ⟨a, w2, _, e2⟩ := bind_ok e
    obtain ⟨b, w3, _, e3⟩ := bind_ok e2
    simp at e3; rw [← e3.1]; rfl
  all_goals simp [stuck, Sem.run] at e
theorem sq_min (ts : Array TypeId) (t : TypeId) (args : Array Value) (h : ∀ v ∈ args, basic v = true) : SQ (Builtin.min_ ts t args) := by
  unfold Builtin.min_
  split
  · exact (nok_stuck _).sq
  · rename_i x rest hl
    have h' : ∀ v ∈ args.toList, basic v = true := fun v hv => h v (Array.mem_toList_iff.1 hv)
    rw [hl] at h'
    exact sq_foldl _ sq_min2 (fun P w w1 x y z => min2_basic P w w1 x y z) rest x (h' x (List.mem_cons_self ..)) (fun y hy => h' y (List.mem_cons_of_mem _ hy))
theorem sq_max (ts : Array TypeId) (t : TypeId) (args : Array Value) (h : ∀ v ∈ args, basic v = true) : SQ (Builtin.max_ ts t args) := by
  unfold Builtin.max_
  split
  · exact (nok_stuck _).sq
  · rename_i x rest hl
    have h' : ∀ v ∈ args.toList, basic v = true := fun v hv => h v (Array.mem_toList_iff.1 hv)
    rw [hl] at h'
    exact sq_foldl _ sq_max2 (fun P w w1 x y z => max2_basic P w w1 x y z) rest x (h' x (List.mem_cons_self ..)) (fun y hy => h' y (List.mem_cons_of_mem _ hy))
/-- An operation that computes, handed what it is handed, asks nothing of the world. -/
theorem okP_sq {ρ : Operand → Value} {o : Oper} {s : Sem Value} (h : okP P ρ o = true) (hs : segSem ρ o = some s) : SQP P s := by
  obtain ⟨dst, op, type, pos, after, guard⟩ := o
  unfold segSem at hs
  unfold okP at h
  dsimp only at h hs
  cases op <;> (try dsimp only at h hs) <;> (try (cases h; done)) <;> (try (cases hs; done))
  case move x => injection hs with hs; subst hs; exact (SQ.pure _).at
  case assign x => injection hs with hs; subst hs; exact (SQ.pure _).at
  case pick c a b => injection hs with hs; subst hs; exact ((sq_asBool _).bind fun _ => SQ.pure _).at
  case build t ps => injection hs with hs; subst hs; exact (sq_build _ _).at
  case unOp op t x => injection hs with hs; subst hs; exact (sq_unary _ _).at
  case makeInterface t x => injection hs with hs; subst hs; exact (sq_makeInterface _ _).at
  case makeFunc f a b => injection hs with hs; subst hs; exact (sq_makeFunc _ _ _).at
  case slice t x l h' m => injection hs with hs; subst hs; exact (sq_sliceAt _ _ _ _ _).at
  case field t x f => injection hs with hs; subst hs; exact (sq_field _ _ _).at
  case indexAddr t x i => injection hs with hs; subst hs; exact (sq_indexAt _ _ _).at
  case index t x i => injection hs with hs; subst hs; exact (sq_index _ _ _).at
  case extract t i => injection hs with hs; subst hs; exact (sq_extract _ _).at
  case fieldAddr s' x f => injection hs with hs; subst hs; exact sq_fieldAt h
  case nilCheck x =>
    split at hs
    · injection hs with hs; subst hs; exact (SQ.pure _).at
    · injection hs with hs; subst hs; exact (SQ.pure _).at
    · cases hs
  case binOp op t x y yt =>
    injection hs with hs; subst hs
    simp only [Bool.and_eq_true] at h
    exact ((sq_eqGuard _ _ _ _ _ _ h.1).bind fun _ => sq_binOp_basic _ _ _ _ h.1 h.2).at
  case convert src d x =>
    injection hs with hs; subst hs
    split at h
    · rename_i h1 h2; rw [h1]; exact fun w w1 a e => sq_convert_int _ _ _ _ P _ h2 w w1 a e
    · rename_i h1 h2; rw [h1]; exact fun w w1 a e => sq_convert_string _ _ _ P h2 w w1 a e
    · cases h
  case call c =>
    obtain ⟨callee, args, argTypes⟩ := c
    cases callee <;> (try dsimp only at h hs) <;> (try (cases h; done))
    case builtin b =>
      cases b <;> (try dsimp only at h hs) <;> (try (cases h; done))
      case len =>
        injection hs with hs; subst hs
        refine (sq_len _ _ _ fun v hv => ?_).at
        obtain ⟨x, hx, rfl⟩ := Array.mem_map.1 (Array.mem_of_getElem? hv)
        exact Array.all_eq_true_iff_forall_mem.1 h x hx
      case cap =>
        injection hs with hs; subst hs
        refine (sq_cap _ _ _ fun v hv => ?_).at
        obtain ⟨x, hx, rfl⟩ := Array.mem_map.1 (Array.mem_of_getElem? hv)
        exact Array.all_eq_true_iff_forall_mem.1 h x hx
      case min =>
        injection hs with hs; subst hs
        refine (sq_min _ _ _ fun v hv => ?_).at
        obtain ⟨x, hx, rfl⟩ := Array.mem_map.1 hv
        exact Array.all_eq_true_iff_forall_mem.1 h x hx
      case max =>
        injection hs with hs; subst hs
        refine (sq_max _ _ _ fun v hv => ?_).at
        obtain ⟨x, hx, rfl⟩ := Array.mem_map.1 hv
        exact Array.all_eq_true_iff_forall_mem.1 h x hx
end

/-! ### 2b. The open fence, in a round or not -/
abbrev FW (r : Option Nat) : Fence := { fn := fun _ => True, depth := none, alive := false, round := r }
def noDefer (ops : Array Oper) : Bool := ops.all fun o => match o.op with | .defer .. => false | _ => true
theorem noDefer_spec {ops : Array Oper} (h : noDefer ops = true) {j : Nat} {o : Oper} (ho : ops[j]? = some o) (r : Option Nat) (ρ : Operand → Value) : Oper.semAt r ρ o = execOp ρ o := by
  refine Oper.semAt_eq r ρ o fun c hc => ?_
  have := Array.all_eq_true_iff_forall_mem.1 h o (Array.mem_of_getElem? ho)
  simp [hc] at this

/-! ### 3. The plan -/
theorem sr_load (a : Addr) : SR (load a) := fun P w w1 v e => by
  unfold load at e
  simp only [Sem.run] at e
  split at e
  · simp at e; exact e.2.symm
  · split at e
    · simp at e; exact e.2.symm
    · cases e
theorem sr_loadCellsFrom (a : Addr) : ∀ (n i : Nat) (acc : Array Value), SR (loadCellsFrom a i n acc)
  | 0, i, acc => (SQ.pure _).sr
  | n + 1, i, acc => by
    unfold loadCellsFrom
    exact (sr_load _).bind fun _ => sr_loadCellsFrom a n _ _
theorem sr_loadAt (t : TypeId) (x : Value) : SR (Instr.loadAt t x) := by
  unfold Instr.loadAt
  refine (sq_sureAddr x).sr.bind fun a => ?_
  unfold loadVar
  refine (sq_isAgg t).sr.bind fun b => ?_
  split
  · exact (sq_sizeOf t).sr.bind fun _ => (sr_loadCellsFrom _ _ _ _).bind fun _ => (SQ.pure _).sr
  · exact sr_load _
/-- The cells that a load reads are there, and are what they were. -/
def CellsKept (P : Program) (t : TypeId) (x : Value) (w w' : World) : Prop :=
  match x with
  | .pointer (some ad) => ∀ i, P.info? t = some i → ∀ k, k < max 1 i.size → ∃ u, w.cell? (ad.add k) = some u ∧ w'.cell? (ad.add k) = some u
  | _ => True
theorem load_kept {P : Program} {a : Addr} {u : Value} {w : World} (h : w.cell? a = some u) : (load a).run P w = .ok u w := by simp [load, Sem.run, h]
theorem loadCells_kept {P : Program} {a : Addr} {w w' : World} : ∀ (n i : Nat) (acc : Array Value) (r : Array Value) (w1 : World),
    (∀ k, i ≤ k → k < i + n → ∃ u, w.cell? (a.add k) = some u ∧ w'.cell? (a.add k) = some u) → (loadCellsFrom a i n acc).run P w = .ok r w1 → (loadCellsFrom a i n acc).run P w' = .ok r w'
  | 0, i, acc, r, w1, _, e => by simp [loadCellsFrom] at e ⊢; exact e.1
  | n + 1, i, acc, r, w1, h, e => by
    obtain ⟨u, h1, h2⟩ := h i (Nat.le_refl _) (by omega)
    unfold loadCellsFrom at e ⊢
    rw [Sem.run_bind, load_kept h1] at e
    rw [Sem.run_bind, load_kept h2]
    exact loadCells_kept n (i + 1) _ r w1 (fun k hk hk' => h k (by omega) (by omega)) e
theorem loadAt_kept {P : Program} {t : TypeId} {x v : Value} {w w1 w' : World} (h : CellsKept P t x w w') (e : (Instr.loadAt t x).run P w = .ok v w1) : (Instr.loadAt t x).run P w' = .ok v w' := by
  unfold Instr.loadAt at e ⊢
  rw [Sem.run_bind] at e ⊢
  cases x with
  | pointer r =>
    cases r with
    | none => simp [Instr.sureAddr, stuck, Sem.run] at e
    | some ad =>
      simp only [Instr.sureAddr, Sem.run_pure, Result.andThen_ok] at e ⊢
      unfold loadVar at e ⊢
      obtain ⟨b, w2, e1, e2⟩ := bind_ok e
      obtain ⟨rfl, e1'⟩ := sq_isAgg t P w w2 b e1
      rw [Sem.run_bind, e1' w']
      cases b with
      | true =>
        simp only [if_true, Result.andThen_ok] at e2 ⊢
        obtain ⟨n, w3, e3, e4⟩ := bind_ok e2
        obtain ⟨rfl, e3'⟩ := sq_sizeOf t P _ w3 n e3
        rw [Sem.run_bind, e3' w']
        simp only [Result.andThen_ok]
        obtain ⟨cs, w4, e5, e6⟩ := bind_ok e4
        have hn : ∃ i, P.info? t = some i ∧ i.size = n := by
          unfold sizeOf typeInfo at e3
          cases hi : P.info? t with
          | none => simp [Sem.run_bind, program, Sem.run, hi, stuck] at e3
          | some i => simp [Sem.run_bind, program, Sem.run, hi] at e3; exact ⟨i, rfl, e3⟩
        obtain ⟨i, hi, rfl⟩ := hn
        have := loadCells_kept (w' := w') i.size 0 #[] cs w4 (fun k _ hk => h i hi k (by omega)) e5
        rw [Sem.run_bind]
        unfold loadCells
        rw [this]
        simp at e6 ⊢
        exact e6.1
      | false =>
        simp only [Bool.false_eq_true, if_false, Result.andThen_ok] at e2 ⊢
        have hi : ∃ i, P.info? t = some i := by
          cases hi : P.info? t with
          | some i => exact ⟨i, rfl⟩
          | none =>
            have : P.underlying t = none := by unfold Program.underlying; rw [hi]
            simp [isAgg, underlying, Sem.run_bind, program, Sem.run, this, stuck] at e1
        obtain ⟨i, hi⟩ := hi
        obtain ⟨u, h1, h2⟩ := h i hi 0 (by omega)
        have ha : ad.add 0 = ad := by simp [Addr.add]
        rw [ha] at h1 h2
        rw [load_kept h1] at e2
        rw [load_kept h2]
        simp at e2 ⊢
        exact e2.1
  | _ => simp [Instr.sureAddr, stuck, Sem.run] at e

section
variable {P : Program} {ro : Option Nat} {ops : Array Oper} {Q : Exit → Act → World → Prop}
def YW (P : Program) (ops : Array Oper) (o : Oper) (v : Value) (a : Act) (w : World) : Prop :=
  (Region.wanted o (yielded ops a.tmps) = true ∧ (execOp a.eval o).run P w = .ok (.value v) w) ∨ (Region.wanted o (yielded ops a.tmps) = false ∧ v = undef)
theorem YW.of_yields {o : Oper} {v : Value} {a : Act} (h : Yields P ops o v a) (w : World) : YW P ops o v a w := h.imp (fun ⟨x, y⟩ => ⟨x, y w⟩) id
theorem YW.same {o : Oper} {v : Value} {a a' : Act} {w : World} (h : YW P ops o v a w) (he : execOp a'.eval o = execOp a.eval o)
    (hw : Region.wanted o (yielded ops a'.tmps) = Region.wanted o (yielded ops a.tmps)) : YW P ops o v a' w := by
  unfold YW at *; rw [he, hw]; exact h
theorem YW.wpOp (hnd : noDefer ops = true) {i : Nat} {o : Oper} {v : Value} {a : Act} {w : World} (hi : ops[i]? = some o) (hy : YW P ops o v a w) {K : Act → World → Prop} (h : K (a.put o.dst v) w) : wpOpIn (FW ro) 0 P ops Q i K a w := by
  unfold wpOpIn
  simp only [hi]
  rcases hy with ⟨hw, hv⟩ | ⟨hw, rfl⟩
  · simp only [hw, if_true]
    unfold Oper.wpIn
    rw [noDefer_spec hnd hi, hv]
    exact ⟨fun _ _ => trivial, h⟩
  · simp only [hw, Bool.false_eq_true, if_false]; exact ⟨fun _ _ => trivial, h⟩
/-- What a load that was carried out early reads, it reads later. -/
def Held1 (P : Program) (ops : Array Oper) (i : Nat) (a : Act) (w w' : World) : Prop := match ops[i]? with
  | some o => match o.op with
    | .load t x => Region.wanted o (yielded ops a.tmps) = true → CellsKept P t (a.eval x) w w'
    | _ => True
  | none => True
def Held (P : Program) (ops : Array Oper) : List Nat → Act → World → World → Prop
  | [], _, _, _ => True
  | [i], a, w, w' => Held1 P ops i a w w'
  | i :: l, a, w, w' => Held1 P ops i a w w' ∧ Held P ops l a w w'
theorem Held.mem {a : Act} {w w' : World} : ∀ {l : List Nat}, Held P ops l a w w' → ∀ i ∈ l, Held1 P ops i a w w'
  | [], _, _, h => by cases h
  | [i], h, j, hj => by simp at hj; subst hj; exact h
  | i :: k :: l, h, j, hj => by
    rcases List.mem_cons.1 hj with rfl | hj
    · exact h.1
    · exact Held.mem (l := k :: l) h.2 j hj
def wpPlan (ro : Option Nat) (P : Program) (ops : Array Oper) (Q : Exit → Act → World → Prop) : List (Nat × Option (List Nat)) → Act → World → Prop
  | [], a, w => Q .normal a w
  | (i, none) :: rest, a, w => ∃ o v, ops[i]? = some o ∧ YW P ops o v a w ∧ (isL o = true ∨ Yields P ops o v a) ∧ wpPlan ro P ops Q rest (a.put o.dst v) w
  | (j, some keep) :: rest, a, w => wpOpIn (FW ro) 0 P ops Q j (fun a' w' => Held P ops keep a w w' ∧ wpPlan ro P ops Q rest a' w') a w

def depsOf (o : Oper) : List Nat := o.after.toList.filterMap fun e => if Region.binds .any e then some e.on else none
def deps (ops : Array Oper) (j : Nat) : List Nat := match ops[j]? with
  | some o => depsOf o
  | none => []
theorem mem_deps {ops : Array Oper} {j : Nat} {o : Oper} (ho : ops[j]? = some o) {d : Nat} : d ∈ deps ops j ↔ ∃ e ∈ o.after, Region.binds .any e = true ∧ e.on = d := by
  unfold deps
  rw [ho]
  simp only [depsOf, List.mem_filterMap, Array.mem_toList_iff]
  constructor
  · rintro ⟨e, he, h⟩
    split at h
    · rename_i hb; simp at h; exact ⟨e, he, hb, h⟩
    · cases h
  · rintro ⟨e, he, hb, rfl⟩
    exact ⟨e, he, by simp [hb]⟩
theorem ready_iff {lr : Array Bool} {j : Nat} : j ∈ Region.ready .any ops lr ↔ lr.getD j true = false ∧ j < ops.size ∧ ∀ d ∈ deps ops j, lr.getD d false = true := by
  rw [mem_ready]
  constructor
  · rintro ⟨h0, o, ho, h⟩
    refine ⟨h0, (Array.getElem?_eq_some_iff.1 ho).1, fun d hd => ?_⟩
    obtain ⟨e, he, hb, rfl⟩ := (mem_deps ho).1 hd
    exact h e he hb
  · rintro ⟨h0, hlt, h⟩
    exact ⟨h0, ops[j], Array.getElem?_eq_some_iff.2 ⟨hlt, rfl⟩, fun e he hb => h _ ((mem_deps (Array.getElem?_eq_some_iff.2 ⟨hlt, rfl⟩)).2 ⟨e, he, hb, rfl⟩)⟩

/-- The table of what must come before: each row is met by a dependence of its own, or by a dependence's row. -/
def tabOk (ops : Array Oper) (A : List (List Nat)) : Bool := (List.range ops.size).all fun j => (deps ops j).all (· < j) && (A.getD j []).all fun i => (deps ops j).any fun d => d == i || (A.getD d []).contains i
theorem anc_in {A : List (List Nat)} (hA : tabOk ops A = true) (S : Nat → Prop) (hcl : ∀ j, S j → ∀ d ∈ deps ops j, S d) : ∀ n j, j < n → j < ops.size → (∀ d ∈ deps ops j, S d) → ∀ i ∈ A.getD j [], S i := by
  intro n
  induction n with
  | zero => intro j hj; omega
  | succ n ih =>
    intro j hj hlt hd i hi
    have h := List.all_eq_true.1 hA j (List.mem_range.2 hlt)
    simp only [Bool.and_eq_true, List.all_eq_true, decide_eq_true_eq] at h
    obtain ⟨d, hdm, hor⟩ := List.any_eq_true.1 (h.2 i hi)
    have hdj := h.1 d hdm
    simp only [Bool.or_eq_true, beq_iff_eq, List.contains_iff_mem] at hor
    rcases hor with rfl | hor
    · exact hd _ hdm
    · exact ih d (by omega) (by omega) (hcl d (hd d hdm)) i hor
/-- Two that needn't wait for each other don't touch each other's temporaries. -/
def apartOk (ops : Array Oper) (A : List (List Nat)) : Bool := (List.range ops.size).all fun i => (List.range i).all fun j => (A.getD i []).contains j || match ops[i]?, ops[j]? with
  | some x, some y => x.apart ops y
  | _, _ => true
theorem apart_symm {x y : Oper} (h : x.apart ops y = true) : y.apart ops x = true := by
  obtain ⟨h1, h2, h3⟩ := Oper.apart_spec h
  unfold Oper.apart
  cases hx : x.dst <;> cases hy : y.dst <;> simp
  · rename_i d; exact h3 d hy
  · rename_i d; exact h1 d hx
  · rename_i d e
    refine ⟨⟨h3 e hy, fun he => h2 d hx (by rw [hy, he])⟩, h1 d hx⟩
theorem apart_of {A : List (List Nat)} (hA : apartOk ops A = true) {i j : Nat} {x y : Oper} (hi : ops[i]? = some x) (hj : ops[j]? = some y) (hne : i ≠ j)
    (h1 : j ∉ A.getD i []) (h2 : i ∉ A.getD j []) : x.apart ops y = true := by
  have hi' := (Array.getElem?_eq_some_iff.1 hi).1
  have hj' := (Array.getElem?_eq_some_iff.1 hj).1
  rcases Nat.lt_or_gt_of_ne hne with h | h
  · have := List.all_eq_true.1 (List.all_eq_true.1 hA j (List.mem_range.2 hj')) i (List.mem_range.2 h)
    simp only [hi, hj, Bool.or_eq_true, List.contains_iff_mem] at this
    exact apart_symm (this.resolve_left h2)
  · have := List.all_eq_true.1 (List.all_eq_true.1 hA i (List.mem_range.2 hi')) j (List.mem_range.2 h)
    simp only [hi, hj, Bool.or_eq_true, List.contains_iff_mem] at this
    exact this.resolve_left h1
/-- What a load looks at is written by what must come before it alone. -/
def loadsOk (ops : Array Oper) (A : List (List Nat)) : Bool := (List.range ops.size).all fun i => match ops[i]? with
  | some o => !isL o || (List.range ops.size).all fun u => match ops[u]? with
    | some p => match p.dst with
      | some d => !(o.looksAt ops).contains d || (A.getD i []).contains u
      | none => true
    | none => true
  | none => true
theorem loads_of {A : List (List Nat)} (hA : loadsOk ops A = true) {i u : Nat} {o p : Oper} (hi : ops[i]? = some o) (hu : ops[u]? = some p) (hL : isL o = true) (h : u ∉ A.getD i []) :
    ∀ d, p.dst = some d → d ∉ o.looksAt ops := by
  intro d hd hm
  have hi' := (Array.getElem?_eq_some_iff.1 hi).1
  have hu' := (Array.getElem?_eq_some_iff.1 hu).1
  have := List.all_eq_true.1 hA i (List.mem_range.2 hi')
  simp only [hi, hL, Bool.not_true, Bool.false_or] at this
  have := List.all_eq_true.1 this u (List.mem_range.2 hu')
  simp only [hu, hd, Bool.or_eq_true, Bool.not_eq_true', List.contains_iff_mem] at this
  rcases this with h' | h'
  · have := List.contains_iff_mem.2 hm
    rw [this] at h'; cases h'
  · exact h h'
def chk (ops : Array Oper) (A : List (List Nat)) : List Nat → List (Nat × Option (List Nat)) → Bool
  | done, [] => (List.range ops.size).all done.contains
  | done, (i, none) :: r => decide (i < ops.size) && !done.contains i && (deps ops i).all done.contains && chk ops A (i :: done) r
  | done, (j, some keep) :: r => decide (j < ops.size) && !done.contains j && (deps ops j).all done.contains &&
      ((List.range ops.size).all fun i => i == j || done.contains i || !(deps ops i).all done.contains) &&
      (done.all fun i => (A.getD j []).contains i || keep.contains i || match ops[i]? with | some o => !isL o | none => true) && chk ops A (j :: done) r
end

/-! ### 4. What was carried out early -/
section
variable {P : Program} {ro : Option Nat} {ops : Array Oper} {Q : Exit → Act → World → Prop}
def putAll (ops : Array Oper) (a : Act) (V : List (Nat × Value)) : Act := V.foldl (fun a p => a.put ((ops[p.1]?).bind (·.dst)) p.2) a
theorem putAll_append (a : Act) (V U : List (Nat × Value)) : putAll ops a (V ++ U) = putAll ops (putAll ops a V) U := by simp [putAll, List.foldl_append]
theorem putAll_cons (a : Act) (p : Nat × Value) (U : List (Nat × Value)) : putAll ops a (p :: U) = putAll ops (a.put ((ops[p.1]?).bind (·.dst)) p.2) U := rfl
/-- V's operations and one more are apart. -/
def ApartAll (ops : Array Oper) (V : List (Nat × Value)) (y : Oper) : Prop := ∀ p ∈ V, ∃ x, ops[p.1]? = some x ∧ x.apart ops y = true
theorem put_putAll {y : Oper} (v : Value) : ∀ (V : List (Nat × Value)) (a : Act), ApartAll ops V y → putAll ops (a.put y.dst v) V = (putAll ops a V).put y.dst v
  | [], a, _ => rfl
  | p :: V, a, h => by
    obtain ⟨x, hx, hap⟩ := h p (List.mem_cons_self ..)
    obtain ⟨_, h2, _⟩ := Oper.apart_spec hap
    rw [putAll_cons, putAll_cons, hx]
    simp only [Option.bind_some]
    rw [← put_putAll v V _ (fun q hq => h q (List.mem_cons_of_mem _ hq))]
    rw [Act.put_comm a v p.2 (fun d hd hxd => h2 d hxd hd)]
theorem exec_putAll (hsel : Region.noSelect ops = true) {j : Nat} {y : Oper} (hj : ops[j]? = some y) : ∀ (V : List (Nat × Value)) (a : Act), ApartAll ops V y →
    execOp (putAll ops a V).eval y = execOp a.eval y ∧ Region.wanted y (yielded ops (putAll ops a V).tmps) = Region.wanted y (yielded ops a.tmps)
  | [], a, _ => ⟨rfl, rfl⟩
  | p :: V, a, h => by
    obtain ⟨x, hx, hap⟩ := h p (List.mem_cons_self ..)
    obtain ⟨h1, _, _⟩ := Oper.apart_spec hap
    have ih := exec_putAll hsel hj V (a.put x.dst p.2) (fun q hq => h q (List.mem_cons_of_mem _ hq))
    rw [putAll_cons, hx]
    simp only [Option.bind_some]
    rw [ih.1, ih.2]
    exact ⟨execOp_put y (fun cs b => Region.noSelect_spec hsel j y cs b hj) a x.dst p.2 h1, wanted_put y a x.dst p.2 h1⟩
/-- Behind an operation: a value more, maybe a deferred call more. -/
def Went (y : Oper) (a a' : Act) : Prop := ∃ x ds, a' = ({ a with defers := ds } : Act).put y.dst x
theorem defers_putAll (ds : List Deferred) : ∀ (V : List (Nat × Value)) (a : Act), putAll ops { a with defers := ds } V = { putAll ops a V with defers := ds }
  | [], a => rfl
  | p :: V, a => by
    rw [putAll_cons, putAll_cons, ← defers_putAll ds V]
    congr 1
    cases (ops[p.1]?).bind (·.dst) <;> rfl
theorem Went.putAll {y : Oper} {a a' : Act} (h : Went y a a') {V : List (Nat × Value)} (hV : ApartAll ops V y) : Went y (Plan.putAll ops a V) (Plan.putAll ops a' V) := by
  obtain ⟨x, ds, rfl⟩ := h
  exact ⟨x, ds, by rw [put_putAll x V _ hV, defers_putAll]⟩
theorem Went.exec (hsel : Region.noSelect ops = true) {y : Oper} {a a' : Act} (h : Went y a a') {i : Nat} {o : Oper} (hi : ops[i]? = some o) (hap : y.apart ops o = true) :
    execOp a'.eval o = execOp a.eval o ∧ Region.wanted o (yielded ops a'.tmps) = Region.wanted o (yielded ops a.tmps) := by
  obtain ⟨x, ds, rfl⟩ := h
  obtain ⟨h1, _, _⟩ := Oper.apart_spec hap
  rw [execOp_put o (fun cs b => Region.noSelect_spec hsel i o cs b hi) _ y.dst x h1, wanted_put o _ y.dst x h1]
  exact ⟨rfl, rfl⟩
/-- One operation behind what was put early. -/
theorem wpOp_went (hnd : noDefer ops = true) (hsel : Region.noSelect ops = true) (hQ : ∀ c a t w, Q (.panic c) { a with tmps := t } w → Q (.panic c) a w) {j : Nat} {y : Oper} (hj : ops[j]? = some y) {K : Act → World → Prop} {w : World} :
    ∀ (V : List (Nat × Value)) (a : Act), ApartAll ops V y → wpOpIn (FW ro) 0 P ops Q j K (putAll ops a V) w → wpOpIn (FW ro) 0 P ops Q j (fun a' w' => Went y a a' ∧ K (putAll ops a' V) w') a w
  | V, a, hV, h => by
    obtain ⟨he, hw⟩ := exec_putAll hsel hj V a hV
    have hQ' : ∀ c w', Q (.panic c) (putAll ops a V) w' → Q (.panic c) a w' := by
      intro c w' hq
      have : putAll ops a V = { a with tmps := (putAll ops a V).tmps } := by
        have := defers_putAll (ops := ops) a.defers V a
        show _ = Act.mk _ _
        rw [show ({ a with defers := a.defers } : Act) = a from rfl] at this
        rw [this]
      rw [this] at hq
      exact hQ c a _ w' hq
    unfold wpOpIn at *
    have hj' := hj
    simp only [hj] at h ⊢
    rw [hw] at h
    split
    · rename_i hwt
      simp only [hwt, if_true] at h
      unfold Oper.wpIn at *
      refine ⟨fun _ _ => trivial, ?_⟩
      have h := h.2
      rw [noDefer_spec hnd hj] at h ⊢
      rw [he] at h
      generalize (execOp a.eval y).run P w = rs at *
      cases rs with
      | ok n w' =>
        cases n <;> simp only [Oper.uponIn] at h ⊢
        case value u => exact ⟨⟨u, a.defers, rfl⟩, by rw [put_putAll u V a hV]; exact h⟩
        case skip => exact ⟨⟨undef, a.defers, rfl⟩, by rw [put_putAll undef V a hV]; exact h⟩
        case defer d =>
          refine ⟨⟨undef, d :: a.defers, rfl⟩, ?_⟩
          have hd : (putAll ops a V).defers = a.defers := by
            have := defers_putAll (ops := ops) a.defers V a
            rw [show ({ a with defers := a.defers } : Act) = a from rfl] at this
            rw [this]
          rw [put_putAll undef V _ hV, defers_putAll]
          rw [hd] at h
          exact h
        case enter f args =>
          refine ⟨h.1, CallsIn.mono h.2 fun e w'' hh => ?_⟩
          cases e with
          | returned u => exact ⟨⟨u, a.defers, rfl⟩, by rw [put_putAll u V a hV]; exact hh⟩
          | panicked c => exact hQ' _ _ hh
          | outgrown => exact hh
        case row row args => exact ⟨h.1, RowsIn.mono h.2 fun u w'' hh => ⟨⟨u, a.defers, rfl⟩, by rw [put_putAll u V a hV]; exact hh⟩⟩
        case round l f tmps assign body =>
          refine ⟨h.1, RoundIn.mono h.2 fun e w'' hh => ?_⟩
          cases e with
          | returned u => exact ⟨⟨u, a.defers, rfl⟩, by rw [put_putAll u V a hV]; exact hh⟩
          | panicked c => exact hQ' _ _ hh
          | outgrown => exact hh
      | halt x w' =>
        cases x <;> simp only [Oper.uponIn] at h ⊢
        case panic u => exact hQ' _ _ h
    · rename_i hwt
      simp only [hwt] at h
      exact ⟨fun _ _ => trivial, ⟨undef, a.defers, rfl⟩, by rw [put_putAll undef V a hV]; exact h.2⟩

/-! ### 5. The theorem -/
structure Inv (P : Program) (ops : Array Oper) (lr : Array Bool) (V : List (Nat × Value)) (done : List Nat) (a : Act) (w : World) : Prop where
  size : lr.size = ops.size
  closed : ∀ j, lr.getD j false = true → ∀ d ∈ deps ops j, lr.getD d false = true
  mem : ∀ i, i ∈ done ↔ lr.getD i false = true ∨ i ∈ V.map Prod.fst
  fresh : ∀ i ∈ V.map Prod.fst, lr.getD i true = false
  nodup : (V.map Prod.fst).Nodup
  yields : ∀ V1 i v V2, V = V1 ++ (i, v) :: V2 → (∃ o, ops[i]? = some o ∧ YW P ops o v (putAll ops a V1) w ∧ (isL o = true ∨ Yields P ops o v (putAll ops a V1))) ∧ (∀ d ∈ deps ops i, lr.getD d false = true ∨ d ∈ V1.map Prod.fst)
theorem getD_true_false {lr : Array Bool} {i : Nat} (h : lr.getD i true = false) : lr.getD i false = false := by
  rcases Nat.lt_or_ge i lr.size with h' | h'
  · simp [h'] at h ⊢; exact h
  · simp [Array.getElem?_eq_none h'] at h
theorem getD_false_true {lr : Array Bool} {i : Nat} (hi : i < lr.size) (h : lr.getD i false = false) : lr.getD i true = false := by
  simp [hi] at h ⊢; exact h
def left (lr : Array Bool) : Nat := ((List.range lr.size).filter fun i => !lr.getD i true).length
theorem filter_lt {p q : Nat → Bool} {x : Nat} (hpq : ∀ i, q i = true → p i = true) (hx : p x = true) (hq : q x = false) : ∀ l : List Nat, x ∈ l → (l.filter q).length < (l.filter p).length
  | [], h => by cases h
  | y :: l, h => by
    have hle : ∀ l : List Nat, (l.filter q).length ≤ (l.filter p).length := by
      intro l
      induction l with
      | nil => simp
      | cons z l ih =>
        simp only [List.filter_cons]
        cases hz : q z with
        | true => simp [hpq z hz, ih]
        | false => cases hz' : p z <;> simp <;> omega
    simp only [List.filter_cons]
    rcases List.mem_cons.1 h with rfl | h
    · simp [hx, hq]; have := hle l; omega
    · have := filter_lt hpq hx hq l h
      cases hz : q y with
      | true => simp [hpq y hz, this]
      | false => cases hz' : p y <;> simp <;> omega
theorem left_set {lr : Array Bool} {i : Nat} (hi : i < lr.size) (h : lr.getD i true = false) : left (lr.setIfInBounds i true) < left lr := by
  unfold left
  rw [Array.size_setIfInBounds]
  refine filter_lt (x := i) (fun k hk => ?_) (by rw [h]; rfl) (by simp [hi]) _ (List.mem_range.2 hi)
  by_cases hki : i = k
  · subst hki; rw [h]; rfl
  · rw [getD_set_ne true hki] at hk; exact hk
variable {A : List (List Nat)}
theorem Inv.anc_lr {lr : Array Bool} {V : List (Nat × Value)} {done : List Nat} {a : Act} {w : World} (hT : tabOk ops A = true) (h : Inv P ops lr V done a w) {j : Nat} (hlt : j < ops.size) (hd : ∀ d ∈ deps ops j, lr.getD d false = true) :
    ∀ i ∈ A.getD j [], lr.getD i false = true :=
  anc_in hT (fun i => lr.getD i false = true) h.closed (j + 1) j (by omega) hlt hd
theorem mem_split {V : List (Nat × Value)} {i : Nat} (h : i ∈ V.map Prod.fst) : ∃ V1 v V2, V = V1 ++ (i, v) :: V2 := by
  obtain ⟨⟨k, v⟩, hm, rfl⟩ := List.mem_map.1 h
  obtain ⟨V1, V2, rfl⟩ := List.append_of_mem hm
  exact ⟨V1, v, V2, rfl⟩
/-- What comes before an early one lies among those that are listed and those that were early before it. -/
theorem Inv.anc_early {lr : Array Bool} {V : List (Nat × Value)} {done : List Nat} {a : Act} {w : World} (hT : tabOk ops A = true) (h : Inv P ops lr V done a w) {V1 V2 : List (Nat × Value)} {i : Nat} {v : Value} (hV : V = V1 ++ (i, v) :: V2) :
    ∀ k ∈ A.getD i [], lr.getD k false = true ∨ k ∈ V1.map Prod.fst := by
  obtain ⟨⟨o, ho, _⟩, hd⟩ := h.yields V1 i v V2 hV
  refine anc_in hT (fun k => lr.getD k false = true ∨ k ∈ V1.map Prod.fst) ?_ (i + 1) i (by omega) (Array.getElem?_eq_some_iff.1 ho).1 hd
  rintro k (hk | hk) d hd'
  · exact .inl (h.closed k hk d hd')
  · obtain ⟨U1, u, U2, rfl⟩ := mem_split hk
    have := (h.yields U1 k u (U2 ++ (i, v) :: V2) (by rw [hV]; simp)).2 d hd'
    rcases this with h' | h'
    · exact .inl h'
    · exact .inr (by simp only [List.map_append, List.mem_append]; exact .inl h')
theorem nodup_split {V1 V2 : List (Nat × Value)} {i : Nat} {v : Value} (h : ((V1 ++ (i, v) :: V2).map Prod.fst).Nodup) : i ∉ V1.map Prod.fst ∧ i ∉ V2.map Prod.fst ∧ ((V1 ++ V2).map Prod.fst).Nodup := by
  simp only [List.map_append, List.map_cons] at h ⊢
  have h' := List.nodup_append.1 h
  obtain ⟨h1, h2, h3⟩ := h'
  have h2' := List.nodup_cons.1 h2
  refine ⟨fun hm => h3 i hm i (List.mem_cons_self ..) rfl, h2'.1, List.nodup_append.2 ⟨h1, h2'.2, fun x hx y hy => h3 x hx y (List.mem_cons_of_mem _ hy)⟩⟩

theorem list_set {lr : Array Bool} {i : Nat} (hi : i < lr.size) (k : Nat) : (lr.setIfInBounds i true).getD k false = true ↔ lr.getD k false = true ∨ k = i := by
  by_cases hki : i = k
  · subst hki; simp [hi]
  · rw [getD_set_ne false hki]; simp [Ne.symm hki]
/-- One that was early comes up. -/
theorem Inv.early (hsel : Region.noSelect ops = true) (hT : tabOk ops A = true) (hap : apartOk ops A = true) {lr : Array Bool} {V1 V2 : List (Nat × Value)} {i : Nat} {v : Value} {done : List Nat} {a : Act} {w : World}
    (h : Inv P ops lr (V1 ++ (i, v) :: V2) done a w) (hd : ∀ d ∈ deps ops i, lr.getD d false = true) :
    ∃ o, ops[i]? = some o ∧ YW P ops o v a w ∧ Inv P ops (lr.setIfInBounds i true) (V1 ++ V2) done (a.put o.dst v) w ∧ putAll ops (a.put o.dst v) (V1 ++ V2) = putAll ops a (V1 ++ (i, v) :: V2) := by
  obtain ⟨⟨o, ho, hy, hk⟩, hdeps⟩ := h.yields V1 i v V2 rfl
  have hlt := (Array.getElem?_eq_some_iff.1 ho).1
  have hls : i < lr.size := by rw [h.size]; exact hlt
  obtain ⟨hn1, hn2, hnd⟩ := nodup_split h.nodup
  have hanc := h.anc_lr hT hlt hd
  have hfr : lr.getD i false = false := getD_true_false (h.fresh i (by simp))
  -- those ahead of it are apart from it
  have hV1 : ApartAll ops V1 o := by
    intro p hp
    obtain ⟨U1, u, U2, hU⟩ := mem_split (V := V1) (i := p.1) (List.mem_map.2 ⟨p, hp, rfl⟩)
    have hsp : V1 ++ (i, v) :: V2 = U1 ++ (p.1, u) :: (U2 ++ (i, v) :: V2) := by rw [hU]; simp
    obtain ⟨⟨x, hx, _⟩, _⟩ := h.yields U1 p.1 u _ hsp
    refine ⟨x, hx, apart_of hap hx ho (fun e => hn1 (e ▸ List.mem_map.2 ⟨p, hp, rfl⟩)) ?_ ?_⟩
    · intro hm
      rcases h.anc_early hT hsp i hm with h' | h'
      · rw [hfr] at h'; cases h'
      · exact hn1 (by rw [hU]; simp only [List.map_append, List.mem_append]; exact .inl h')
    · intro hm
      have h1 := hanc p.1 hm
      have h2 := getD_true_false (h.fresh p.1 (by simp; exact .inl ⟨p.2, hp⟩))
      rw [h1] at h2; cases h2
  have hex := exec_putAll hsel ho V1 a hV1
  have hput : ∀ U, putAll ops (a.put o.dst v) (V1 ++ U) = putAll ops a (V1 ++ (i, v) :: U) := by
    intro U
    rw [putAll_append, putAll_append, putAll_cons, put_putAll v V1 a hV1, ho]
    rfl
  refine ⟨o, ho, hy.same hex.1.symm hex.2.symm, ?_, hput V2⟩
  refine ⟨by rw [Array.size_setIfInBounds]; exact h.size, ?_, ?_, ?_, hnd, ?_⟩
  · intro j hj d hdj
    rw [list_set hls] at hj ⊢
    rcases hj with hj | rfl
    · exact .inl (h.closed j hj d hdj)
    · exact .inl (hd d hdj)
  · intro k
    rw [list_set hls, h.mem k]
    simp only [List.map_append, List.map_cons, List.mem_append, List.mem_cons]
    constructor
    · rintro (h' | h' | h' | h')
      · exact .inl (.inl h')
      · exact .inr (.inl h')
      · exact .inl (.inr h')
      · exact .inr (.inr h')
    · rintro ((h' | h') | h' | h')
      · exact .inl h'
      · exact .inr (.inr (.inl h'))
      · exact .inr (.inl h')
      · exact .inr (.inr (.inr h'))
  · intro k hk
    have hne : i ≠ k := by
      rintro rfl
      simp only [List.map_append, List.mem_append] at hk
      exact hk.elim hn1 hn2
    rw [getD_set_ne true hne]
    refine h.fresh k ?_
    simp only [List.map_append, List.map_cons, List.mem_append, List.mem_cons] at hk ⊢
    exact hk.imp id .inr
  · intro U1 k u U2 hU
    -- where in V1 ++ V2 it stands
    rcases List.append_eq_append_iff.1 hU with ⟨W1, h1, h2⟩ | ⟨W1, h1, h2⟩
    · -- U1 = V1 ++ W1, V2 = W1 ++ (k, u) :: U2
      subst h1
      have hsp : V1 ++ (i, v) :: V2 = (V1 ++ (i, v) :: W1) ++ (k, u) :: U2 := by rw [h2]; simp
      obtain ⟨hx, hdk⟩ := h.yields _ k u U2 hsp
      rw [hput W1]
      refine ⟨hx, fun d hdm => ?_⟩
      rw [list_set hls]
      rcases hdk d hdm with h' | h'
      · exact .inl (.inl h')
      · simp only [List.map_append, List.map_cons, List.mem_append, List.mem_cons] at h' ⊢
        rcases h' with h' | h' | h'
        · exact .inr (.inl h')
        · exact .inl (.inr h')
        · exact .inr (.inr h')
    · cases W1 with
      | nil =>
        simp only [List.nil_append, List.append_nil] at h1 h2
        subst h1
        have hsp : V1 ++ (i, v) :: V2 = (V1 ++ [(i, v)]) ++ (k, u) :: U2 := by rw [h2]; simp
        obtain ⟨hx, hdk⟩ := h.yields _ k u U2 hsp
        have := hput []
        rw [List.append_nil] at this
        rw [this]
        refine ⟨hx, fun d hdm => ?_⟩
        rw [list_set hls]
        rcases hdk d hdm with h' | h'
        · exact .inl (.inl h')
        · simp only [List.map_append, List.map_cons, List.map_nil, List.mem_append, List.mem_cons, List.not_mem_nil, or_false] at h' ⊢
          rcases h' with h' | h'
          · exact .inr h'
          · exact .inl (.inr h')
      | cons q W1 =>
        simp only [List.cons_append, List.cons.injEq] at h2
        obtain ⟨rfl, h2⟩ := h2
        have hsp : V1 ++ (i, v) :: V2 = U1 ++ (k, u) :: (W1 ++ (i, v) :: V2) := by rw [h1]; simp
        obtain ⟨⟨x, hx, hyx, hkx⟩, hdk⟩ := h.yields U1 k u _ hsp
        have hkV : k ∈ V1.map Prod.fst := by rw [h1]; simp
        have hU1 : ApartAll ops U1 o := fun p hp => hV1 p (by rw [h1]; simp [hp])
        have hxo : x.apart ops o = true := by
          obtain ⟨x', hx', hap'⟩ := hV1 (k, u) (by rw [h1]; simp)
          rw [hx] at hx'; injection hx' with hx'; subst hx'; exact hap'
        have hw : Went o (putAll ops a U1) (putAll ops (a.put o.dst v) U1) := Went.putAll ⟨v, a.defers, rfl⟩ hU1
        have hwe := hw.exec hsel hx (apart_symm hxo)
        refine ⟨⟨x, hx, hyx.same hwe.1 hwe.2, hkx.imp id fun hy' => hy'.of_same hwe.1 hwe.2⟩, fun d hdm => ?_⟩
        rw [list_set hls]
        exact (hdk d hdm).imp .inl id
/-- What only computes or reads is carried out early. -/
theorem Inv.push {lr : Array Bool} {V : List (Nat × Value)} {i : Nat} {v : Value} {o : Oper} {done : List Nat} {a : Act} {w : World} (h : Inv P ops lr V done a w) (ho : ops[i]? = some o) (hn : i ∉ done) (hd : ∀ d ∈ deps ops i, d ∈ done)
    (hy : YW P ops o v (putAll ops a V) w) (hk : isL o = true ∨ Yields P ops o v (putAll ops a V)) : Inv P ops lr (V ++ [(i, v)]) (i :: done) a w := by
  have hlt := (Array.getElem?_eq_some_iff.1 ho).1
  have hno := fun h' => hn ((h.mem i).2 h')
  refine ⟨h.size, h.closed, ?_, ?_, ?_, ?_⟩
  · intro k
    simp only [List.mem_cons, h.mem k, List.map_append, List.map_cons, List.map_nil, List.mem_append, List.not_mem_nil, or_false]
    constructor
    · rintro (h' | h' | h')
      · exact .inr (.inr h')
      · exact .inl h'
      · exact .inr (.inl h')
    · rintro (h' | h' | h')
      · exact .inr (.inl h')
      · exact .inr (.inr h')
      · exact .inl h'
  · intro k hk'
    simp only [List.map_append, List.map_cons, List.map_nil, List.mem_append, List.mem_cons, List.not_mem_nil, or_false] at hk'
    rcases hk' with hk' | rfl
    · exact h.fresh k hk'
    · refine getD_false_true (by rw [h.size]; exact hlt) ?_
      cases hc : lr.getD k false with
      | false => rfl
      | true => exact absurd (.inl hc) hno
  · simp only [List.map_append, List.map_cons, List.map_nil]
    refine List.nodup_append.2 ⟨h.nodup, by simp, fun x hx y hy' => ?_⟩
    simp only [List.mem_cons, List.not_mem_nil, or_false] at hy'
    subst hy'
    rintro rfl
    exact hno (.inr hx)
  · intro U1 k u U2 hU
    rcases List.append_eq_append_iff.1 hU with ⟨W1, h1, h2⟩ | ⟨W1, h1, h2⟩
    · cases W1 with
      | nil =>
        simp only [List.nil_append, List.cons.injEq, Prod.mk.injEq] at h2
        obtain ⟨⟨rfl, rfl⟩, _⟩ := h2
        rw [List.append_nil] at h1
        subst h1
        exact ⟨⟨o, ho, hy, hk⟩, fun d hdm => (h.mem d).1 (hd d hdm)⟩
      | cons q W1 => simp at h2
    · cases W1 with
      | nil =>
        simp only [List.nil_append, List.cons.injEq, Prod.mk.injEq] at h2
        obtain ⟨⟨rfl, rfl⟩, _⟩ := h2
        rw [List.append_nil] at h1
        subst h1
        exact ⟨⟨o, ho, hy, hk⟩, fun d hdm => (h.mem d).1 (hd d hdm)⟩
      | cons q W1 =>
        simp only [List.cons_append, List.cons.injEq] at h2
        obtain ⟨rfl, h2⟩ := h2
        exact h.yields U1 k u W1 h1
/-- What writes comes up in its turn. -/
theorem Inv.effect (hsel : Region.noSelect ops = true) (hT : tabOk ops A = true) (hap : apartOk ops A = true) (hld : loadsOk ops A = true) {lr : Array Bool} {V : List (Nat × Value)} {j : Nat} {y : Oper} {done keep : List Nat} {a : Act} {w : World}
    (h : Inv P ops lr V done a w) (hj : ops[j]? = some y) (hn : j ∉ done) (hd : ∀ d ∈ deps ops j, lr.getD d false = true)
    (hkeep : ∀ i ∈ done, i ∈ A.getD j [] ∨ i ∈ keep ∨ ∀ o, ops[i]? = some o → isL o = false) :
    ApartAll ops V y ∧ ∀ a' w', Went y a a' → Held P ops keep (putAll ops a V) w w' → Inv P ops (lr.setIfInBounds j true) V (j :: done) a' w' := by
  have hlt := (Array.getElem?_eq_some_iff.1 hj).1
  have hls : j < lr.size := by rw [h.size]; exact hlt
  have hno := fun h' => hn ((h.mem j).2 h')
  have hanc := h.anc_lr hT hlt hd
  have hV : ApartAll ops V y := by
    intro p hp
    obtain ⟨U1, u, U2, hU⟩ := mem_split (V := V) (i := p.1) (List.mem_map.2 ⟨p, hp, rfl⟩)
    obtain ⟨⟨x, hx, _⟩, _⟩ := h.yields U1 p.1 u _ hU
    have hpm : p.1 ∈ V.map Prod.fst := List.mem_map.2 ⟨p, hp, rfl⟩
    refine ⟨x, hx, apart_of hap hx hj (fun e => hno (.inr (e ▸ hpm))) ?_ ?_⟩
    · intro hm
      rcases h.anc_early hT hU j hm with h' | h'
      · exact hno (.inl h')
      · exact hno (.inr (by rw [hU]; simp only [List.map_append, List.mem_append]; exact .inl h'))
    · intro hm
      have h1 := hanc p.1 hm
      have h2 := getD_true_false (h.fresh p.1 hpm)
      rw [h1] at h2; cases h2
  refine ⟨hV, fun a' w' hw hheld => ?_⟩
  refine ⟨by rw [Array.size_setIfInBounds]; exact h.size, ?_, ?_, ?_, h.nodup, ?_⟩
  · intro k hk d hdk
    rw [list_set hls] at hk ⊢
    rcases hk with hk | rfl
    · exact .inl (h.closed k hk d hdk)
    · exact .inl (hd d hdk)
  · intro k
    rw [list_set hls, List.mem_cons, h.mem k]
    constructor
    · rintro (h' | h' | h')
      · exact .inl (.inr h')
      · exact .inl (.inl h')
      · exact .inr h'
    · rintro ((h' | h') | h')
      · exact .inr (.inl h')
      · exact .inl h'
      · exact .inr (.inr h')
  · intro k hk
    have hne : j ≠ k := by rintro rfl; exact hno (.inr hk)
    rw [getD_set_ne true hne]
    exact h.fresh k hk
  · intro U1 k u U2 hU
    obtain ⟨⟨x, hx, hyx, hkx⟩, hdk⟩ := h.yields U1 k u U2 hU
    have hU1 : ApartAll ops U1 y := fun p hp => hV p (by rw [hU]; simp [hp])
    have hxy : x.apart ops y = true := by
      obtain ⟨x', hx', hap'⟩ := hV (k, u) (by rw [hU]; simp)
      rw [hx] at hx'; injection hx' with hx'; subst hx'; exact hap'
    have hwe := (hw.putAll hU1).exec hsel hx (apart_symm hxy)
    have hkfr : lr.getD k false = false := getD_true_false (h.fresh k (by rw [hU]; simp))
    refine ⟨⟨x, hx, ?_, hkx.imp id fun hy' => hy'.of_same hwe.1 hwe.2⟩, fun d hdm => ?_⟩
    · refine YW.same ?_ hwe.1 hwe.2
      rcases hkx with hL | hY
      · -- a load
        have hkk : k ∈ keep := by
          rcases hkeep k ((h.mem k).2 (.inr (by rw [hU]; simp))) with h' | h' | h'
          · have := hanc k h'; rw [hkfr] at this; cases this
          · exact h'
          · have := h' x hx; rw [hL] at this; cases this
        rcases hyx with ⟨hwt, hv⟩ | hyx
        · refine .inl ⟨hwt, ?_⟩
          have hh := hheld.mem k hkk
          unfold Held1 at hh
          rw [hx] at hh
          obtain ⟨dst, op, type, pos, after, guard⟩ := x
          cases op <;> simp [isL] at hL
          rename_i t ad
          dsimp only at hh
          -- what it looks at was not turned by those behind it
          have hlater : ∀ (U : List (Nat × Value)) (b : Act), (∀ p ∈ U, ∀ q, ops[p.1]? = some q → ∀ d, q.dst = some d → d ∉ (Oper.mk dst (Op.load t ad) type pos after guard).looksAt ops) →
              execOp (putAll ops b U).eval (Oper.mk dst (Op.load t ad) type pos after guard) = execOp b.eval (Oper.mk dst (Op.load t ad) type pos after guard) ∧
              Region.wanted (Oper.mk dst (Op.load t ad) type pos after guard) (yielded ops (putAll ops b U).tmps) = Region.wanted (Oper.mk dst (Op.load t ad) type pos after guard) (yielded ops b.tmps) ∧ (putAll ops b U).eval ad = b.eval ad := by
            intro U
            induction U with
            | nil => intro b _; exact ⟨rfl, rfl, rfl⟩
            | cons p U ihU =>
              intro b hb
              rw [putAll_cons]
              obtain ⟨e1, e2, e3⟩ := ihU (b.put ((ops[p.1]?).bind (·.dst)) p.2) (fun q hq => hb q (List.mem_cons_of_mem _ hq))
              have hp : ∀ d, (ops[p.1]?).bind (·.dst) = some d → d ∉ (Oper.mk dst (Op.load t ad) type pos after guard).looksAt ops := by
                intro d hd'
                cases hq : ops[p.1]? with
                | none => rw [hq] at hd'; cases hd'
                | some q => rw [hq] at hd'; exact hb p (List.mem_cons_self ..) q hq d hd'
              refine ⟨e1.trans (execOp_put _ (fun cs b => Region.noSelect_spec hsel k _ cs b hx) b _ p.2 hp), e2.trans (wanted_put _ b _ p.2 hp), e3.trans (Act.eval_put fun d hd' hxd => hp d hd' ?_)⟩
              subst hxd
              simp [Oper.looksAt, Op.operands]
          have hU2 : ∀ p ∈ (k, u) :: U2, ∀ q, ops[p.1]? = some q → ∀ d, q.dst = some d → d ∉ (Oper.mk dst (Op.load t ad) type pos after guard).looksAt ops := by
            intro p hp q hq
            refine loads_of hld hx hq rfl fun hm => ?_
            have hnd := h.nodup
            rw [hU] at hnd
            obtain ⟨hn1, hn2, hnn⟩ := nodup_split hnd
            rcases h.anc_early hT hU p.1 hm with h' | h'
            · have := getD_true_false (h.fresh p.1 (by rw [hU]; simp only [List.map_append, List.mem_append]; exact .inr (List.mem_map.2 ⟨p, hp, rfl⟩)))
              rw [h'] at this; cases this
            · rcases List.mem_cons.1 hp with rfl | hp
              · exact hn1 h'
              · rw [List.map_append] at hnn
                exact (List.nodup_append.1 hnn).2.2 p.1 h' p.1 (List.mem_map.2 ⟨p, hp, rfl⟩) rfl
          obtain ⟨e1, e2, e3⟩ := hlater ((k, u) :: U2) (putAll ops a U1) hU2
          rw [hU, putAll_append, e2, e3] at hh
          have hck := hh hwt
          have hs : segSem (putAll ops a U1).eval (Oper.mk dst (Op.load t ad) type pos after guard) = some (Instr.loadAt t ((putAll ops a U1).eval ad)) := rfl
          rw [execOp_seg hs] at hv ⊢
          obtain ⟨v', w2, h1, h2⟩ := bind_ok hv
          simp at h2
          obtain ⟨rfl, rfl⟩ := h2
          rw [Sem.run_bind, loadAt_kept hck h1]
          rfl
        · exact .inr hyx
      · exact YW.of_yields hY w'
    · rw [list_set hls]
      exact (hdk d hdm).imp .inl id

theorem wpAny_of_plan (hnd0 : noDefer ops = true) (hsel : Region.noSelect ops = true) (hT : tabOk ops A = true) (hap : apartOk ops A = true) (hld : loadsOk ops A = true)
    (hQ : ∀ c a t w, Q (.panic c) { a with tmps := t } w → Q (.panic c) a w) :
    ∀ (fuel : Nat) (plan : List (Nat × Option (List Nat))) (lr : Array Bool) (V : List (Nat × Value)) (done : List Nat) (a : Act) (w : World),
      left lr ≤ fuel → Inv P ops lr V done a w → chk ops A done plan = true → wpPlan ro P ops Q plan (putAll ops a V) w → wpAnyIn (FW ro) 0 P .any ops Q fuel lr a w := by
  intro fuel
  induction fuel with
  | zero =>
    intro plan lr V done a w hf hI hc hp
    have hall : ∀ i, i < ops.size → lr.getD i true = true := by
      intro i hi
      cases h : lr.getD i true with
      | true => rfl
      | false =>
        have := left_set (by rw [hI.size]; exact hi) h
        omega
    have hV : V = [] := by
      cases V with
      | nil => rfl
      | cons p V =>
        have h1 := hI.fresh p.1 (by simp)
        obtain ⟨⟨o, ho, _⟩, _⟩ := hI.yields [] p.1 p.2 V rfl
        rw [hall _ (Array.getElem?_eq_some_iff.1 ho).1] at h1
        cases h1
    subst hV
    have hdone : ∀ i, i < ops.size → i ∈ done := fun i hi => (hI.mem i).2 (.inl (by
      have := hall i hi
      have hi' : i < lr.size := by rw [hI.size]; exact hi
      simp [hi'] at this ⊢; exact this))
    have hplan : plan = [] := by
      cases plan with
      | nil => rfl
      | cons s r =>
        obtain ⟨i, k⟩ := s
        cases k with
        | none =>
          simp only [chk, Bool.and_eq_true, decide_eq_true_eq, Bool.not_eq_true', List.contains_eq_mem, decide_eq_false_iff_not] at hc
          exact absurd (hdone i hc.1.1.1) hc.1.1.2
        | some k =>
          simp only [chk, Bool.and_eq_true, decide_eq_true_eq, Bool.not_eq_true', List.contains_eq_mem, decide_eq_false_iff_not] at hc
          exact absurd (hdone i hc.1.1.1.1.1) hc.1.1.1.1.2
    subst hplan
    refine ⟨?_, hp⟩
    cases hr : Region.ready .any ops lr with
    | nil => rfl
    | cons j l =>
      have hj : j ∈ Region.ready .any ops lr := by rw [hr]; exact List.mem_cons_self ..
      have := ready_iff.1 hj
      rw [hall j this.2.1] at this
      cases this.1
  | succ fuel ih =>
    intro plan
    -- one that was early comes up
    have early : ∀ (plan : List (Nat × Option (List Nat))) (lr : Array Bool) (V : List (Nat × Value)) (done : List Nat) (a : Act) (w : World) (i : Nat), left lr ≤ fuel + 1 → Inv P ops lr V done a w → chk ops A done plan = true →
        wpPlan ro P ops Q plan (putAll ops a V) w → i ∈ Region.ready .any ops lr → i ∈ V.map Prod.fst → wpOpIn (FW ro) 0 P ops Q i (wpAnyIn (FW ro) 0 P .any ops Q fuel (lr.setIfInBounds i true)) a w := by
      intro plan lr V done a w i hf hI hc hp hr hm
      obtain ⟨V1, v, V2, rfl⟩ := mem_split hm
      obtain ⟨h0, hlt, hd⟩ := ready_iff.1 hr
      obtain ⟨o, ho, hy, hI', he⟩ := hI.early hsel hT hap hd
      refine hy.wpOp hnd0 ho ?_
      have hls : i < lr.size := by rw [hI.size]; exact hlt
      have := left_set hls h0
      exact ih plan _ _ done _ w (by omega) hI' hc (by rw [he]; exact hp)
    have none_ready : ∀ (lr : Array Bool) (V : List (Nat × Value)) (done : List Nat) (a : Act) (w : World), Inv P ops lr V done a w → Region.ready .any ops lr = [] → V = [] := by
      intro lr V done a w hI hr
      cases V with
      | nil => rfl
      | cons p V =>
        obtain ⟨⟨o, ho, _⟩, hd⟩ := hI.yields [] p.1 p.2 V rfl
        have : p.1 ∈ Region.ready .any ops lr := ready_iff.2 ⟨hI.fresh p.1 (by simp), (Array.getElem?_eq_some_iff.1 ho).1, fun d hd' => (hd d hd').resolve_right (by simp)⟩
        rw [hr] at this
        cases this
    induction plan with
    | nil =>
      intro lr V done a w hf hI hc hp
      refine ⟨fun hr => ?_, fun i hi => ?_⟩
      · have := none_ready lr V done a w hI hr
        subst this
        exact hp
      · refine early [] lr V done a w i hf hI hc hp hi ?_
        obtain ⟨h0, hlt, hd⟩ := ready_iff.1 hi
        have hdn : i ∈ done := by
          have := List.all_eq_true.1 hc i (List.mem_range.2 hlt)
          simpa using this
        rcases (hI.mem i).1 hdn with h' | h'
        · rw [getD_true_false h0] at h'; cases h'
        · exact h'
    | cons s r ihp =>
      intro lr V done a w hf hI hc hp
      obtain ⟨j, k⟩ := s
      cases k with
      | none =>
        simp only [chk, Bool.and_eq_true, decide_eq_true_eq, Bool.not_eq_true', List.contains_eq_mem, decide_eq_false_iff_not, List.all_eq_true] at hc
        obtain ⟨⟨⟨hlt, hn⟩, hd⟩, hc'⟩ := hc
        obtain ⟨o, v, ho, hy, hk, hp'⟩ := hp
        refine ihp lr (V ++ [(j, v)]) (j :: done) a w hf (hI.push ho hn (fun d hdm => by simpa using hd d hdm) hy hk) hc' ?_
        rw [putAll_append, putAll_cons, ho]
        exact hp'
      | some keep =>
        have hc0 := hc
        simp only [chk, Bool.and_eq_true, decide_eq_true_eq, Bool.not_eq_true', List.contains_eq_mem, decide_eq_false_iff_not, List.all_eq_true, List.mem_range, Bool.or_eq_true, beq_iff_eq] at hc
        obtain ⟨⟨⟨⟨⟨hlt, hn⟩, hd⟩, honly⟩, hkeep⟩, hc'⟩ := hc
        have hjs : ops[j]? = some ops[j] := Array.getElem?_eq_some_iff.2 ⟨hlt, rfl⟩
        refine ⟨fun hr => ?_, fun i hi => ?_⟩
        · have hV := none_ready lr V done a w hI hr
          subst hV
          have : j ∈ Region.ready .any ops lr := ready_iff.2 ⟨getD_false_true (by rw [hI.size]; exact hlt) (by
            cases hc : lr.getD j false with
            | false => rfl
            | true => exact absurd ((hI.mem j).2 (.inl hc)) hn), hlt, fun d hdm => by
              have : d ∈ done := by simpa using hd d hdm
              exact ((hI.mem d).1 this).resolve_right (by simp)⟩
          rw [hr] at this
          cases this
        · obtain ⟨h0, hlti, hdi⟩ := ready_iff.1 hi
          by_cases hm : i ∈ V.map Prod.fst
          · exact early _ lr V done a w i hf hI hc0 hp hi hm
          · have hnd : i ∉ done := by
              intro hid
              rcases (hI.mem i).1 hid with h' | h'
              · rw [getD_true_false h0] at h'; cases h'
              · exact hm h'
            obtain rfl : i = j := by
              rcases honly i hlti with (h' | h') | h'
              · exact h'
              · exact absurd h' hnd
              · exfalso
                have : (deps ops i).all done.contains = true := List.all_eq_true.2 fun d hdm => by
                  have : d ∈ done := (hI.mem d).2 (.inl (hdi d hdm))
                  simpa using this
                rw [this] at h'; cases h'
            obtain ⟨hV, hnext⟩ := hI.effect hsel hT hap hld (keep := keep) hjs hnd hdi (fun k hk => by
              rcases hkeep k hk with (h' | h') | h'
              · exact .inl h'
              · exact .inr (.inl h')
              · refine .inr (.inr fun o ho => ?_)
                rw [ho] at h'
                simpa using h')
            have hls : i < lr.size := by rw [hI.size]; exact hlti
            have hleft := left_set hls h0
            have h1 := wpOp_went hnd0 hsel hQ hjs V a hV hp
            refine wpOpIn_mono ?_ h1
            rintro a' w' ⟨hw, hheld, hp'⟩
            exact ih r _ V (i :: done) a' w' (by omega) (hnext a' w' hw hheld) hc' hp'
end

/-! ### 6. The walk's side: stretches in the walk's own list form -/
section
variable {P : Program} {ro : Option Nat} {ops : Array Oper} {Q : Exit → Act → World → Prop}
def segKind (o : Oper) : Bool := match o.op with
  | .move _ | .assign _ | .pick .. | .build .. | .load .. | .nilCheck _ | .binOp .. | .unOp .. | .convert .. | .makeInterface .. | .makeFunc .. | .slice .. | .fieldAddr .. | .field .. | .indexAddr .. | .index .. | .extract .. => true
  | .call { callee := .builtin .len, .. } | .call { callee := .builtin .cap, .. } | .call { callee := .builtin .min, .. } | .call { callee := .builtin .max, .. } => true
  | _ => false
def segPost (K : Act → World → Prop) : Exit → Act → World → Prop
  | .normal, a, w => K a w
  | _, _, _ => False
def effPost (Q : Exit → Act → World → Prop) (K : Act → World → Prop) : Exit → Act → World → Prop
  | .normal, a, w => K a w
  | e, a, w => Q e a w
def Tr (P : Program) (ops : Array Oper) : List Oper → Act → World → Act → World → Prop
  | [], a, w, a', w' => a' = a ∧ w' = w
  | o :: l, a, w, a', w' => ∃ v w1, ((Region.wanted o (yielded ops a.tmps) = true ∧ (execOp a.eval o).run P w = .ok (.value v) w1) ∨ (Region.wanted o (yielded ops a.tmps) = false ∧ v = undef ∧ w1 = w)) ∧ Tr P ops l (a.put o.dst v) w1 a' w'
theorem seg_value {o : Oper} (hk : segKind o = true) {ρ : Operand → Value} {w w1 : World} {n : Next} (e : (execOp ρ o).run P w = .ok n w1) : ∃ v, n = .value v := by
  cases hs : segSem ρ o with
  | some s =>
    rw [execOp_seg hs] at e
    obtain ⟨v, w2, _, e2⟩ := bind_ok e
    simp at e2
    exact ⟨v, e2.1.symm⟩
  | none =>
    obtain ⟨dst, op, type, pos, after, guard⟩ := o
    cases op <;> simp [segKind] at hk <;> simp [segSem] at hs
    case nilCheck x =>
      simp only [execOp] at e
      split at e
      · exact absurd e (nok_runtimePanic _ _ _ _ _)
      · exact absurd e (nok_runtimePanic _ _ _ _ _)
      · exact absurd e (nok_runtimePanic _ _ _ _ _)
      · split at e
        · exact absurd e (nok_runtimePanic _ _ _ _ _)
        · obtain ⟨p, w2, _, e2⟩ := bind_ok e
          obtain ⟨b, w3, _, e3⟩ := bind_ok e2
          split at e3
          · exact absurd e3 (NOk.bind_left (nok_unsupported _) _ _ _ _)
          · simp at e3; exact ⟨_, e3.1.symm⟩
        · simp at e; exact ⟨_, e.1.symm⟩
      · simp at e; exact ⟨_, e.1.symm⟩
    case call c =>
      obtain ⟨callee, args, argTypes⟩ := c
      cases callee with
      | builtin b => cases b <;> first | (cases hk; done) | (cases hs; done)
      | _ => cases hk
def wpL (ro : Option Nat) (P : Program) (ops : Array Oper) (Q : Exit → Act → World → Prop) : List Oper → Act → World → Prop
  | [], a, w => Q .normal a w
  | o :: rest, a, w => if Region.wanted o (yielded ops a.tmps) then o.uponIn (FW ro) 0 P a (wpL ro P ops Q rest) Q ((execOp a.eval o).run P w) else wpL ro P ops Q rest (a.put o.dst undef) w
theorem tr_of_wpList {K : Act → World → Prop} : ∀ (l : List Oper) (a : Act) (w : World), (∀ o ∈ l, segKind o = true) → wpL ro P ops (segPost K) l a w → ∃ a' w', Tr P ops l a w a' w' ∧ K a' w'
  | [], a, w, _, h => ⟨a, w, ⟨rfl, rfl⟩, h⟩
  | o :: l, a, w, hk, h => by
    have hk1 := hk o (List.mem_cons_self ..)
    have hkl := fun x hx => hk x (List.mem_cons_of_mem o hx)
    unfold wpL at h
    split at h
    · rename_i hw
      cases hr : (execOp a.eval o).run P w with
      | ok n w1 =>
        rw [hr] at h
        obtain ⟨v, rfl⟩ := seg_value hk1 hr
        simp only [Oper.uponIn] at h
        obtain ⟨a', w', ht, hK⟩ := tr_of_wpList l _ _ hkl h
        exact ⟨a', w', ⟨v, w1, .inl ⟨hw, hr⟩, ht⟩, hK⟩
      | halt x w1 =>
        rw [hr] at h
        cases x <;> simp only [Oper.uponIn] at h
        exact h.elim
    · rename_i hw
      obtain ⟨a', w', ht, hK⟩ := tr_of_wpList l _ _ hkl h
      exact ⟨a', w', ⟨undef, w, .inr ⟨by simpa using hw, rfl, rfl⟩, ht⟩, hK⟩
theorem tr_eval : ∀ (l : List Oper) (a : Act) (w : World) (a' : Act) (w' : World), Tr P ops l a w a' w' → ∀ x : Operand, (∀ o ∈ l, ∀ d, o.dst = some d → x ≠ .tmp d) → a'.eval x = a.eval x
  | [], a, w, a', w', h, x, _ => by rw [h.1]
  | o :: l, a, w, a', w', h, x, hx => by
    obtain ⟨v, w1, _, ht⟩ := h
    rw [tr_eval l _ _ _ _ ht x (fun p hp => hx p (List.mem_cons_of_mem _ hp))]
    exact Act.eval_put fun d hd => hx o (List.mem_cons_self ..) d hd
theorem okP_congr {ρ ρ' : Operand → Value} {o : Oper} (h : ∀ x : Operand, (∀ t, x = .tmp t → t ∈ asks o) → ρ x = ρ' x) : okP P ρ o = okP P ρ' o := by
  obtain ⟨dst, op, type, pos, after, guard⟩ := o
  have tmem : ∀ (l : List Operand) (x : Operand), x ∈ l → ∀ t, x = .tmp t → t ∈ l.filterMap fun | .tmp t => some t | _ => none := by
    intro l x hx t ht
    subst ht
    exact List.mem_filterMap.2 ⟨_, hx, rfl⟩
  cases op <;> try rfl
  case nilCheck x => simp only [okP]; rw [h x (tmem [x] x (by simp))]
  case binOp op t x y yt => simp only [okP]; rw [h x (tmem [x, y] x (by simp)), h y (tmem [x, y] y (by simp))]
  case convert s d x => simp only [okP]; rw [h x (tmem [x] x (by simp))]
  case call c =>
    obtain ⟨callee, args, argTypes⟩ := c
    cases callee <;> try rfl
    rename_i b
    have hargs : ∀ f : Value → Bool, (args.all fun x => f (ρ x)) = (args.all fun x => f (ρ' x)) := by
      intro f
      rw [Bool.eq_iff_iff]
      simp only [Array.all_eq_true_iff_forall_mem]
      have : ∀ x ∈ args, ρ x = ρ' x := fun x hx => h x (fun t ht => by
        show t ∈ args.toList.filterMap _
        exact tmem args.toList x (Array.mem_toList_iff.2 hx) t ht)
      exact ⟨fun hh x hx => by rw [← this x hx]; exact hh x hx, fun hh x hx => by rw [this x hx]; exact hh x hx⟩
    cases b <;> try rfl
    · exact hargs _
    · exact hargs _
    · exact hargs _
    · exact hargs _
theorem okP_some {ρ : Operand → Value} {o : Oper} (h : okP P ρ o = true) : ∃ s, segSem ρ o = some s := by
  obtain ⟨dst, op, type, pos, after, guard⟩ := o
  cases op <;> simp [okP] at h <;> try exact ⟨_, rfl⟩
  case nilCheck x =>
    simp only [segSem]
    split at h
    · rename_i hx; rw [hx]; exact ⟨_, rfl⟩
    · rename_i hx; rw [hx]; exact ⟨_, rfl⟩
    · cases h
  case call c =>
    obtain ⟨callee, args, argTypes⟩ := c
    cases callee with
    | builtin b => cases b <;> first | (cases h; done) | exact ⟨_, rfl⟩
    | _ => cases h
/-- An operation's guard: its slot stays as it is. -/
def gKeep (ops : Array Oper) (l : List Oper) (o : Oper) : Bool := match o.guard with
  | none => true
  | some (j, _) => match (ops[j]?).bind (·.dst) with
    | none => true
    | some t => l.all fun p => p.dst != some t
/-- An operation that its guard leaves out. -/
def offE (ops : Array Oper) (ρ : Operand → Value) (o : Oper) : Bool := match o.guard with
  | none => false
  | some (j, want) => match (ops[j]?).bind (·.dst) with
    | none => false
    | some t => match ρ (.tmp t) with
      | .bool b => b != want
      | _ => true
theorem offE_spec {a : Act} {o : Oper} (h : offE ops a.eval o = true) : Region.wanted o (yielded ops a.tmps) = false := by
  unfold offE at h
  unfold Region.wanted
  cases hg : o.guard with
  | none => rw [hg] at h; cases h
  | some jw =>
    obtain ⟨j, want⟩ := jw
    rw [hg] at h
    simp only at h ⊢
    unfold yielded
    cases hd : (ops[j]?).bind (·.dst) with
    | none => rw [hd] at h; cases h
    | some t =>
      rw [hd] at h
      simp only [Act.eval, Array.getD_eq_getD_getElem?, Option.bind_some] at h ⊢
      cases ht : a.tmps[t]? with
      | none => simp
      | some v =>
        rw [ht] at h
        simp only [Option.getD_some] at h
        cases v <;> simp_all
theorem offE_congr {ρ ρ' : Operand → Value} {o : Oper} (h : ∀ j w t, o.guard = some (j, w) → (ops[j]?).bind (·.dst) = some t → ρ (.tmp t) = ρ' (.tmp t)) : offE ops ρ o = offE ops ρ' o := by
  unfold offE
  cases hg : o.guard with
  | none => rfl
  | some jw =>
    obtain ⟨j, want⟩ := jw
    simp only
    cases hd : (ops[j]?).bind (·.dst) with
    | none => rfl
    | some t => simp only; rw [h j want t hg hd]
/-- A stretch: its operations' numbers, themselves; what it computes by lies in temporaries that it doesn't turn again. -/
def segOk (ops : Array Oper) : List Nat → List Oper → Bool
  | [], [] => true
  | i :: s, o :: l => (match ops[i]? with | some _ => true | none => false) && (segKind o && gKeep ops (o :: l) o) && ((asks o).all fun t => (o :: l).all fun p => p.dst != some t) && segOk ops s l
  | _, _ => false
def SegAt (ops : Array Oper) : List Nat → List Oper → Prop
  | [], [] => True
  | i :: s, o :: l => ops[i]? = some o ∧ SegAt ops s l
  | _, _ => False
def segChk (P : Program) (ops : Array Oper) (a : Act) (l : List Oper) : Bool := l.all fun o => isL o || okP P a.eval o || offE ops a.eval o
theorem plan_of_tr {rest : List (Nat × Option (List Nat))} : ∀ (s : List Nat) (l : List Oper) (a : Act) (w : World) (a' : Act) (w' : World), segOk ops s l = true → SegAt ops s l → Tr P ops l a w a' w' → segChk P ops a' l = true →
    wpPlan ro P ops Q rest a' w' → wpPlan ro P ops Q (s.map (·, none) ++ rest) a w
  | [], [], a, w, a', w', _, _, h, _, hr => by
    obtain ⟨rfl, rfl⟩ := h
    exact hr
  | i :: s, o :: l, a, w, a', w', hk, hs, h, hc, hr => by
    simp only [segOk, Bool.and_eq_true] at hk
    obtain ⟨⟨⟨_, ⟨hkind, hgk⟩⟩, hasks⟩, hkl⟩ := hk
    obtain ⟨ho, hsl⟩ := hs
    have hwhole := h
    obtain ⟨v, w1, hv, ht⟩ := h
    simp only [segChk, List.all_cons, Bool.and_eq_true] at hc
    obtain ⟨hco, hcl⟩ := hc
    have hoff : offE ops a'.eval o = true → Region.wanted o (yielded ops a.tmps) = false := by
      intro h1
      refine offE_spec ?_
      rw [← h1]
      refine offE_congr fun j w t hg hd => ?_
      refine (tr_eval (o :: l) a _ a' w' hwhole (.tmp t) fun p hp d hd' hxd => ?_).symm
      unfold gKeep at hgk
      rw [hg] at hgk
      simp only [hd] at hgk
      have h2 := List.all_eq_true.1 hgk p hp
      injection hxd with hxd
      subst hxd
      rw [hd'] at h2
      simp at h2
    have hok : isL o = true ∨ okP P a.eval o = true ∨ Region.wanted o (yielded ops a.tmps) = false := by
      rcases Bool.or_eq_true_iff.1 hco with h1 | h1
      · rcases Bool.or_eq_true_iff.1 h1 with h1 | h1
        · exact .inl h1
        refine .inr (.inl ?_)
        rw [← okP_congr (ρ := a'.eval)]
        · exact h1
        · intro x hx
          refine tr_eval (o :: l) a w a' w' hwhole x fun p hp d hd hxd => ?_
          have h2 := List.all_eq_true.1 (List.all_eq_true.1 hasks d (hx d hxd)) p hp
          rw [hd] at h2
          simp at h2
      · exact .inr (.inr (hoff h1))
    have hw1 : w1 = w := by
      rcases hv with ⟨hww, hv⟩ | ⟨_, _, h1⟩
      · rcases hok with hL | hP | hO
        · obtain ⟨dst, op, type, pos, after, guard⟩ := o
          cases op <;> simp only [isL] at hL <;> try cases hL
          rename_i t x
          have hs : segSem a.eval (Oper.mk dst (Op.load t x) type pos after guard) = some (Instr.loadAt t (a.eval x)) := rfl
          rw [execOp_seg hs] at hv
          obtain ⟨v', w2, h1, h2⟩ := bind_ok hv
          have := sr_loadAt _ _ P w w2 v' h1
          simp at h2
          rw [← h2.2, this]
        · obtain ⟨s', hs'⟩ := okP_some hP
          rw [execOp_seg hs'] at hv
          obtain ⟨v', w2, h1, h2⟩ := bind_ok hv
          have := (okP_sq hP hs' w w2 v' h1).1
          simp at h2
          rw [← h2.2, this]
        · rw [hO] at hww; cases hww
      · exact h1
    subst hw1
    refine ⟨o, v, ho, hv.imp id (fun h => ⟨h.1, h.2.1⟩), ?_, plan_of_tr s l _ _ a' w' hkl hsl ht hcl hr⟩
    rcases hok with hL | hPO
    · exact .inl hL
    · refine .inr ?_
      rcases hv with ⟨hw, hv⟩ | ⟨hw, h1, _⟩
      · rcases hPO with hP | hO
        case inr => rw [hO] at hw; cases hw
        refine .inl ⟨hw, fun w2 => ?_⟩
        obtain ⟨s', hs'⟩ := okP_some hP
        rw [execOp_seg hs'] at hv ⊢
        obtain ⟨v', w3, h1, h2⟩ := bind_ok hv
        have h3 := (okP_sq hP hs' _ w3 v' h1).2 w2
        simp at h2
        rw [Sem.run_bind, h3, ← h2.1]
        rfl
      · exact .inr ⟨hw, h1⟩
  | [], _ :: _, _, _, _, _, hk, _, _, _, _ => by simp [segOk] at hk
  | _ :: _, [], _, _, _, _, hk, _, _, _, _ => by simp [segOk] at hk
theorem wpOp_of_list (hnd : noDefer ops = true) {j : Nat} {o : Oper} (ho : ops[j]? = some o) {K : Act → World → Prop} {a : Act} {w : World} (h : wpL ro P ops (effPost Q K) [o] a w) : wpOpIn (FW ro) 0 P ops Q j K a w := by
  unfold wpOpIn
  simp only [ho]
  unfold wpL at h
  split at h
  · rename_i hw
    rw [if_pos hw]
    unfold Oper.wpIn
    refine ⟨fun _ _ => trivial, ?_⟩
    rw [noDefer_spec hnd ho]
    generalize (execOp a.eval o).run P w = rs at *
    cases rs with
    | ok n w' =>
      cases n <;> simp only [Oper.uponIn] at h ⊢ <;> first
        | exact h
        | exact ⟨h.1, CallsIn.mono h.2 (fun e w'' he => by cases e <;> exact he)⟩
        | exact ⟨h.1, RowsIn.mono h.2 (fun _ _ he => he)⟩
        | exact ⟨h.1, RoundIn.mono h.2 (fun e w'' he => by cases e <;> exact he)⟩
    | halt x w' => cases x <;> simp only [Oper.uponIn] at h ⊢ <;> exact h
  · rename_i hw
    rw [if_neg hw]
    exact ⟨fun _ _ => trivial, h⟩

/-- The plan, stretch by stretch: the stretch's numbers; behind it one that writes, and the loads that are kept over it. -/
abbrev Plan := List (List Nat × Option (Nat × List Nat))
def flat : Plan → List (Nat × Option (List Nat))
  | [] => []
  | (s, none) :: r => s.map (·, none) ++ flat r
  | (s, some (j, keep)) :: r => s.map (·, none) ++ (j, some keep) :: flat r
/-- The operation with a number. -/
def nth : List Oper → Nat → Oper
  | [], _ => default
  | o :: _, 0 => o
  | _ :: l, i + 1 => nth l i
def pickAll (l : List Oper) : List Nat → List Oper
  | [] => []
  | i :: s => nth l i :: pickAll l s
def segsOk (l : List Oper) : Plan → Bool
  | [] => true
  | (s, none) :: r => segOk l.toArray s (pickAll l s) && segsOk l r
  | (s, some _) :: r => segOk l.toArray s (pickAll l s) && segsOk l r
def planOk (l : List Oper) (A : List (List Nat)) (p : Plan) : Bool :=
  noDefer l.toArray && Region.noSelect l.toArray && tabOk l.toArray A && apartOk l.toArray A && loadsOk l.toArray A && chk l.toArray A [] (flat p) && segsOk l p
def wpSegs (ro : Option Nat) (P : Program) (l : List Oper) (Q : Exit → Act → World → Prop) : Plan → Act → World → Prop
  | [], a, w => Q .normal a w
  | (s, none) :: r, a, w => wpL ro P l.toArray (segPost fun a' w' => segChk P l.toArray a' (pickAll l s) = true ∧ wpSegs ro P l Q r a' w') (pickAll l s) a w
  | (s, some (j, keep)) :: r, a, w => wpL ro P l.toArray (segPost fun a' w' => segChk P l.toArray a' (pickAll l s) = true ∧
      wpL ro P l.toArray (effPost Q fun a'' w'' => Held P l.toArray keep a' w' w'' ∧ wpSegs ro P l Q r a'' w'') [nth l j] a' w') (pickAll l s) a w
theorem nth_some : ∀ (l : List Oper) (i : Nat), i < l.length → l[i]? = some (nth l i)
  | [], i, h => by simp at h
  | o :: l, 0, _ => rfl
  | o :: l, i + 1, h => by simp only [List.getElem?_cons_succ, nth]; exact nth_some l i (by simpa using h)
theorem segAt_of {l : List Oper} : ∀ s : List Nat, segOk l.toArray s (pickAll l s) = true → SegAt l.toArray s (pickAll l s)
  | [], _ => trivial
  | i :: s, h => by
    simp only [pickAll, segOk, Bool.and_eq_true] at h
    refine ⟨?_, segAt_of s h.2⟩
    have h1 := h.1.1.1
    split at h1
    · rename_i o ho
      have : i < l.length := by
        have := (Array.getElem?_eq_some_iff.1 ho).1
        simpa using this
      simp only [List.getElem?_toArray]
      exact nth_some l i this
    · cases h1
theorem segKinds_of {l : List Oper} : ∀ s : List Nat, segOk l.toArray s (pickAll l s) = true → ∀ o ∈ pickAll l s, segKind o = true
  | [], _, o, ho => by cases ho
  | i :: s, h, o, ho => by
    simp only [pickAll, segOk, Bool.and_eq_true] at h
    rcases List.mem_cons.1 ho with rfl | ho
    · exact h.1.1.2.1
    · exact segKinds_of s h.2 o ho
theorem plan_of_segs {l : List Oper} (hnd : noDefer l.toArray = true) {A : List (List Nat)} : ∀ (p : Plan) (done : List Nat) (a : Act) (w : World), segsOk l p = true → chk l.toArray A done (flat p) = true → wpSegs ro P l Q p a w → wpPlan ro P l.toArray Q (flat p) a w
  | [], _, _, _, _, _, h => h
  | (s, none) :: r, done, a, w, hk, hc, h => by
    simp only [segsOk, Bool.and_eq_true] at hk
    obtain ⟨a', w', ht, hc1, hn⟩ := tr_of_wpList _ _ _ (segKinds_of s hk.1) h
    have hcr : ∃ d', chk l.toArray A d' (flat r) = true := by
      clear h ht
      simp only [flat] at hc
      generalize flat r = fr at hc
      clear hk hn hc1
      induction s generalizing done with
      | nil => exact ⟨_, hc⟩
      | cons i s ih =>
        simp only [List.map_cons, List.cons_append, chk, Bool.and_eq_true] at hc
        exact ih _ hc.2
    obtain ⟨d', hc'⟩ := hcr
    exact plan_of_tr s _ a w a' w' hk.1 (segAt_of s hk.1) ht hc1 (plan_of_segs hnd r d' a' w' hk.2 hc' hn)
  | (s, some (j, keep)) :: r, done, a, w, hk, hc, h => by
    simp only [segsOk, Bool.and_eq_true] at hk
    obtain ⟨a', w', ht, hc1, hn⟩ := tr_of_wpList _ _ _ (segKinds_of s hk.1) h
    have hcr : ∃ d', chk l.toArray A d' ((j, some keep) :: flat r) = true := by
      clear h ht
      simp only [flat] at hc
      generalize flat r = fr at hc ⊢
      clear hk hn hc1
      induction s generalizing done with
      | nil => exact ⟨_, hc⟩
      | cons i s ih =>
        simp only [List.map_cons, List.cons_append, chk, Bool.and_eq_true] at hc
        exact ih _ hc.2
    obtain ⟨d', hc'⟩ := hcr
    have hlt : j < l.length := by
      simp only [chk, Bool.and_eq_true, decide_eq_true_eq] at hc'
      simpa using hc'.1.1.1.1.1
    have hcr : chk l.toArray A (j :: d') (flat r) = true := by
      simp only [chk, Bool.and_eq_true] at hc'
      exact hc'.2
    refine plan_of_tr s _ a w a' w' hk.1 (segAt_of s hk.1) ht hc1 ?_
    have hj : l.toArray[j]? = some (nth l j) := by simp only [List.getElem?_toArray]; exact nth_some l j hlt
    refine wpOpIn_mono ?_ (wpOp_of_list hnd hj hn)
    rintro a'' w'' ⟨h1, h2⟩
    exact ⟨h1, plan_of_segs hnd r _ a'' w'' hk.2 hcr h2⟩
/-- A region that draws its order, by a plan. -/
theorem wp_region_plan {l : List Oper} {id : Nat} {a : Act} {w : World} (A : List (List Nat)) (p : Plan) (hm : P.follows .mixedOrders = true) (hok : planOk l A p = true)
    (hQ : ∀ c a t w, Q (.panic c) { a with tmps := t } w → Q (.panic c) a w) (h : wpSegs ro P l Q p a w.drew) : (Code.region id l.toArray true).wpIn (FW ro) 0 P Q a w := by
  simp only [planOk, Bool.and_eq_true] at hok
  obtain ⟨⟨⟨⟨⟨⟨h0, h1⟩, h2⟩, h3⟩, h4⟩, h5⟩, h6⟩ := hok
  refine wpIn_region_any hm ?_
  refine wpAny_of_plan h0 h1 h2 h3 h4 hQ _ (flat p) _ [] [] a w.drew ?_ ?_ h5 (plan_of_segs h0 p [] a w.drew h6 h5 h)
  · unfold left
    refine Nat.le_trans (List.length_filter_le _ _) ?_
    simp
  · have hrep : ∀ i, (Array.replicate l.toArray.size false).getD i false = false := by
      intro i
      rw [Array.getD_eq_getD_getElem?, Array.getElem?_replicate]
      split <;> rfl
    refine ⟨by simp, ?_, ?_, ?_, by simp, ?_⟩
    · intro j hj
      rw [hrep] at hj
      cases hj
    · intro i
      rw [hrep]
      simp
    · intro i hi
      cases hi
    · intro V1 i v V2 hV
      cases V1 <;> cases hV
/-- A region that draws no order. -/
theorem wpL_of_ops {l : List Oper} (hnd : noDefer l.toArray = true) : ∀ (k : List Oper) (i : Nat) (a : Act) (w : World), (∀ j, k[j]? = l[i + j]?) → wpL ro P l.toArray Q k a w → wpOpsIn (FW ro) 0 P l.toArray Q (List.range' i k.length) a w
  | [], i, a, w, _, h => h
  | o :: k, i, a, w, hk, h => by
    have h0 : l[i]? = some o := by have := hk 0; simpa using this.symm
    have hk' : ∀ j, k[j]? = l[i + 1 + j]? := fun j => by have := hk (j + 1); simpa [Nat.add_assoc, Nat.add_comm 1 j] using this
    simp only [List.length_cons, List.range'_succ, wpOpsIn, List.getElem?_toArray, h0]
    unfold wpL at h
    split
    · rename_i hw
      rw [if_pos hw] at h
      refine ⟨fun _ _ => trivial, ?_⟩
      rw [noDefer_spec hnd (j := i) (by simpa using h0)]
      generalize (execOp a.eval o).run P w = rs at *
      have ih := wpL_of_ops hnd k (i + 1)
      cases rs with
      | ok n w' =>
        cases n <;> simp only [Oper.uponIn] at h ⊢ <;> first
          | exact ih _ _ hk' h
          | exact h
          | exact ⟨h.1, CallsIn.mono h.2 (fun e w'' he => by cases e <;> first | exact ih _ _ hk' he | exact he)⟩
          | exact ⟨h.1, RowsIn.mono h.2 (fun _ _ he => ih _ _ hk' he)⟩
          | exact ⟨h.1, RoundIn.mono h.2 (fun e w'' he => by cases e <;> first | exact ih _ _ hk' he | exact he)⟩
      | halt x w' => cases x <;> simp only [Oper.uponIn] at h ⊢ <;> exact h
    · rename_i hw
      rw [if_neg hw] at h
      exact ⟨fun _ _ => trivial, wpL_of_ops hnd k (i + 1) _ _ hk' h⟩
theorem wp_region_text {l : List Oper} {id : Nat} {a : Act} {w : World} (hnd : noDefer l.toArray = true) (h : wpL ro P l.toArray Q l a w) : (Code.region id l.toArray false).wpIn (FW ro) 0 P Q a w :=
  wpIn_region (by
    rw [List.range_eq_range']
    have := wpL_of_ops hnd l 0 a w (fun j => by simp) h
    simpa using this)
end
end Go.Plan
end
section
namespace Go.Base
open Go.RowKit
set_option linter.unusedVariables false
set_option linter.unusedSimpArgs false

/-! ### Blocks known whole -/
def Blk (w : World) (b : Nat) (cs : List Value) (t : TypeId) : Prop := w.heap[b]? = some (.cells cs.toArray t (0, 0))
theorem Blk.lt {w : World} {b : Nat} {cs : List Value} {t : TypeId} (h : Blk w b cs t) : b < w.heap.size := lt_of_block h
theorem Blk.cell {w : World} {b : Nat} {cs : List Value} {t : TypeId} (h : Blk w b cs t) (i : Nat) : w.cell? ⟨b, i, none⟩ = cs[i]? := by simp [World.cell?, show w.heap[b]? = _ from h]
theorem Blk.frozen {w : World} {b : Nat} {cs : List Value} {t : TypeId} (h : Blk w b cs t) (i : Nat) : w.frozen? ⟨b, i, none⟩ = false := by simp [World.frozen?, show w.heap[b]? = _ from h]
theorem Blk.set {w : World} {b : Nat} {cs : List Value} {t : TypeId} (h : Blk w b cs t) (i : Nat) (v : Value) : Blk (w.setCell ⟨b, i, none⟩ v) b (cs.set i v) t := by
  unfold Blk World.setCell
  simp [Array.getElem?_modify, show w.heap[b]? = _ from h]
theorem Blk.same {w w' : World} {b : Nat} {cs : List Value} {t : TypeId} (h : Blk w b cs t) (e : w'.heap[b]? = w.heap[b]?) : Blk w' b cs t := e.trans h
theorem Blk.alloc {w : World} {b : Nat} {cs : List Value} {t : TypeId} (h : Blk w b cs t) (o : Obj) : Blk (w.alloc o) b cs t := h.same (Below.heap_alloc w o b h.lt)
theorem Blk.drew {w : World} {b : Nat} {cs : List Value} {t : TypeId} (h : Blk w b cs t) : Blk w.drew b cs t := h
theorem Blk.drewN {w : World} {b : Nat} {cs : List Value} {t : TypeId} (h : Blk w b cs t) (n : Nat) : Blk (w.drewN n) b cs t := h
theorem Blk.new (w : World) (cs : List Value) (t : TypeId) : Blk (w.alloc (.cells cs.toArray t (0, 0))) w.heap.size cs t := heap_alloc_new w _
theorem Blk.below {w w' : World} {B b : Nat} {cs : List Value} {t : TypeId} (h : Blk w b cs t) (hb : Below B w w') (hlt : b < B) : Blk w' b cs t := h.same (hb.block b hlt)
theorem Blk.at {w : World} {b : Nat} {cs : List Value} {t : TypeId} (h : Blk w b cs t) (i : Nat) {v : Value} (hv : cs[i]? = some v) : w.cell? ⟨b, i, none⟩ = some v := (h.cell i).trans hv

/-! ### What turns: the blocks of a list, and new ones -/
structure Fr (l : List Nat) (w w' : World) : Prop where
  os : w'.os = w.os
  tape : w'.tape = w.tape
  output : w'.output = w.output
  size : w.heap.size ≤ w'.heap.size
  block : ∀ k, k < w.heap.size → k ∉ l → w'.heap[k]? = w.heap[k]?
theorem Fr.refl (l : List Nat) (w : World) : Fr l w w := ⟨rfl, rfl, rfl, Nat.le_refl _, fun _ _ _ => rfl⟩
theorem Fr.drew (l : List Nat) (w : World) : Fr l w w.drew := ⟨rfl, rfl, rfl, Nat.le_refl _, fun _ _ _ => rfl⟩
theorem Fr.trans {l l' : List Nat} {w w1 w2 : World} (h : Fr l w w1) (k : Fr l' w1 w2) (hs : ∀ i ∈ l', i < w.heap.size → i ∈ l) : Fr l w w2 :=
  ⟨k.os.trans h.os, k.tape.trans h.tape, k.output.trans h.output, Nat.le_trans h.size k.size, fun i hi hn => (k.block i (Nat.lt_of_lt_of_le hi h.size) fun hm => hn (hs i hm hi)).trans (h.block i hi hn)⟩
theorem Fr.mono {l l' : List Nat} {w w1 : World} (h : Fr l w w1) (hs : ∀ i ∈ l, i < w.heap.size → i ∈ l') : Fr l' w w1 :=
  ⟨h.os, h.tape, h.output, h.size, fun i hi hn => h.block i hi fun hm => hn (hs i hm hi)⟩
theorem Fr.new {w w1 w2 : World} (h : Fr [] w w1) (k : Fr [] w1 w2) : Fr [] w w2 := h.trans k fun i hi _ => by cases hi
/-- What turns is new: nothing that was there turned. -/
theorem Fr.own {l : List Nat} {w w1 w2 : World} (h : Fr [] w w1) (k : Fr l w1 w2) (hl : ∀ i ∈ l, w.heap.size ≤ i) : Fr [] w w2 := h.trans k fun i hi hlt => absurd (hl i hi) (by omega)
theorem Fr.below {l : List Nat} {w w1 : World} (h : Fr l w w1) {B : Nat} (hB : B ≤ w.heap.size) (hl : ∀ i ∈ l, B ≤ i) : Below B w w1 :=
  ⟨h.os, h.tape, h.output, h.size, fun i hi => h.block i (Nat.lt_of_lt_of_le hi hB) fun hm => absurd (hl i hm) (by omega)⟩
theorem Fr.below0 {w w1 : World} (h : Fr [] w w1) : Below w.heap.size w w1 := h.below (Nat.le_refl _) fun i hi => by cases hi
theorem Fr.of_below {w w1 : World} (h : Below w.heap.size w w1) (l : List Nat) : Fr l w w1 := ⟨h.os, h.tape, h.output, h.size, fun i hi _ => h.block i hi⟩
theorem Fr.of_grown {w w1 : World} {row : Option Nat} (h : w.grownBy w1 row) {l : List Nat} (hl : ∀ k, row = some k → k ∈ l) : Fr l w w1 :=
  ⟨h.os, h.tape, h.output, h.size, fun i hi hn => h.block i hi fun e => hn (hl i e.symm)⟩
theorem Fr.alloc (l : List Nat) (w : World) (o : Obj) : Fr l w (w.alloc o) := ⟨rfl, rfl, rfl, by simp, fun i hi _ => Below.heap_alloc w o i hi⟩
theorem Fr.setCell (w : World) (p : Addr) (v : Value) : Fr [p.block] w (w.setCell p v) := ⟨rfl, rfl, rfl, by simp, fun i hi hn => Below.heap_setCell w p v i (by simpa using hn)⟩
theorem Blk.fr {w w' : World} {b : Nat} {cs : List Value} {t : TypeId} (h : Blk w b cs t) {l : List Nat} (k : Fr l w w') (hb : b ∉ l) : Blk w' b cs t := h.same (k.block b h.lt hb)
theorem Blk.fr0 {w w' : World} {b : Nat} {cs : List Value} {t : TypeId} (h : Blk w b cs t) (k : Fr [] w w') : Blk w' b cs t := h.fr k (by simp)
theorem Blk.fr1 {w w' : World} {b b' : Nat} {cs : List Value} {t : TypeId} (h : Blk w b cs t) (k : Fr [b'] w w') (hb : b ≠ b') : Blk w' b cs t := h.fr k (by simpa using hb)
theorem own_fr {w w' : World} {base n : Nat} {e : TypeId} {size : Nat} {v : Value} {xs : List Value} (h : w.ownsRow base e size v n xs) {l : List Nat} (k : Fr l w w') (hb : ∀ b, v.ownBlock = some b → b ∉ l) : w'.ownsRow base e size v n xs := by
  rcases h.2 with ⟨rfl, hn⟩ | ⟨g, cap, cur, rfl, hg, hh, hr⟩
  · exact ⟨h.1, .inl ⟨rfl, hn⟩⟩
  · exact ⟨h.1, .inr ⟨g, cap, cur, rfl, hg, (k.block g (lt_of_block hh) (hb g rfl)).trans hh, hr⟩⟩

/-! ### A slice that is read -/
structure Rds (w : World) (v : Value) (n : Nat) (cs : List Value) : Prop where
  ex : ∃ A c, v = .slice A n c ∧ n ≤ c ∧ n ≤ 9223372036854775807 ∧ ∀ j u, cs[j]? = some u → ∃ ad, A = some ad ∧ ad.block < w.heap.size ∧ w.cell? (ad.add j) = some u
theorem Rds.nil (w : World) : Rds w (.slice none 0 0) 0 [] := ⟨none, 0, rfl, by omega, by omega, fun j u h => by simp at h⟩
theorem Rds.below {w w' : World} {v : Value} {n : Nat} {cs : List Value} (h : Rds w v n cs) (hb : Below w.heap.size w w') : Rds w' v n cs := by
  obtain ⟨A, c, e, hn, hm, hc⟩ := h.ex
  refine ⟨A, c, e, hn, hm, fun j u hj => ?_⟩
  obtain ⟨ad, e', hl, hr⟩ := hc j u hj
  have hbl : (ad.add j).block = ad.block := by simp [Addr.add]; split <;> rfl
  exact ⟨ad, e', Nat.lt_of_lt_of_le hl hb.size, (hb.cell (by rw [hbl]; exact hl)).trans hr⟩
theorem add_plain (g j : Nat) : (⟨g, 0, none⟩ : Addr).add j = ⟨g, j, none⟩ := by unfold Addr.add; split <;> simp_all
end Go.Base
end
section
namespace Go.V
open Go.Plan (FW wpL bind_ok NOk)
open Go.RowKit Go.Base
set_option linter.unusedVariables false
set_option linter.unusedSimpArgs false

/-! ### 1. Code -/
def Wp (ro : Option Nat) (P : Program) (c : Code) (Q : Exit → Act → World → Prop) (a : Act) (w : World) : Prop := c.wpIn (FW ro) 0 P Q a w
def L (ro : Option Nat) (P : Program) (ops : Array Oper) (Q : Exit → Act → World → Prop) (l : List Oper) (a : Act) (w : World) : Prop := wpL ro P ops Q l a w
def St (ro : Option Nat) (P : Program) (ops : Array Oper) (Q : Exit → Act → World → Prop) (rest : List Oper) (o : Oper) (a : Act) (w : World) : Prop := o.uponIn (FW ro) 0 P a (L ro P ops Q rest) Q ((execOp a.eval o).run P w)
section
variable {ro : Option Nat} {P : Program} {Q : Exit → Act → World → Prop} {a : Act} {w : World}
theorem skip (h : Q .normal a w) : Wp ro P .skip Q a w := wpIn_skip h
theorem ret (h : Q .ret a w) : Wp ro P .ret Q a w := wpIn_ret h
theorem exit {i : Nat} (h : Q (.exit i) a w) : Wp ro P (.exit i) Q a w := wpIn_exit h
theorem seq {x y : Code} (h : ∀ K : Act → World → Prop, (∀ a w, Wp ro P y Q a w → K a w) → Wp ro P x (Exit.then K Q) a w) : Wp ro P (.seq x y) Q a w := wpIn_seq_k h
theorem seqd {x y : Code} (h : Wp ro P x (Exit.then (Wp ro P y Q) Q) a w) : Wp ro P (.seq x y) Q a w := wpIn_seq h
theorem mono {c : Code} {Q' : Exit → Act → World → Prop} (h : Wp ro P c Q a w) (hq : ∀ e a w, Q e a w → Q' e a w) : Wp ro P c Q' a w := wpIn_mono h hq
/-- What is known behind the first part is all that the second is told. -/
theorem seq_cut {x y : Code} (J : Act → World → Prop) (h : Wp ro P x (Exit.then J Q) a w) (k : ∀ a w, J a w → Wp ro P y Q a w) : Wp ro P (.seq x y) Q a w :=
  wpIn_seq (wpIn_mono h fun e a w q => by cases e <;> first | exact k _ _ q | exact q)
theorem cut {x : Code} {K : Act → World → Prop} (J : Act → World → Prop) (h : Wp ro P x (Exit.then J Q) a w) (k : ∀ a w, J a w → K a w) : Wp ro P x (Exit.then K Q) a w :=
  wpIn_mono h fun e a w q => by cases e <;> first | exact k _ _ q | exact q
theorem cond {c : Operand} {x y : Code} {t : Bool} (hc : a.eval c = .bool t) (h1 : t = true → Wp ro P x Q a w) (h2 : t = false → Wp ro P y Q a w) : Wp ro P (.cond c x y) Q a w := wpIn_cond_split hc h1 h2
theorem condP {c : Operand} {x y : Code} {p : Prop} [Decidable p] (hc : a.eval c = .bool (decide p)) (h1 : p → Wp ro P x Q a w) (h2 : ¬ p → Wp ro P y Q a w) : Wp ro P (.cond c x y) Q a w :=
  wpIn_cond_split hc (fun h => h1 (of_decide_eq_true h)) (fun h => h2 (of_decide_eq_false h))
theorem cond_t {c : Operand} {x y : Code} (hc : a.eval c = .bool true) (h : Wp ro P x Q a w) : Wp ro P (.cond c x y) Q a w := wpIn_cond hc h
theorem cond_f {c : Operand} {x y : Code} (hc : a.eval c = .bool false) (h : Wp ro P y Q a w) : Wp ro P (.cond c x y) Q a w := wpIn_cond hc h
theorem block {i : Nat} {c : Code} (h : Wp ro P c (Exit.inBlock i Q) a w) : Wp ro P (.block i c) Q a w := wpIn_block h
theorem exists_min (p : Nat → Prop) (h : ∃ n, p n) : ∃ n, p n ∧ ∀ m, p m → n ≤ m := by
  obtain ⟨n, hn⟩ := h
  induction n using Nat.strongRecOn with
  | _ n ih =>
    by_cases h : ∃ m, m < n ∧ p m
    · obtain ⟨m, hm, hp⟩ := h; exact ih m hm hp
    · exact ⟨n, hn, fun m hm => Nat.le_of_not_lt fun hlt => h ⟨m, hlt, hm⟩⟩
/-- A loop, by a ghost: what holds at a round's head, of which ghost; a measure of the ghost. -/
theorem loop {c : Code} {σ : Type} (I : σ → Act → World → Prop) (m : σ → Nat) (s0 : σ) (h0 : I s0 a w)
    (hr : ∀ s a w, I s a w → Wp ro P c (Exit.then (fun a' w' => ∃ s', m s' < m s ∧ I s' a' w') Q) a w) : Wp ro P (.loop c) Q a w := by
  classical
  have hex : ∀ a w, (∃ s, I s a w) → ∃ n, (∃ s, m s = n ∧ I s a w) ∧ ∀ k, (∃ s, m s = k ∧ I s a w) → n ≤ k := fun a w ⟨s, h⟩ => exists_min _ ⟨_, s, rfl, h⟩
  let μ : Act → World → Nat := fun a w => if h : ∃ s, I s a w then Classical.choose (hex a w h) else 0
  refine wpIn_loop (fun a w => ∃ s, I s a w) μ ⟨s0, h0⟩ ?_
  intro a w hI
  have hμ : ∃ s, m s = μ a w ∧ I s a w := by
    show ∃ s, m s = (if h : ∃ s, I s a w then Classical.choose (hex a w h) else 0) ∧ I s a w
    rw [dif_pos hI]
    exact (Classical.choose_spec (hex a w hI)).1
  obtain ⟨s, hm, hs⟩ := hμ
  refine wpIn_mono (hr s a w hs) ?_
  intro e a' w' q
  cases e with
  | normal =>
    obtain ⟨s', hlt, hI'⟩ := q
    refine ⟨⟨s', hI'⟩, ?_⟩
    have : μ a' w' ≤ m s' := by
      show (if h : ∃ s, I s a' w' then Classical.choose (hex a' w' h) else 0) ≤ m s'
      rw [dif_pos ⟨s', hI'⟩]
      exact (Classical.choose_spec (hex a' w' ⟨s', hI'⟩)).2 _ ⟨s', rfl, hI'⟩
    omega
  | _ => exact q
theorem region {l : List Oper} {id : Nat} (hnd : Plan.noDefer l.toArray = true) (h : L ro P l.toArray Q l a w) : Wp ro P (.region id l.toArray false) Q a w := Plan.wp_region_text hnd h
theorem nil {ops : Array Oper} (h : Q .normal a w) : L ro P ops Q [] a w := h
theorem go {ops : Array Oper} {rest : List Oper} {d : Option Tmp} {op : Op} {ty : TypeId} {pos : String} {aft : Array Edge} (h : St ro P ops Q rest ⟨d, op, ty, pos, aft, none⟩ a w) : L ro P ops Q (⟨d, op, ty, pos, aft, none⟩ :: rest) a w := by
  unfold L wpL; rw [if_pos (by simp [Region.wanted])]; exact h
theorem go_on {ops : Array Oper} {rest : List Oper} {d : Option Tmp} {op : Op} {ty : TypeId} {pos : String} {aft : Array Edge} {j : Nat} {want : Bool} (t : Tmp) (hd : (ops[j]?).bind (·.dst) = some t) (hv : a.eval (.tmp t) = .bool want)
    (h : St ro P ops Q rest ⟨d, op, ty, pos, aft, some (j, want)⟩ a w) : L ro P ops Q (⟨d, op, ty, pos, aft, some (j, want)⟩ :: rest) a w := by
  have hy : yielded ops a.tmps j = some want := by
    unfold yielded; rw [hd]
    simp only [Act.eval, Array.getD_eq_getD_getElem?] at hv
    cases h : a.tmps[t]? with
    | none => rw [h] at hv; simp [undef] at hv
    | some v => rw [h] at hv; simp at hv; simp [h, hv]
  unfold L wpL; rw [if_pos (by simp [Region.wanted, hy])]; exact h
theorem go_off {ops : Array Oper} {rest : List Oper} {d : Option Tmp} {op : Op} {ty : TypeId} {pos : String} {aft : Array Edge} {j : Nat} {want have_ : Bool} (t : Tmp) (hd : (ops[j]?).bind (·.dst) = some t) (hv : a.eval (.tmp t) = .bool have_) (hne : (have_ == want) = false)
    (h : L ro P ops Q rest (a.put d undef) w) : L ro P ops Q (⟨d, op, ty, pos, aft, some (j, want)⟩ :: rest) a w := by
  have hy : yielded ops a.tmps j = some have_ := by
    unfold yielded; rw [hd]
    simp only [Act.eval, Array.getD_eq_getD_getElem?] at hv
    cases h : a.tmps[t]? with
    | none => rw [h] at hv; simp [undef] at hv
    | some v => rw [h] at hv; simp at hv; simp [h, hv]
  unfold L wpL; rw [if_neg (by simp [Region.wanted, hy]; simpa using hne)]; exact h
theorem go_none {ops : Array Oper} {rest : List Oper} {d : Option Tmp} {op : Op} {ty : TypeId} {pos : String} {aft : Array Edge} {j : Nat} {want : Bool} (t : Tmp) (hd : (ops[j]?).bind (·.dst) = some t) (hv : a.eval (.tmp t) = undef)
    (h : L ro P ops Q rest (a.put d undef) w) : L ro P ops Q (⟨d, op, ty, pos, aft, some (j, want)⟩ :: rest) a w := by
  have hy : yielded ops a.tmps j = none := by
    unfold yielded; rw [hd]
    simp only [Act.eval, Array.getD_eq_getD_getElem?] at hv
    cases h : a.tmps[t]? with
    | none => simp [h]
    | some v => rw [h] at hv; simp at hv; simp [h, hv, undef]
  unfold L wpL; rw [if_neg (by simp [Region.wanted, hy])]; exact h
end

theorem evc {a : Act} {v : Value} : a.eval (.const v) = v := rfl
theorem evf {a : Act} {f : Nat} : a.eval (.func f) = .func (.func f) #[] #[] := rfl
/-! ### 2. The frame -/
structure Sd (n : Nat) (ds : List Deferred) (a : Act) : Prop where
  size : a.tmps.size = n
  defers : a.defers = ds
abbrev Sz (n : Nat) (a : Act) : Prop := Sd n [] a
theorem Sd.put {n : Nat} {ds : List Deferred} {a : Act} (h : Sd n ds a) (d : Option Tmp) (v : Value) : Sd n ds (a.put d v) := by
  cases d with
  | none => exact h
  | some d => exact ⟨by simp [Act.put, h.size], h.defers⟩
theorem at_same {n : Nat} {ds : List Deferred} {a : Act} (h : Sd n ds a) {d : Nat} (hd : decide (d < n) = true) (v : Value) : (a.put (some d) v).eval (.tmp d) = v := by
  have : d < a.tmps.size := by rw [h.size]; exact of_decide_eq_true hd
  simp [Act.eval, Act.put, this]
theorem at_other {a : Act} {d t : Nat} (hne : Nat.beq d t = false) (v : Value) {u : Value} (h : a.eval (.tmp t) = u) : (a.put (some d) v).eval (.tmp t) = u := by
  have hne' : d ≠ t := Nat.ne_of_beq_eq_false hne
  rw [← h]
  simp [Act.eval, Act.put, Array.getElem?_setIfInBounds_ne hne']
def Evs (a : Act) : List (Nat × Value) → Prop
  | [] => True
  | (t, v) :: l => a.eval (.tmp t) = v ∧ Evs a l
def lookupV : List (Nat × Value) → Nat → Value
  | [], _ => undef
  | (k, v) :: l, t => bif Nat.beq k t then v else lookupV l t
def hasT : List (Nat × Value) → Nat → Bool
  | [], _ => false
  | (k, _) :: l, t => Nat.beq k t || hasT l t
theorem Evs.look {a : Act} : ∀ {l : List (Nat × Value)} {t : Nat}, Evs a l → hasT l t = true → a.eval (.tmp t) = lookupV l t
  | (k, v) :: l, t, h, ht => by
    simp only [hasT, lookupV] at *
    cases hk : Nat.beq k t with
    | true =>
      have := Nat.eq_of_beq_eq_true hk
      subst this
      simp [h.1]
    | false => rw [hk] at ht; simp at ht; simp; exact h.2.look ht
def envOf (l : List (Nat × Value)) : Operand → Value
  | .tmp t => lookupV l t
  | .const v => v
  | .global g => .pointer (some ⟨g, 0, none⟩)
  | .func f => .func (.func f) #[] #[]
def known (l : List (Nat × Value)) (o : Oper) : Bool := (match o.op with | .select .. => false | _ => true) && o.op.operands.all fun
  | .tmp t => hasT l t
  | _ => true
theorem exec_env {a : Act} {o : Oper} {l : List (Nat × Value)} (he : Evs a l) (hk : known l o = true) : execOp a.eval o = execOp (envOf l) o := by
  unfold known at hk
  simp only [Bool.and_eq_true] at hk
  refine execOp_congr o (fun cs b h => by have := hk.1; rw [h] at this; cases this) fun x hx => ?_
  have := Array.all_eq_true_iff_forall_mem.1 hk.2 x hx
  cases x with
  | tmp t => exact he.look this
  | _ => rfl

/-! ### 3. Operations -/
section
variable {ro : Option Nat} {P : Program} {Q : Exit → Act → World → Prop} {a : Act} {w : World} {ops : Array Oper} {rest : List Oper} {d : Option Tmp} {op : Op} {ty : TypeId} {pos : String} {aft : Array Edge} {g : Option (Nat × Bool)}
/-- What comes to a value. -/
theorem St.val {o : Oper} {v : Value} {w' : World} (h : (execOp a.eval o).run P w = .ok (.value v) w') (k : L ro P ops Q rest (a.put o.dst v) w') : St ro P ops Q rest o a w := by
  unfold St; rw [h]; exact k
theorem mv {x : Operand} {v : Value} (hx : a.eval x = v) (k : L ro P ops Q rest (a.put d v) w) : St ro P ops Q rest ⟨d, .move x, ty, pos, aft, g⟩ a w := St.val (v := v) (by simp [execOp, hx]) k
end
/-! ### 4. Memory -/
section
variable {ro : Option Nat} {P : Program} {Q : Exit → Act → World → Prop} {a : Act} {w : World} {ops : Array Oper} {rest : List Oper} {d : Option Tmp} {op : Op} {ty : TypeId} {pos : String} {aft : Array Edge} {g : Option (Nat × Bool)}
/-- A new block. -/
theorem mk (l : List (Nat × Value)) (he : Evs a l) (hk : known l ⟨d, op, ty, pos, aft, g⟩ = true) (cs : List Value) (t : TypeId) (v : Nat → Value)
    (hr : (execOp (envOf l) ⟨d, op, ty, pos, aft, g⟩).run P w = .ok (.value (v w.heap.size)) (w.alloc (.cells cs.toArray t (0, 0))))
    (k : ∀ w1 b, b = w.heap.size → Blk w1 b cs t → Fr [] w w1 → w1.heap.size = b + 1 → L ro P ops Q rest (a.put d (v b)) w1) : St ro P ops Q rest ⟨d, op, ty, pos, aft, g⟩ a w :=
  St.val (by rw [exec_env he hk]; exact hr) (k _ _ rfl (Blk.new w cs t) (Fr.alloc _ _ _) (by simp))
def scalar (P : Program) (t : TypeId) : Bool := match P.underlying t with
  | some (.struct _) => false
  | some (.array ..) => false
  | some _ => true
  | none => false
theorem isAgg_scalar {t : TypeId} (h : scalar P t = true) : (isAgg t).run P w = .ok false w := by
  unfold scalar at h
  split at h
  · cases h
  · cases h
  · rename_i dd h1 h2 hd
    unfold isAgg
    rw [Sem.run_bind, run_underlying hd]
    simp only [Result.andThen_ok]
    cases dd <;> first | rfl | exact (h1 _ rfl).elim | exact (h2 _ _ rfl).elim
  · cases h
theorem run_loadVar_scalar {t : TypeId} (h : scalar P t = true) {ad : Addr} {v : Value} (hc : w.cell? ad = some v) : (loadVar t ad).run P w = .ok v w := by
  unfold loadVar
  rw [Sem.run_bind, isAgg_scalar h]
  simp only [Result.andThen_ok, Bool.false_eq_true, if_false]
  exact Plan.load_kept hc
def aggSize (P : Program) (t : TypeId) : Option Nat := match P.underlying t with
  | some (.struct _) => (P.info? t).map (·.size)
  | some (.array ..) => (P.info? t).map (·.size)
  | _ => none
theorem aggSize_spec {t : TypeId} {n : Nat} (h : aggSize P t = some n) : (isAgg t).run P w = .ok true w ∧ (sizeOf t).run P w = .ok n w := by
  unfold aggSize at h
  split at h
  all_goals first
    | (rename_i hd
       obtain ⟨i, hi, rfl⟩ := Option.map_eq_some_iff.1 h
       exact ⟨by unfold isAgg; rw [Sem.run_bind, run_underlying hd]; rfl, by unfold sizeOf typeInfo; simp [Sem.run_bind, hi]⟩)
    | cases h
theorem run_loadVar_agg {t : TypeId} {cs : List Value} (h : aggSize P t = some cs.length) {ad : Addr} (hc : ∀ j u, cs[j]? = some u → w.cell? (ad.add j) = some u) : (loadVar t ad).run P w = .ok (.agg cs.toArray) w := by
  obtain ⟨h1, h2⟩ := aggSize_spec (w := w) h
  unfold loadVar
  rw [Sem.run_bind, h1]
  simp only [Result.andThen_ok, if_true]
  rw [Sem.run_bind, h2]
  simp only [Result.andThen_ok]
  rw [Sem.run_bind, run_loadCells_list (w := w) (P := P) ad cs hc]
  rfl
/-- Cells of a block, from one on. -/
theorem blk_cells {b : Nat} {cs0 : List Value} {bt : TypeId} (h : Blk w b cs0 bt) (off : Nat) (cs : List Value) (hcs : (cs0.drop off).take cs.length = cs) : ∀ j u, cs[j]? = some u → w.cell? ((⟨b, off, none⟩ : Addr).add j) = some u := by
  intro j u hj
  have ha : (⟨b, off, none⟩ : Addr).add j = ⟨b, off + j, none⟩ := by unfold Addr.add; split <;> simp_all
  rw [ha, h.cell]
  have hlt : j < cs.length := (List.getElem?_eq_some_iff.1 hj).1
  rw [← hcs, List.getElem?_take_of_lt hlt, List.getElem?_drop] at hj
  exact hj
def over : List Value → Nat → List Value → List Value
  | cs, _, [] => cs
  | cs, off, v :: vs => over (cs.set off v) (off + 1) vs
theorem over_length : ∀ (vs cs : List Value) (off : Nat), (over cs off vs).length = cs.length
  | [], cs, off => rfl
  | v :: vs, cs, off => by simp [over, over_length vs]
theorem run_storeCells (b : Nat) (bt : TypeId) (off0 : Nat) : ∀ (vs : List Value) (i : Nat) (w : World) (cs : List Value), (∀ v ∈ vs, v.oneCell' = true) → Blk w b cs bt → off0 + i + vs.length ≤ cs.length →
    ∃ w1, (storeCells ⟨b, off0, none⟩ vs i).run P w = .ok () w1 ∧ Blk w1 b (over cs (off0 + i) vs) bt ∧ Fr [b] w w1 ∧ w1.heap.size = w.heap.size
  | [], i, w, cs, _, hB, _ => ⟨w, rfl, hB, Fr.refl _ _, rfl⟩
  | v :: vs, i, w, cs, h1, hB, hl => by
    have ha : (⟨b, off0, none⟩ : Addr).add i = ⟨b, off0 + i, none⟩ := by unfold Addr.add; split <;> simp_all
    simp only [List.length_cons] at hl
    have hcell : w.cell? ⟨b, off0 + i, none⟩ = some (cs[off0 + i]'(by omega)) := by rw [hB.cell, List.getElem?_eq_getElem]
    have hst : (store ⟨b, off0 + i, none⟩ v).run P w = .ok () (w.setCell ⟨b, off0 + i, none⟩ v) := by
      rw [run_store P w _ v .plain (h1 v (List.mem_cons_self ..))]
      simp [stored, hcell, hB.frozen]
    obtain ⟨w1, h2, h3, h4, h5⟩ := run_storeCells b bt off0 vs (i + 1) (w.setCell ⟨b, off0 + i, none⟩ v) (cs.set (off0 + i) v) (fun u hu => h1 u (List.mem_cons_of_mem _ hu)) (hB.set _ _) (by simp; omega)
    refine ⟨w1, ?_, h3, ?_, ?_⟩
    · unfold storeCells
      rw [Sem.run_bind, ha, hst]
      exact h2
    · exact (Fr.setCell w ⟨b, off0 + i, none⟩ v).trans h4 (fun k hk _ => by simpa using hk)
    · rw [h5]; simp
/-- A store into a block that is known whole. -/
theorem stn {t : TypeId} {x y : Operand} (b off : Nat) (v : Value) (vs : List Value) (hx : a.eval x = .pointer (some ⟨b, off, none⟩)) (hy : a.eval y = v) (hvs : v.cells = vs.toArray) (h1 : vs.all Value.oneCell' = true)
    (ht : (P.info? t).map (·.size) = some vs.length) {cs : List Value} {bt : TypeId} (hB : Blk w b cs bt) (hoff : off + vs.length ≤ cs.length) (cs' : List Value) (hcs : over cs off vs = cs')
    (k : ∀ w1, Blk w1 b cs' bt → Fr [b] w w1 → w1.heap.size = w.heap.size → L ro P ops Q rest a w1) : St ro P ops Q rest ⟨none, .store t x y, ty, pos, aft, g⟩ a w := by
  subst hcs
  obtain ⟨w1, h2, h3, h4, h5⟩ := run_storeCells (P := P) b bt off vs 0 w cs (fun u hu => List.all_eq_true.1 h1 u hu) hB (by simpa using hoff)
  obtain ⟨i, hi, hs⟩ := Option.map_eq_some_iff.1 ht
  unfold St
  have hr : (execOp a.eval ⟨none, .store t x y, ty, pos, aft, g⟩).run P w = .ok .skip w1 := by
    simp only [execOp, hx, hy, Instr.storeAt, Instr.sureAddr, storeVar, Sem.run_bind, Sem.run_pure, Result.andThen_ok, sizeOf, typeInfo, run_program, hi, hs, hvs, List.size_toArray, ne_eq, not_true_eq_false, if_false]
    rw [h2]
    rfl
  rw [hr]
  exact k w1 (by simpa using h3) h4 h5
/-- A string's byte. -/
def byt (s : ByteArray) (i : Int) : UInt8 := s.data.getD i.toNat 0
def bi (s : ByteArray) (i : Int) : Int := ((byt s i).toNat : Int)
theorem ixs {t : TypeId} {x i : Operand} (s : ByteArray) (kk : IntKind) (iv : Int) (hx : a.eval x = .string s) (hi : a.eval i = .int kk iv) (h0 : 0 ≤ iv) (h1 : iv < s.size) (ht : P.underlying t = some .string)
    (k : L ro P ops Q rest (a.put d (.int .u8 (bi s iv))) w) : St ro P ops Q rest ⟨d, .index t x i, ty, pos, aft, g⟩ a w := by
  refine St.val (v := .int .u8 (bi s iv)) (w' := w) ?_ k
  have hlt : iv.toNat < s.size := by omega
  have hg : s[iv.toNat]? = some (byt s iv) := by
    unfold byt
    have hlt' : iv.toNat < s.data.size := hlt
    simp only [Array.getD_eq_getD_getElem?]
    rw [show s[iv.toNat]? = s.data[iv.toNat]? from by simp [getElem?_def, hlt, hlt']; rfl, Array.getElem?_eq_getElem hlt']
    rfl
  simp only [execOp, hx, hi, Instr.index, asIntOf, Sem.run_bind, Sem.run_pure, Result.andThen_ok, run_underlying ht, h0, if_true, hg, bi]
theorem callsFW {f : FuncId} {args : Array Value} {R : Ending → World → Prop} (h : Calls P f args w R) : CallsIn (FW ro) 0 P f args w R := by
  have h0 : CallsIn Fence.wide 0 P f args w R := callsIn_wide.2 h
  cases ro with
  | none => exact h0
  | some l => exact h0.inRound l
/-- A call of a function whose contract is known. -/
theorem call {f : Operand} {args : Array Operand} {ts : Array TypeId} (gn : FuncId) (cap av : Array Value) (hf : a.eval f = .func (.func gn) #[] cap) (ha : args.map a.eval = av)
    (he : ∀ args w, (callFunc gn args).run P w = .ok (.enter gn args) w) {R : Ending → World → Prop} (hc : Calls P gn (av ++ cap) w R)
    (k : ∀ e w1, R e w1 → ∃ v, e = .returned v ∧ L ro P ops Q rest (a.put d v) w1) : St ro P ops Q rest ⟨d, .call ⟨.value f, args, ts⟩, ty, pos, aft, g⟩ a w := by
  unfold St
  have hr : (execOp a.eval ⟨d, .call ⟨.value f, args, ts⟩, ty, pos, aft, g⟩).run P w = .ok (.enter gn (av ++ cap)) w := by
    simp only [execOp, resolve, hf, ha, Deferred.ofValue, Sem.run_bind, Sem.run_pure, Result.andThen_ok, invoke, he, Array.empty_append]
  rw [hr]
  refine ⟨(fun h => by cases h), (callsFW hc).mono fun e w1 h => ?_⟩
  obtain ⟨v, rfl, hk⟩ := k e w1 h
  exact hk
end

/-! ### 5. A call's end -/
section
variable {P : Program} {fn : Func} {R : Ending → World → Prop} {a : Act} {w : World} {n : Nat}
theorem ret0 (hz : Sz n a) (hf : fn.results = #[]) (hR : R (.returned (.tuple #[])) w) : bodyPost P fn R .ret a w := bodyPost_ret (results_none hf _ _ _) hz.defers hR
theorem end0 (hz : Sz n a) (hf : fn.results = #[]) (hR : R (.returned (.tuple #[])) w) : bodyPost P fn R .normal a w := bodyPost_end (results_none hf _ _ _) hz.defers hR
theorem ret1 (hz : Sz n a) {t : Tmp} (hf : fn.results = #[.tmp t]) {v : Value} (hv : a.eval (.tmp t) = v) (hR : R (.returned v) w) : bodyPost P fn R .ret a w :=
  bodyPost_ret (v := v) ((results_tmp hf _ _ _).trans (by rw [← hv]; rfl)) hz.defers hR
theorem ret2 (hz : Sz n a) {t u : Tmp} (hf : fn.results = #[.tmp t, .tmp u]) {v v' : Value} (hv : a.eval (.tmp t) = v) (hv' : a.eval (.tmp u) = v') (hR : R (.returned (.tuple #[v, v'])) w) : bodyPost P fn R .ret a w :=
  bodyPost_ret (v := .tuple #[v, v']) ((results_tmp2 hf _ _ _).trans (by rw [← hv, ← hv']; rfl)) hz.defers hR
theorem ret3 (hz : Sz n a) {t u s : Tmp} (hf : fn.results = #[.tmp t, .tmp u, .tmp s]) {v v' v'' : Value} (hv : a.eval (.tmp t) = v) (hv' : a.eval (.tmp u) = v') (hv'' : a.eval (.tmp s) = v'') (hR : R (.returned (.tuple #[v, v', v''])) w) : bodyPost P fn R .ret a w := by
  refine bodyPost_ret (v := .tuple #[v, v', v'']) ?_ hz.defers hR
  have e1 : a.tmps[t]?.getD undef = v := by have := hv; simpa [Act.eval] using this
  have e2 : a.tmps[u]?.getD undef = v' := by have := hv'; simpa [Act.eval] using this
  have e3 : a.tmps[s]?.getD undef = v'' := by have := hv''; simpa [Act.eval] using this
  simp [results, hf, e1, e2, e3]
/-- one result that lies in memory, one that lies in a temporary -/
theorem retC (hz : Sz n a) {s t : Nat} (hf : fn.results = #[.cell s t]) (ad : Addr) (hs : a.eval (.tmp s) = .pointer (some ad)) {v : Value} (hl : (loadVar t ad).run P w = .ok v w) (hR : R (.returned v) w) : bodyPost P fn R .ret a w := by
  refine bodyPost_ret (v := v) ?_ hz.defers hR
  have e1 : a.tmps[s]?.getD undef = .pointer (some ad) := by have := hs; simpa [Act.eval] using this
  simp [results, hf, e1, asAddr, Sem.run_bind, hl]
theorem retCT (hz : Sz n a) {s t u : Nat} (hf : fn.results = #[.cell s t, .tmp u]) (ad : Addr) (hs : a.eval (.tmp s) = .pointer (some ad)) {v v' : Value} (hl : (loadVar t ad).run P w = .ok v w) (hu : a.eval (.tmp u) = v') (hR : R (.returned (.tuple #[v, v'])) w) : bodyPost P fn R .ret a w := by
  refine bodyPost_ret (v := .tuple #[v, v']) ?_ hz.defers hR
  have e1 : a.tmps[s]?.getD undef = .pointer (some ad) := by have := hs; simpa [Act.eval] using this
  have e2 : a.tmps[u]?.getD undef = v' := by have := hu; simpa [Act.eval] using this
  simp [results, hf, e1, e2, asAddr, Sem.run_bind, hl]
theorem enter {f : FuncId} {c : Code} {args : Array Value} (N : Nat) (hf : P.funcs[f]? = some fn) (hb : fn.body = some c) (hn : args.size + (fn.ntmps - args.size) = N)
    (h : ∀ a, Sz N a → (∀ j v, args[j]? = some v → a.eval (.tmp j) = v) → Wp none P c (bodyPost P fn R) a w) : Calls P f args w R := by
  refine callsIn_wide.1 (callsIn_of_wp (F := Fence.wide) (n := 0) hf hb trivial (h _ ⟨?_, rfl⟩ ?_))
  · simp only [Array.size_append, Array.size_replicate]; exact hn
  · intro j v hj
    have hlt : j < args.size := (Array.getElem?_eq_some_iff.1 hj).1
    simp only [Act.eval, Array.getD_eq_getD_getElem?]
    rw [Array.getElem?_append_left hlt, hj]
    rfl
end
/-! ### 6. Contexts; a new letter for the frame -/
section
variable {ro : Option Nat} {P : Program} {K : Act → World → Prop} {Q : Exit → Act → World → Prop} {a : Act} {w : World} {ops : Array Oper} {rest : List Oper} {c : Code}
theorem then_n (h : K a w) : Exit.then K Q .normal a w := h
theorem then_e {i : Nat} (h : Q (.exit i) a w) : Exit.then K Q (.exit i) a w := h
theorem then_r (h : Q .ret a w) : Exit.then K Q .ret a w := h
theorem blk_n {i : Nat} (h : Q .normal a w) : Exit.inBlock i Q .normal a w := h
theorem blk_hit {i : Nat} (h : Q .normal a w) : Exit.inBlock i Q (.exit i) a w := by unfold Exit.inBlock; simpa using h
theorem blk_miss {i j : Nat} (hne : Nat.beq i j = false) (h : Q (.exit j) a w) : Exit.inBlock i Q (.exit j) a w := by
  have hne' : i ≠ j := Nat.ne_of_beq_eq_false hne
  unfold Exit.inBlock
  simp only
  first
    | (rw [if_neg (fun e => hne' e.symm)]; exact h)
    | (rw [if_neg hne']; exact h)
theorem blk_r {i : Nat} (h : Q .ret a w) : Exit.inBlock i Q .ret a w := h
theorem loop1 {α : Type} (I : α → Act → World → Prop) (m : α → Nat) (x : α) (h0 : I x a w) (hr : ∀ x a w, I x a w → Wp ro P c (Exit.then (fun a' w' => ∃ x', m x' < m x ∧ I x' a' w') Q) a w) : Wp ro P (.loop c) Q a w := loop I m x h0 hr
theorem loop2 {α β : Type} (I : α → β → Act → World → Prop) (m : α → β → Nat) (x : α) (y : β) (h0 : I x y a w) (hr : ∀ x y a w, I x y a w → Wp ro P c (Exit.then (fun a' w' => ∃ x' y', m x' y' < m x y ∧ I x' y' a' w') Q) a w) : Wp ro P (.loop c) Q a w :=
  loop (fun s : α × β => I s.1 s.2) (fun s => m s.1 s.2) (x, y) h0 fun s a w h => mono (hr s.1 s.2 a w h) fun e a w q => by cases e <;> first | (obtain ⟨x', y', q⟩ := q; exact ⟨(x', y'), q⟩) | exact q
theorem loop3 {α β γ : Type} (I : α → β → γ → Act → World → Prop) (m : α → β → γ → Nat) (x : α) (y : β) (z : γ) (h0 : I x y z a w) (hr : ∀ x y z a w, I x y z a w → Wp ro P c (Exit.then (fun a' w' => ∃ x' y' z', m x' y' z' < m x y z ∧ I x' y' z' a' w') Q) a w) : Wp ro P (.loop c) Q a w :=
  loop2 (fun (s : α × β) => I s.1 s.2) (fun s => m s.1 s.2) (x, y) z h0 fun s z a w h => mono (hr s.1 s.2 z a w h) fun e a w q => by cases e <;> first | (obtain ⟨x', y', z', q⟩ := q; exact ⟨(x', y'), z', q⟩) | exact q
end

/-! numbers that fit their kind -/
theorem w_i64 {x : Int} (h : -9223372036854775808 ≤ x) (h' : x ≤ 9223372036854775807) : Value.int .i64 (IntKind.i64.wrap x) = .int .i64 x := by
  rw [IntWalk.i64_in _ ⟨h, h'⟩]
theorem w_u8 {x : Int} (h : 0 ≤ x) (h' : x ≤ 255) : Value.int .u8 (IntKind.u8.wrap x) = .int .u8 x := by rw [IntWalk.u8_in _ ⟨h, h'⟩]
theorem w_u64 {x : Int} (h : 0 ≤ x) (h' : x ≤ 18446744073709551615) : Value.int .u64 (IntKind.u64.wrap x) = .int .u64 x := by rw [IntWalk.u64_in _ ⟨h, h'⟩]
/-! tests, as propositions -/
theorem t_eql {x y : Int} : Value.bool (x == y) = .bool (decide (x = y)) := by rw [show (x == y) = decide (x = y) from by rw [Bool.eq_iff_iff]; simp]
theorem t_neq {x y : Int} : Value.bool (x != y) = .bool (decide (¬ x = y)) := by congr 1; rw [Bool.eq_iff_iff]; simp
theorem t_not {p : Prop} [Decidable p] : Value.bool (!decide p) = .bool (decide (¬ p)) := by congr 1; simp
theorem toList_inj {s t : ByteArray} : s.toList = t.toList ↔ s = t := by
  constructor
  · intro h
    rw [ByteArray.toList_eq, ByteArray.toList_eq] at h
    cases s; cases t
    congr 1
    exact Array.ext' h
  · rintro rfl; rfl
theorem t_seql {s t : ByteArray} : Value.bool (s.toList == t.toList) = .bool (decide (s = t)) := by congr 1; rw [Bool.eq_iff_iff]; simp [toList_inj]
theorem t_sneq {s t : ByteArray} : Value.bool (!(s.toList == t.toList)) = .bool (decide (¬ s = t)) := by congr 1; rw [Bool.eq_iff_iff]; simp [toList_inj]
theorem int_eq {k : IntKind} {x y : Int} (h : x = y) : Value.int k x = .int k y := by rw [h]
theorem sl_eq {A : Option Addr} {n m c : Nat} (h : n = m) : Value.slice A n c = .slice A m c := by rw [h]
theorem bt {b : Bool} (h : b = true) : Value.bool b = .bool true := by rw [h]
theorem byt_lt (s : ByteArray) (i : Int) : 0 ≤ bi s i ∧ bi s i ≤ 255 := by unfold bi; have := (byt s i).toNat_lt; omega
def slt (s t : ByteArray) : Prop := Op.bytesLess s.toList t.toList = true
instance (s t : ByteArray) : Decidable (slt s t) := by unfold slt; exact inferInstance
theorem less_tri : ∀ l k : List UInt8, Op.bytesLess k l = (!(Op.bytesLess l k || l == k))
  | [], [] => rfl
  | [], _ :: _ => rfl
  | _ :: _, [] => rfl
  | a :: l, b :: k => by
    simp only [Op.bytesLess, less_tri l k]
    by_cases hab : a = b
    · subst hab
      have : ¬ a < a := fun h => by have := UInt8.lt_iff_toNat_lt.1 h; omega
      simp [this]
    · have hba : ¬ b = a := fun h => hab h.symm
      by_cases hlt : a < b
      · have h2 : ¬ b < a := fun h => by have h1 := UInt8.lt_iff_toNat_lt.1 h; have h3 := UInt8.lt_iff_toNat_lt.1 hlt; omega
        simp [hlt, h2, hba]
      · have h2 : b < a := by
          rw [UInt8.lt_iff_toNat_lt] at hlt ⊢
          have : a.toNat ≠ b.toNat := fun h => hab (UInt8.toNat_inj.1 h)
          omega
        simp [hlt, h2, hab]
theorem t_slss {s t : ByteArray} : Value.bool (Op.bytesLess s.toList t.toList) = .bool (decide (slt s t)) := congrArg Value.bool (by rw [Bool.eq_iff_iff, decide_eq_true_eq]; rfl)
theorem t_sgeq {s t : ByteArray} : Value.bool (!Op.bytesLess s.toList t.toList) = .bool (decide (¬ slt s t)) := by congr 1; rw [Bool.eq_iff_iff]; simp [slt]
theorem t_sgtr {s t : ByteArray} : Value.bool (!(Op.bytesLess s.toList t.toList || s.toList == t.toList)) = .bool (decide (slt t s)) := congrArg Value.bool (by rw [← less_tri, Bool.eq_iff_iff, decide_eq_true_eq]; rfl)
theorem rem_in {k : IntKind} {x y : Int} (h : 0 ≤ x) : Value.int k (Int.tmod x y) = .int k (x % y) := by rw [Int.tmod_eq_emod_of_nonneg h]
theorem quo_i64 {x y : Int} (h : 0 ≤ x) (h1 : 0 < y) (h2 : x ≤ 9223372036854775807) : Value.int .i64 (IntKind.i64.wrap (Int.tdiv x y)) = .int .i64 (x / y) := by
  rw [Int.tdiv_eq_ediv_of_nonneg h]
  have h3 : x / y ≤ x := Int.ediv_le_self y h
  have h4 : 0 ≤ x / y := Int.ediv_nonneg h (by omega)
  exact w_i64 (by omega) (by omega)
section
variable {a : Act}
variable {ro : Option Nat} {P : Program} {Q : Exit → Act → World → Prop} {w : World} {ops : Array Oper} {rest : List Oper} {d : Option Tmp} {ty : TypeId} {pos : String} {aft : Array Edge} {g : Option (Nat × Bool)}
theorem cat {t t' : TypeId} {x y : Operand} {s u : ByteArray} (hx : a.eval x = .string s) (hy : a.eval y = .string u) (h : s.size + u.size ≤ 9223372036854775807) (k : L ro P ops Q rest (a.put d (.string (s ++ u))) w) : St ro P ops Q rest ⟨d, .binOp .add t x y t', ty, pos, aft, g⟩ a w := by
  refine St.val (v := .string (s ++ u)) (w' := w) ?_ k
  have h' : ¬ ((s.size + u.size : Nat) : Int) > IntKind.i64.max := by
    have : IntKind.i64.max = 9223372036854775807 := rfl
    omega
  simp only [execOp, hx, hy, eqGuard, binOp, Op.stringOp]
  rw [if_neg h']
  rfl
/-- A load that was carried out early: its block is there still, those cells as they were. -/
theorem held_blk {t : TypeId} {x : Operand} {b off : Nat} (hx : a.eval x = .pointer (some ⟨b, off, none⟩)) {w' : World} {cs cs' : List Value} {bt bt' : TypeId} (h : Blk w b cs bt) (h' : Blk w' b cs' bt') {n : Nat}
    (hn : (P.info? t).map (fun i => max 1 i.size) = some n) (he : (cs.drop off).take n = (cs'.drop off).take n) (hl : off + n ≤ cs.length) : Plan.CellsKept P t (a.eval x) w w' := by
  rw [hx]
  unfold Plan.CellsKept
  intro i hi k hk
  obtain ⟨i', hi', rfl⟩ := Option.map_eq_some_iff.1 hn
  rw [hi] at hi'; injection hi' with hi'; subst hi'
  have ha : (⟨b, off, none⟩ : Addr).add k = ⟨b, off + k, none⟩ := by unfold Addr.add; split <;> simp_all
  rw [ha, h.cell, h'.cell]
  have h1 : cs[off + k]? = cs'[off + k]? := by
    have := congrArg (fun l => l[k]?) he
    simpa [List.getElem?_take_of_lt hk, List.getElem?_drop] using this
  exact ⟨_, List.getElem?_eq_getElem (by omega), h1 ▸ List.getElem?_eq_getElem (by omega)⟩
end
theorem plan {ro : Option Nat} {P : Program} {Q : Exit → Act → World → Prop} {l : List Oper} {id : Nat} {a : Act} {w : World} (A : List (List Nat)) (p : Plan.Plan) (hm : P.follows .mixedOrders = true) (hok : Plan.planOk l A p = true)
    (hQ : ∀ c a t w, Q (.panic c) { a with tmps := t } w → Q (.panic c) a w) (h : Plan.wpSegs ro P l Q p a w.drew) : Wp ro P (.region id l.toArray true) Q a w := Plan.wp_region_plan A p hm hok hQ h
def hasG (l : List (Nat × Value)) (ops : Array Oper) (o : Oper) : Bool := match o.guard with
  | none => true
  | some (j, _) => match (ops[j]?).bind (·.dst) with
    | none => true
    | some t => hasT l t
def chkE (P : Program) (l : List (Nat × Value)) (ops : Array Oper) (os : List Oper) : Bool := os.all fun o => Plan.isL o || ((Plan.asks o).all (hasT l) && Plan.okP P (envOf l) o) || (hasG l ops o && Plan.offE ops (envOf l) o)
theorem chk {P : Program} {a : Act} (l : List (Nat × Value)) {ops : Array Oper} {os : List Oper} (he : Evs a l) (hk : chkE P l ops os = true) : Plan.segChk P ops a os = true := by
  unfold Plan.segChk
  unfold chkE at hk
  rw [List.all_eq_true] at hk ⊢
  intro o ho
  have h := hk o ho
  simp only [Bool.or_eq_true, Bool.and_eq_true] at h ⊢
  rcases h with (h | ⟨h1, h2⟩) | ⟨h1, h2⟩
  · exact .inl (.inl h)
  · refine .inl (.inr ?_)
    rw [← h2]
    refine Plan.okP_congr fun x hx => ?_
    cases x with
    | tmp t => exact he.look (List.all_eq_true.1 h1 t (hx t rfl))
    | _ => rfl
  · refine .inr ?_
    rw [← h2]
    refine Plan.offE_congr fun j w t hg hd => ?_
    unfold hasG at h1
    rw [hg] at h1
    simp only [hd] at h1
    exact he.look h1
attribute [irreducible] Wp L St
/-! ### Short forms -/
section
variable {n : Nat} {ds : List Deferred} {a : Act} {t : Nat} {u : Value}
theorem Sd.p1 {d1 : Option Tmp} {v1 : Value} (h : Sd n ds a) : Sd n ds (a.put d1 v1) := h.put _ _
theorem Sd.p2 {d1 d2 : Option Tmp} {v1 v2 : Value} (h : Sd n ds a) : Sd n ds ((a.put d1 v1).put d2 v2) := h.p1.p1
theorem Sd.p4 {d1 d2 d3 d4 : Option Tmp} {v1 v2 v3 v4 : Value} (h : Sd n ds a) : Sd n ds ((((a.put d1 v1).put d2 v2).put d3 v3).put d4 v4) := h.p2.p2
end
section
variable {n : Nat} {ds : List Deferred} {ro : Option Nat} {P : Program} {Q : Exit → Act → World → Prop} {a : Act} {w : World} {ops : Array Oper} {rest : List Oper} {d : Option Tmp} {op : Op} {ty : TypeId} {pos : String} {aft : Array Edge}
theorem rg {l : List Oper} {id : Nat} (h : L ro P l.toArray Q l a w) (hnd : Plan.noDefer l.toArray = true := by kernel_rfl) : Wp ro P (.region id l.toArray false) Q a w := region hnd h
end
end Go.V
end
section
namespace Go.Plan
open Go.RowKit
set_option linter.unusedVariables false
inductive PT where
  | nil
  | pure (i : Nat) (r : PT)
  | eff (j : Nat) (keep : List Nat) (r : PT)
  | alt (p q : PT)
def PT.heads : PT → List Nat
  | .eff j _ _ => [j]
  | .alt p q => p.heads ++ q.heads
  | _ => []
def PT.isE : PT → Bool
  | .eff .. => true
  | .alt p q => p.isE && q.isE
  | _ => false
section
variable {P : Program} {ro : Option Nat} {ops : Array Oper} {Q : Exit → Act → World → Prop} {A : List (List Nat)}
def wpPT (ro : Option Nat) (P : Program) (ops : Array Oper) (Q : Exit → Act → World → Prop) : PT → Act → World → Prop
  | .nil, a, w => Q .normal a w
  | .pure i r, a, w => ∃ o v, ops[i]? = some o ∧ YW P ops o v a w ∧ (isL o = true ∨ Yields P ops o v a) ∧ wpPT ro P ops Q r (a.put o.dst v) w
  | .eff j keep r, a, w => wpOpIn (FW ro) 0 P ops Q j (fun a' w' => Held P ops keep a w w' ∧ wpPT ro P ops Q r a' w') a w
  | .alt p q, a, w => wpPT ro P ops Q p a w ∧ wpPT ro P ops Q q a w
def onlyOk (ops : Array Oper) (t : PT) (done : List Nat) : Bool := !t.isE || (List.range ops.size).all fun i => t.heads.contains i || done.contains i || !(deps ops i).all done.contains
def chkT (ops : Array Oper) (A : List (List Nat)) : PT → List Nat → Bool
  | .nil, done => (List.range ops.size).all done.contains
  | .pure i r, done => decide (i < ops.size) && !done.contains i && (deps ops i).all done.contains && onlyOk ops r (i :: done) && chkT ops A r (i :: done)
  | .eff j keep r, done => decide (j < ops.size) && !done.contains j && (deps ops j).all done.contains &&
      (done.all fun i => (A.getD j []).contains i || keep.contains i || match ops[i]? with | some o => !isL o | none => true) && onlyOk ops r (j :: done) && chkT ops A r (j :: done)
  | .alt p q, done => p.isE && q.isE && chkT ops A p done && chkT ops A q done
theorem pick_head : ∀ {t : PT} {done : List Nat} {i : Nat} {a : Act} {w : World}, i ∈ t.heads → chkT ops A t done = true → wpPT ro P ops Q t a w → ∃ keep r, chkT ops A (.eff i keep r) done = true ∧ wpPT ro P ops Q (.eff i keep r) a w
  | .nil, _, _, _, _, h, _, _ => by cases h
  | .pure .., _, _, _, _, h, _, _ => by cases h
  | .eff j keep r, _, _, _, _, h, hc, hp => by
    have h' := List.mem_singleton.1 h
    subst h'; exact ⟨keep, r, hc, hp⟩
  | .alt p q, _, _, _, _, h, hc, hp => by
    simp only [chkT, Bool.and_eq_true] at hc
    rcases List.mem_append.1 h with h | h
    · exact pick_head h hc.1.2 hp.1
    · exact pick_head h hc.2 hp.2
theorem head_ex : ∀ {t : PT} {done : List Nat}, t.isE = true → chkT ops A t done = true → ∃ i ∈ t.heads, i < ops.size ∧ i ∉ done ∧ ∀ d ∈ deps ops i, d ∈ done
  | .nil, _, h, _ => by cases h
  | .pure .., _, h, _ => by cases h
  | .eff j keep r, _, _, hc => by
    simp only [chkT, Bool.and_eq_true, decide_eq_true_eq, Bool.not_eq_true', List.contains_eq_mem, decide_eq_false_iff_not, List.all_eq_true] at hc
    exact ⟨j, List.mem_singleton.2 rfl, hc.1.1.1.1.1, hc.1.1.1.1.2, fun d hd => by simpa using hc.1.1.1.2 d hd⟩
  | .alt p q, _, h, hc => by
    simp only [chkT, Bool.and_eq_true] at hc
    obtain ⟨i, hi, hr⟩ := head_ex hc.1.1.1 hc.1.2
    exact ⟨i, List.mem_append.2 (.inl hi), hr⟩
theorem wpAny_of_planT (hnd0 : noDefer ops = true) (hsel : Region.noSelect ops = true) (hT : tabOk ops A = true) (hap : apartOk ops A = true) (hld : loadsOk ops A = true)
    (hQ : ∀ c a t w, Q (.panic c) { a with tmps := t } w → Q (.panic c) a w) :
    ∀ (fuel : Nat) (plan : PT) (lr : Array Bool) (V : List (Nat × Value)) (done : List Nat) (a : Act) (w : World),
      left lr ≤ fuel → Inv P ops lr V done a w → onlyOk ops plan done = true → chkT ops A plan done = true → wpPT ro P ops Q plan (putAll ops a V) w → wpAnyIn (FW ro) 0 P .any ops Q fuel lr a w := by
  intro fuel
  induction fuel with
  | zero =>
    intro plan lr V done a w hf hI ho hc hp
    have hall : ∀ i, i < ops.size → lr.getD i true = true := by
      intro i hi
      cases h : lr.getD i true with
      | true => rfl
      | false =>
        have := left_set (by rw [hI.size]; exact hi) h
        omega
    have hV : V = [] := by
      cases V with
      | nil => rfl
      | cons p V =>
        have h1 := hI.fresh p.1 (by simp)
        obtain ⟨⟨o, ho, _⟩, _⟩ := hI.yields [] p.1 p.2 V rfl
        rw [hall _ (Array.getElem?_eq_some_iff.1 ho).1] at h1
        cases h1
    subst hV
    have hdone : ∀ i, i < ops.size → i ∈ done := fun i hi => (hI.mem i).2 (.inl (by
      have := hall i hi
      have hi' : i < lr.size := by rw [hI.size]; exact hi
      simp [hi'] at this ⊢; exact this))
    have hplan : plan = .nil := by
      cases hE : plan.isE with
      | true =>
        obtain ⟨i, _, h1, h2, _⟩ := head_ex hE hc
        exact absurd (hdone i h1) h2
      | false =>
        cases plan with
        | nil => rfl
        | pure i r =>
          simp only [chkT, Bool.and_eq_true, decide_eq_true_eq, Bool.not_eq_true', List.contains_eq_mem, decide_eq_false_iff_not] at hc
          exact absurd (hdone i hc.1.1.1.1) hc.1.1.1.2
        | eff j k r => cases hE
        | alt p q =>
          simp only [chkT, Bool.and_eq_true] at hc
          simp only [PT.isE, hc.1.1.1, hc.1.1.2] at hE
          cases hE
    subst hplan
    refine ⟨?_, hp⟩
    cases hr : Region.ready .any ops lr with
    | nil => rfl
    | cons j l =>
      have hj : j ∈ Region.ready .any ops lr := by rw [hr]; exact List.mem_cons_self ..
      have := ready_iff.1 hj
      rw [hall j this.2.1] at this
      cases this.1
  | succ fuel ih =>
    intro plan
    have early : ∀ (plan : PT) (lr : Array Bool) (V : List (Nat × Value)) (done : List Nat) (a : Act) (w : World) (i : Nat), left lr ≤ fuel + 1 → Inv P ops lr V done a w → onlyOk ops plan done = true → chkT ops A plan done = true →
        wpPT ro P ops Q plan (putAll ops a V) w → i ∈ Region.ready .any ops lr → i ∈ V.map Prod.fst → wpOpIn (FW ro) 0 P ops Q i (wpAnyIn (FW ro) 0 P .any ops Q fuel (lr.setIfInBounds i true)) a w := by
      intro plan lr V done a w i hf hI hoo hc hp hr hm
      obtain ⟨V1, v, V2, rfl⟩ := mem_split hm
      obtain ⟨h0, hlt, hd⟩ := ready_iff.1 hr
      obtain ⟨o, ho, hy, hI', he⟩ := hI.early hsel hT hap hd
      refine hy.wpOp hnd0 ho ?_
      have hls : i < lr.size := by rw [hI.size]; exact hlt
      have := left_set hls h0
      exact ih plan _ _ done _ w (by omega) hI' hoo hc (by rw [he]; exact hp)
    have none_ready : ∀ (lr : Array Bool) (V : List (Nat × Value)) (done : List Nat) (a : Act) (w : World), Inv P ops lr V done a w → Region.ready .any ops lr = [] → V = [] := by
      intro lr V done a w hI hr
      cases V with
      | nil => rfl
      | cons p V =>
        obtain ⟨⟨o, ho, _⟩, hd⟩ := hI.yields [] p.1 p.2 V rfl
        have : p.1 ∈ Region.ready .any ops lr := ready_iff.2 ⟨hI.fresh p.1 (by simp), (Array.getElem?_eq_some_iff.1 ho).1, fun d hd' => (hd d hd').resolve_right (by simp)⟩
        rw [hr] at this
        cases this
    have effcase : ∀ (t : PT) (lr : Array Bool) (V : List (Nat × Value)) (done : List Nat) (a : Act) (w : World), t.isE = true → left lr ≤ fuel + 1 → Inv P ops lr V done a w → onlyOk ops t done = true → chkT ops A t done = true →
        wpPT ro P ops Q t (putAll ops a V) w → wpAnyIn (FW ro) 0 P .any ops Q (fuel + 1) lr a w := by
      intro t lr V done a w hE hf hI hoo hc hp
      refine ⟨fun hr => ?_, fun i hi => ?_⟩
      · have hV := none_ready lr V done a w hI hr
        subst hV
        obtain ⟨j, _, hlt, hn, hd⟩ := head_ex hE hc
        have : j ∈ Region.ready .any ops lr := ready_iff.2 ⟨getD_false_true (by rw [hI.size]; exact hlt) (by
          cases hc : lr.getD j false with
          | false => rfl
          | true => exact absurd ((hI.mem j).2 (.inl hc)) hn), hlt, fun d hdm => ((hI.mem d).1 (hd d hdm)).resolve_right (by simp)⟩
        rw [hr] at this
        cases this
      · obtain ⟨h0, hlti, hdi⟩ := ready_iff.1 hi
        by_cases hm : i ∈ V.map Prod.fst
        · exact early _ lr V done a w i hf hI hoo hc hp hi hm
        · have hnd : i ∉ done := by
            intro hid
            rcases (hI.mem i).1 hid with h' | h'
            · rw [getD_true_false h0] at h'; cases h'
            · exact hm h'
          have hih : i ∈ t.heads := by
            unfold onlyOk at hoo
            rw [hE] at hoo
            simp only [Bool.not_true, Bool.false_or, List.all_eq_true, List.mem_range, Bool.or_eq_true, List.contains_eq_mem, decide_eq_true_eq, Bool.not_eq_true'] at hoo
            rcases hoo i hlti with (h' | h') | h'
            · exact h'
            · exact absurd h' hnd
            · exfalso
              have : (deps ops i).all done.contains = true := List.all_eq_true.2 fun d hdm => by
                have : d ∈ done := (hI.mem d).2 (.inl (hdi d hdm))
                simpa using this
              have h'' : (deps ops i).all done.contains = false := by simpa using h'
              rw [this] at h''; cases h''
          obtain ⟨keep, r, hc', hp'⟩ := pick_head hih hc hp
          simp only [chkT, Bool.and_eq_true, decide_eq_true_eq, Bool.not_eq_true', List.contains_eq_mem, decide_eq_false_iff_not, List.all_eq_true, Bool.or_eq_true] at hc'
          obtain ⟨⟨⟨⟨⟨hlt, hn⟩, hd⟩, hkeep⟩, ho'⟩, hc''⟩ := hc'
          have hjs : ops[i]? = some ops[i] := Array.getElem?_eq_some_iff.2 ⟨hlt, rfl⟩
          obtain ⟨hV, hnext⟩ := hI.effect hsel hT hap hld (keep := keep) hjs hnd hdi (fun k hk => by
            rcases hkeep k hk with (h' | h') | h'
            · exact .inl h'
            · exact .inr (.inl h')
            · refine .inr (.inr fun o ho => ?_)
              rw [ho] at h'
              simpa using h')
          have hls : i < lr.size := by rw [hI.size]; exact hlti
          have hleft := left_set hls h0
          have h1 := wpOp_went hnd0 hsel hQ hjs V a hV hp'
          refine wpOpIn_mono ?_ h1
          rintro a' w' ⟨hw, hheld, hp''⟩
          exact ih r _ V (i :: done) a' w' (by omega) (hnext a' w' hw hheld) ho' hc'' hp''
    induction plan with
    | nil =>
      intro lr V done a w hf hI hoo hc hp
      refine ⟨fun hr => ?_, fun i hi => ?_⟩
      · have := none_ready lr V done a w hI hr
        subst this
        exact hp
      · refine early .nil lr V done a w i hf hI hoo hc hp hi ?_
        obtain ⟨h0, hlt, hd⟩ := ready_iff.1 hi
        have hdn : i ∈ done := by
          have := List.all_eq_true.1 hc i (List.mem_range.2 hlt)
          simpa using this
        rcases (hI.mem i).1 hdn with h' | h'
        · rw [getD_true_false h0] at h'; cases h'
        · exact h'
    | pure j r ihp =>
      intro lr V done a w hf hI hoo hc hp
      simp only [chkT, Bool.and_eq_true, decide_eq_true_eq, Bool.not_eq_true', List.contains_eq_mem, decide_eq_false_iff_not, List.all_eq_true] at hc
      obtain ⟨⟨⟨⟨hlt, hn⟩, hd⟩, ho'⟩, hc'⟩ := hc
      obtain ⟨o, v, ho, hy, hk, hp'⟩ := hp
      refine ihp lr (V ++ [(j, v)]) (j :: done) a w hf (hI.push ho hn (fun d hdm => by simpa using hd d hdm) hy hk) ho' hc' ?_
      rw [putAll_append, putAll_cons, ho]
      exact hp'
    | eff j keep r _ => intro lr V done a w hf hI hoo hc hp; exact effcase _ lr V done a w rfl hf hI hoo hc hp
    | alt p q _ _ =>
      intro lr V done a w hf hI hoo hc hp
      refine effcase _ lr V done a w ?_ hf hI hoo hc hp
      simp only [chkT, Bool.and_eq_true] at hc
      simp only [PT.isE, hc.1.1.1, hc.1.1.2, Bool.and_self]
end
/-- The plan, stretch by stretch. -/
inductive ST where
  | nil
  | seg (s : List Nat) (r : ST)
  | eff (j : Nat) (keep : List Nat) (r : ST)
  | alt (p q : ST)
def pures : List Nat → PT → PT
  | [], r => r
  | i :: s, r => .pure i (pures s r)
def ST.pt : ST → PT
  | .nil => .nil
  | .seg s r => pures s r.pt
  | .eff j keep r => .eff j keep r.pt
  | .alt p q => .alt p.pt q.pt
def stOk (l : List Oper) : ST → Bool
  | .nil => true
  | .seg s r => segOk l.toArray s (pickAll l s) && stOk l r
  | .eff _ _ r => stOk l r
  | .alt p q => stOk l p && stOk l q
section
variable {P : Program} {ro : Option Nat} {Q : Exit → Act → World → Prop}
def wpST (ro : Option Nat) (P : Program) (l : List Oper) (Q : Exit → Act → World → Prop) : ST → Act → World → Prop
  | .nil, a, w => Q .normal a w
  | .seg s r, a, w => wpL ro P l.toArray (segPost fun a' w' => segChk P l.toArray a' (pickAll l s) = true ∧ wpST ro P l Q r a' w') (pickAll l s) a w
  | .eff j keep r, a, w => wpL ro P l.toArray (effPost Q fun a'' w'' => Held P l.toArray keep a w w'' ∧ wpST ro P l Q r a'' w'') [nth l j] a w
  | .alt p q, a, w => wpST ro P l Q p a w ∧ wpST ro P l Q q a w
/-- A stretch's operations, one by one. -/
theorem pt_of_tr {ops : Array Oper} {r : PT} : ∀ (s : List Nat) (l : List Oper) (a : Act) (w : World) (a' : Act) (w' : World), segOk ops s l = true → SegAt ops s l → Tr P ops l a w a' w' → segChk P ops a' l = true →
    wpPT ro P ops Q r a' w' → wpPT ro P ops Q (pures s r) a w := by
  intro s l a w a' w' h1 h2 h3 h4 h5
  have key : ∀ (s : List Nat) (a : Act) (w : World), wpPlan ro P ops (fun _ a w => wpPT ro P ops Q r a w) (s.map (·, none)) a w → wpPT ro P ops Q (pures s r) a w := by
    intro s
    induction s with
    | nil => intro a w h; exact h
    | cons i s ih =>
      intro a w h
      obtain ⟨o, v, ho, hy, hk, hp⟩ := h
      exact ⟨o, v, ho, hy, hk, ih _ _ hp⟩
  refine key s a w ?_
  have := plan_of_tr (ro := ro) (Q := fun _ a w => wpPT ro P ops Q r a w) (rest := []) s l a w a' w' h1 h2 h3 h4 h5
  simpa using this
theorem pt_of_st {l : List Oper} (hnd : noDefer l.toArray = true) {A : List (List Nat)} : ∀ (t : ST) (done : List Nat) (a : Act) (w : World), stOk l t = true → chkT l.toArray A t.pt done = true → wpST ro P l Q t a w → wpPT ro P l.toArray Q t.pt a w
  | .nil, _, _, _, _, _, h => h
  | .seg s r, done, a, w, hk, hc, h => by
    simp only [stOk, Bool.and_eq_true] at hk
    obtain ⟨a', w', ht, hc1, hn⟩ := tr_of_wpList _ _ _ (segKinds_of s hk.1) h
    have hcr : ∃ d', chkT l.toArray A r.pt d' = true := by
      clear h ht
      simp only [ST.pt] at hc
      generalize r.pt = fr at hc
      clear hk hn hc1
      induction s generalizing done with
      | nil => exact ⟨_, hc⟩
      | cons i s ih =>
        simp only [pures, chkT, Bool.and_eq_true] at hc
        exact ih _ hc.2
    obtain ⟨d', hc'⟩ := hcr
    exact pt_of_tr s _ a w a' w' hk.1 (segAt_of s hk.1) ht hc1 (pt_of_st hnd r d' a' w' hk.2 hc' hn)
  | .eff j keep r, done, a, w, hk, hc, h => by
    have hlt : j < l.length := by
      simp only [ST.pt, chkT, Bool.and_eq_true, decide_eq_true_eq] at hc
      simpa using hc.1.1.1.1.1
    have hcr : chkT l.toArray A r.pt (j :: done) = true := by
      simp only [ST.pt, chkT, Bool.and_eq_true] at hc
      exact hc.2
    have hj : l.toArray[j]? = some (nth l j) := by simp only [List.getElem?_toArray]; exact nth_some l j hlt
    refine wpOpIn_mono ?_ (wpOp_of_list hnd hj h)
    rintro a'' w'' ⟨h1, h2⟩
    exact ⟨h1, pt_of_st hnd r _ a'' w'' hk hcr h2⟩
  | .alt p q, done, a, w, hk, hc, h => by
    simp only [stOk, Bool.and_eq_true] at hk
    simp only [ST.pt, chkT, Bool.and_eq_true] at hc
    exact ⟨pt_of_st hnd p done a w hk.1 hc.1.2 h.1, pt_of_st hnd q done a w hk.2 hc.2 h.2⟩
def stPlanOk (l : List Oper) (A : List (List Nat)) (t : ST) : Bool :=
  noDefer l.toArray && Region.noSelect l.toArray && tabOk l.toArray A && apartOk l.toArray A && loadsOk l.toArray A && (onlyOk l.toArray t.pt [] && chkT l.toArray A t.pt []) && stOk l t
theorem wp_region_st {l : List Oper} {id : Nat} {a : Act} {w : World} (A : List (List Nat)) (t : ST) (hm : P.follows .mixedOrders = true) (hok : stPlanOk l A t = true)
    (hQ : ∀ c a t w, Q (.panic c) { a with tmps := t } w → Q (.panic c) a w) (h : wpST ro P l Q t a w.drew) : (Code.region id l.toArray true).wpIn (FW ro) 0 P Q a w := by
  simp only [stPlanOk, Bool.and_eq_true] at hok
  obtain ⟨⟨⟨⟨⟨⟨h0, h1⟩, h2⟩, h3⟩, h4⟩, h5⟩, h6⟩ := hok
  refine wpIn_region_any hm ?_
  refine wpAny_of_planT h0 h1 h2 h3 h4 hQ _ t.pt _ [] [] a w.drew ?_ ?_ h5.1 h5.2 (pt_of_st h0 t [] a w.drew h6 h5.2 h)
  · unfold left
    refine Nat.le_trans (List.length_filter_le _ _) ?_
    simp
  · have hrep : ∀ i, (Array.replicate l.toArray.size false).getD i false = false := by
      intro i
      rw [Array.getD_eq_getD_getElem?, Array.getElem?_replicate]
      split <;> rfl
    refine ⟨by simp, ?_, ?_, ?_, by simp, ?_⟩
    · intro j hj
      rw [hrep] at hj
      cases hj
    · intro i
      rw [hrep]
      simp
    · intro i hi
      cases hi
    · intro V1 i v V2 hV
      cases V1 <;> cases hV
end
end Go.Plan
namespace Go.V
open Go.Plan (wpL)
theorem planT {ro : Option Nat} {P : Program} {Q : Exit → Act → World → Prop} {l : List Oper} {id : Nat} {a : Act} {w : World} (A : List (List Nat)) (p : Plan.ST) (hm : P.follows .mixedOrders = true) (hok : Plan.stPlanOk l A p = true)
    (hQ : ∀ c a t w, Q (.panic c) { a with tmps := t } w → Q (.panic c) a w) (h : Plan.wpST ro P l Q p a w.drew) : Wp ro P (.region id l.toArray true) Q a w := by unfold Wp; exact Plan.wp_region_st (id := id) A p hm hok hQ h
end Go.V
end
section
namespace Go.V
open Go.Plan (FW wpL)
open Go.RowKit Go.Base
set_option linter.unusedVariables false
set_option linter.unusedSimpArgs false

theorem t_same (x : Int) : Value.bool (x == x) = .bool true := by simp
theorem t_nsame (x : Int) : Value.bool (x != x) = .bool false := by simp
theorem t_ssame (x : ByteArray) : Value.bool (x.toList == x.toList) = .bool true := by simp
theorem t_snsame (x : ByteArray) : Value.bool (!(x.toList == x.toList)) = .bool false := by simp
theorem t_bnsame (b : Bool) : Value.bool (!(b == b)) = .bool false := by simp
abbrev Env := List (Nat × Value)
def lk : Env → Nat → Option Value
  | [], _ => none
  | (k, v) :: l, t => bif Nat.beq k t then some v else lk l t
def Ev (a : Act) (R : Env) : Prop := ∀ t v, lk R t = some v → a.eval (.tmp t) = v
structure En (n : Nat) (ds : List Deferred) (a : Act) (R : Env) : Prop where
  sd : Sd n ds a
  ev : Ev a R
section
variable {n : Nat} {ds : List Deferred} {a : Act} {R : Env}
theorem En.e (h : En n ds a R) {t : Nat} {v : Value} (hk : lk R t = some v := by kernel_rfl) : a.eval (.tmp t) = v := h.ev t v hk
theorem lk_cons_ne {k t : Nat} {v : Value} (h : Nat.beq k t = false) : lk ((k, v) :: R) t = lk R t := by simp [lk, h]
theorem lk_cons_eq {t : Nat} {v : Value} : lk ((t, v) :: R) t = some v := by simp [lk]
theorem Ev.put (h : Ev a R) {d : Nat} (hd : d < a.tmps.size) (v : Value) : Ev (a.put (some d) v) ((d, v) :: R) := by
  intro t u hu
  cases hk : Nat.beq d t with
  | true =>
    have := Nat.eq_of_beq_eq_true hk
    subst this
    rw [lk_cons_eq] at hu
    injection hu with hu
    subst hu
    simp [Act.eval, Act.put, hd]
  | false =>
    rw [lk_cons_ne hk] at hu
    exact at_other hk _ (h t u hu)
theorem En.put (h : En n ds a R) {d : Nat} (hd : Nat.ble (d + 1) n = true) (v : Value) : En n ds (a.put (some d) v) ((d, v) :: R) :=
  ⟨h.sd.put _ _, h.ev.put (by rw [h.sd.size]; exact Nat.le_of_ble_eq_true hd) v⟩
theorem En.kt (h : En n ds a R) (t : Nat) {p : Prop} [Decidable p] (hp : p) (hk : lk R t = some (.bool (decide p)) := by kernel_rfl) : En n ds a ((t, .bool true) :: R) :=
  ⟨h.sd, fun u v hu => by
    cases hb : Nat.beq t u with
    | true =>
      have := Nat.eq_of_beq_eq_true hb
      subst this
      rw [lk_cons_eq] at hu
      injection hu with hu
      rw [← hu, h.ev _ _ hk, decide_eq_true hp]
    | false => rw [lk_cons_ne hb] at hu; exact h.ev _ _ hu⟩
theorem En.kf (h : En n ds a R) (t : Nat) {p : Prop} [Decidable p] (hp : ¬ p) (hk : lk R t = some (.bool (decide p)) := by kernel_rfl) : En n ds a ((t, .bool false) :: R) :=
  ⟨h.sd, fun u v hu => by
    cases hb : Nat.beq t u with
    | true =>
      have := Nat.eq_of_beq_eq_true hb
      subst this
      rw [lk_cons_eq] at hu
      injection hu with hu
      rw [← hu, h.ev _ _ hk, decide_eq_false hp]
    | false => rw [lk_cons_ne hb] at hu; exact h.ev _ _ hu⟩
theorem En.kbt (h : En n ds a R) (t : Nat) {b : Bool} (hb : b = true) (hk : lk R t = some (.bool b) := by kernel_rfl) : En n ds a ((t, .bool true) :: R) := by
  subst hb
  exact ⟨h.sd, fun u v hu => by
    cases hb : Nat.beq t u with
    | true =>
      have := Nat.eq_of_beq_eq_true hb
      subst this
      rw [lk_cons_eq] at hu
      injection hu with hu
      rw [← hu, h.ev _ _ hk]
    | false => rw [lk_cons_ne hb] at hu; exact h.ev _ _ hu⟩
theorem En.kbf (h : En n ds a R) (t : Nat) {b : Bool} (hb : ¬ b = true) (hk : lk R t = some (.bool b) := by kernel_rfl) : En n ds a ((t, .bool false) :: R) := by
  cases b with
  | true => exact absurd rfl hb
  | false => exact ⟨h.sd, fun u v hu => by
    cases hb : Nat.beq t u with
    | true =>
      have := Nat.eq_of_beq_eq_true hb
      subst this
      rw [lk_cons_eq] at hu
      injection hu with hu
      rw [← hu, h.ev _ _ hk]
    | false => rw [lk_cons_ne hb] at hu; exact h.ev _ _ hu⟩
/-- Another word for a value. -/
theorem En.eq (h : En n ds a R) (t : Nat) {v u : Value} (hvu : v = u) (hk : lk R t = some v := by kernel_rfl) : En n ds a ((t, u) :: R) :=
  ⟨h.sd, fun s x hu => by
    cases hb : Nat.beq t s with
    | true =>
      have := Nat.eq_of_beq_eq_true hb
      subst this
      rw [lk_cons_eq] at hu
      injection hu with hu
      rw [← hu, h.ev _ _ hk, hvu]
    | false => rw [lk_cons_ne hb] at hu; exact h.ev _ _ hu⟩
theorem lk_mem : ∀ {R : Env} {t : Nat} {v : Value}, lk R t = some v → (t, v) ∈ R
  | [], _, _, h => by simp [lk] at h
  | (k, u) :: l, t, v, h => by
    simp only [lk] at h
    cases hk : Nat.beq k t with
    | true =>
      rw [hk] at h
      have := Nat.eq_of_beq_eq_true hk
      subst this
      simp only [cond_true, Option.some.injEq] at h
      subst h
      exact List.mem_cons_self ..
    | false =>
      rw [hk] at h
      exact List.mem_cons_of_mem _ (lk_mem h)
/-- All that is needed, and no more. -/
theorem En.only (h : En n ds a R) (W : Env) (hk : W.map (fun p => lk R p.1) = W.map (fun p => some p.2) := by kernel_rfl) : En n ds a W :=
  ⟨h.sd, fun t v hv => by
    have hm := lk_mem hv
    refine h.ev t v ?_
    have := List.map_inj_left.1 hk (t, v) hm
    exact this⟩
theorem En.nil (h : Sd n ds a) : En n ds a [] := ⟨h, fun t v hv => by simp [lk] at hv⟩
theorem En.add (h : En n ds a R) {t : Nat} {v : Value} (hv : a.eval (.tmp t) = v) : En n ds a ((t, v) :: R) :=
  ⟨h.sd, fun s x hu => by
    cases hb : Nat.beq t s with
    | true =>
      have := Nat.eq_of_beq_eq_true hb
      subst this
      rw [lk_cons_eq] at hu
      injection hu with hu
      rw [← hu, hv]
    | false => rw [lk_cons_ne hb] at hu; exact h.ev _ _ hu⟩
end
def keep (lo hi : Nat) (W R : Env) : Env := R.filter fun p => !((Nat.ble lo p.1 && Nat.ble p.1 hi) || (lk W p.1).isSome)
theorem lk_filter (f : Nat → Bool) : ∀ (R : Env) (t : Nat) (v : Value), lk (R.filter fun p => f p.1) t = some v → f t = true ∧ lk R t = some v
  | [], t, v, h => by simp [lk] at h
  | (k, u) :: l, t, v, h => by
    by_cases hf : f k = true
    · rw [List.filter_cons_of_pos (by simpa using hf)] at h
      simp only [lk] at h ⊢
      cases hk : Nat.beq k t with
      | true =>
        have := Nat.eq_of_beq_eq_true hk
        subst this
        rw [hk] at h
        exact ⟨hf, h⟩
      | false =>
        rw [hk] at h
        have := lk_filter f l t v h
        exact ⟨this.1, by simpa using this.2⟩
    · rw [List.filter_cons_of_neg (by simpa using hf)] at h
      have := lk_filter f l t v h
      refine ⟨this.1, ?_⟩
      cases hk : Nat.beq k t with
      | true =>
        have hkt := Nat.eq_of_beq_eq_true hk
        subst hkt
        exact absurd this.1 hf
      | false => simp [lk, hk, this.2]
theorem lk_append : ∀ (W F : Env) (t : Nat) (v : Value), lk (W ++ F) t = some v → lk W t = some v ∨ (lk W t = none ∧ lk F t = some v)
  | [], F, t, v, h => .inr ⟨rfl, h⟩
  | (k, u) :: W, F, t, v, h => by
    simp only [List.cons_append, lk] at h ⊢
    cases hk : Nat.beq k t with
    | true => rw [hk] at h; exact .inl (by simpa using h)
    | false => rw [hk] at h; simpa using lk_append W F t v (by simpa using h)

/-! ### What is looked at -/
inductive Chk where
  | bad
  | run (b : Bool) (r : Result Next)
  | vs (l : List (Option Value)) (b : Bool)
def opv (R : Env) : Operand → Option Value
  | .tmp t => lk R t
  | .const v => some v
  | .global g => some (.pointer (some ⟨g, 0, none⟩))
  | .func f => some (.func (.func f) #[] #[])
def envK (R : Env) : Operand → Value
  | .tmp t => (lk R t).getD undef
  | .const v => v
  | .global g => .pointer (some ⟨g, 0, none⟩)
  | .func f => .func (.func f) #[] #[]
theorem opv_eval {a : Act} {R : Env} (h : Ev a R) {x : Operand} {v : Value} (hx : opv R x = some v) : a.eval x = v := by
  cases x with
  | tmp t => exact h t v hx
  | const u => simp only [opv, Option.some.injEq] at hx; rw [← hx]; rfl
  | global g => simp only [opv, Option.some.injEq] at hx; rw [← hx]; rfl
  | func f => simp only [opv, Option.some.injEq] at hx; rw [← hx]; rfl
def knows (R : Env) (o : Oper) : Bool := (match o.op with | .select .. => false | _ => true) && o.op.operands.all fun
  | .tmp t => (lk R t).isSome
  | _ => true
theorem exec_envK {a : Act} {o : Oper} {R : Env} (he : Ev a R) (hk : knows R o = true) : execOp a.eval o = execOp (envK R) o := by
  unfold knows at hk
  simp only [Bool.and_eq_true] at hk
  refine execOp_congr o (fun cs b h => by have := hk.1; rw [h] at this; cases this) fun x hx => ?_
  have := Array.all_eq_true_iff_forall_mem.1 hk.2 x hx
  cases x with
  | tmp t =>
    simp only at this
    obtain ⟨v, hv⟩ := Option.isSome_iff_exists.1 this
    simp only [envK, hv, Option.getD_some]
    exact he t v hv
  | _ => rfl
/-- What one operation that leaves the world comes to: what is looked at, what is wanted there, the value, why. -/
structure It (P : Program) (w : World) where
  c : Env → Oper → Chk
  want : Chk
  x : Value
  h : ∀ (a : Act) (R : Env) (o : Oper), Ev a R → c R o = want → (execOp a.eval o).run P w = .ok (.value x) w
section
variable {P : Program} {w : World}
def It.cr (P : Program) (w : World) (R : Env) (o : Oper) : Chk := .run (knows R o) ((execOp (envK R) o).run P w)
theorem It.cr_spec {a : Act} {R : Env} {o : Oper} {x : Value} (he : Ev a R) (h : It.cr P w R o = .run true (.ok (.value x) w)) : (execOp a.eval o).run P w = .ok (.value x) w := by
  unfold It.cr at h
  injection h with h1 h2
  rw [exec_envK he h1, h2]
def valOf : Result Next → Value
  | .ok (.value v) _ => v
  | _ => undef
/-- Computed, and told in another word. -/
def It.q {x' : Value} (x : Value) (h : x' = x) : It P w where
  c := It.cr P w
  want := .run true (.ok (.value x') w)
  x := x
  h := fun _ _ _ he hc => by rw [It.cr_spec he hc, h]
abbrev It.v (x : Value) : It P w := .q x rfl
abbrev It.i (x : Int) (h : -9223372036854775808 ≤ x ∧ x ≤ 9223372036854775807 := by omega) : It P w := .q (.int .i64 x) (w_i64 h.1 h.2)
abbrev It.eq (x y : Int) : It P w := .q (.bool (decide (x = y))) t_eql
abbrev It.ne (x y : Int) : It P w := .q (.bool (decide (¬ x = y))) t_neq
abbrev It.seq (x y : ByteArray) : It P w := .q (.bool (decide (x = y))) t_seql
abbrev It.sne (x y : ByteArray) : It P w := .q (.bool (decide (¬ x = y))) t_sneq
/-- A load of one cell. -/
def It.l (ad : Addr) (v : Value) (hc : w.cell? ad = some v) : It P w where
  c R o := match o.op with
    | .load t x => .vs [opv R x] (scalar P t)
    | _ => .bad
  want := .vs [some (.pointer (some ad))] true
  x := v
  h := fun a R o he hk => by
    obtain ⟨d, op, ty, pos, aft, g⟩ := o
    cases op <;> simp only [reduceCtorEq] at hk
    case load t x =>
      injection hk with h1 h2
      injection h1 with h1 _
      have hx := opv_eval he h1
      simp only [execOp, hx, Instr.loadAt, Instr.sureAddr, Sem.run_bind, Sem.run_pure, Result.andThen_ok, run_loadVar_scalar h2 hc]
abbrev It.b {b : Nat} {cs : List Value} {t : TypeId} (hB : Blk w b cs t) (i : Nat) {v : Value} (h : cs[i]? = some v := by exact rfl) : It P w := .l ⟨b, i, none⟩ v (hB.at i h)
/-- A load of a struct, of an array. -/
def It.ls (ad : Addr) (cs : List Value) (hc : ∀ j u, cs[j]? = some u → w.cell? (ad.add j) = some u) : It P w where
  c R o := match o.op with
    | .load t x => .vs [opv R x] (aggSize P t == some cs.length)
    | _ => .bad
  want := .vs [some (.pointer (some ad))] true
  x := .agg cs.toArray
  h := fun a R o he hk => by
    obtain ⟨d, op, ty, pos, aft, g⟩ := o
    cases op <;> simp only [reduceCtorEq] at hk
    case load t x =>
      injection hk with h1 h2
      injection h1 with h1 _
      have hx := opv_eval he h1
      have ht : aggSize P t = some cs.length := by simpa using h2
      simp only [execOp, hx, Instr.loadAt, Instr.sureAddr, Sem.run_bind, Sem.run_pure, Result.andThen_ok, run_loadVar_agg ht hc]
abbrev It.bs {b : Nat} {cs0 : List Value} {t : TypeId} (hB : Blk w b cs0 t) (off : Nat) (cs : List Value) (hcs : (cs0.drop off).take cs.length = cs := by rfl) : It P w := .ls ⟨b, off, none⟩ cs (blk_cells hB off cs hcs)
def eqSz (P : Program) (t : TypeId) (sz : Nat) : Bool := match (match P.underlying t with | some (.slice e) => (P.info? e).map (·.size) | _ => none) with
  | some n => Nat.beq n sz
  | none => false
theorem eqSz_spec {t : TypeId} {sz : Nat} (h : eqSz P t sz = true) : (match P.underlying t with | some (.slice e) => (P.info? e).map (·.size) | _ => none) = some sz := by
  unfold eqSz at h
  split at h
  · rename_i k hk; rw [hk, Nat.eq_of_beq_eq_true h]
  · cases h
/-- The address of a slice's element. -/
def It.ix (g0 o0 n c : Nat) (kk : IntKind) (iv : Int) (sz : Nat) {A : Option Addr} (hA : A = some ⟨g0, o0, none⟩) (h01 : 0 ≤ iv ∧ iv < n := by omega) : It P w where
  c R o := match o.op with
    | .indexAddr t x i => .vs [opv R x, opv R i] (eqSz P t sz)
    | _ => .bad
  want := .vs [some (.slice A n c), some (.int kk iv)] true
  x := .pointer (some ⟨g0, o0 + iv.toNat * sz, none⟩)
  h := fun a R o he hk => by
    obtain ⟨d, op, ty, pos, aft, g⟩ := o
    cases op <;> simp only [reduceCtorEq] at hk
    case indexAddr t x i =>
      injection hk with h1 h2
      injection h1 with h1 h3
      injection h3 with h3 _
      have hx := opv_eval he h1
      have hi := opv_eval he h3
      subst hA
      have ht := eqSz_spec h2
      split at ht
      · rename_i e he'
        obtain ⟨inf, hinf, rfl⟩ := Option.map_eq_some_iff.1 ht
        have ha : (⟨g0, o0, none⟩ : Addr).add (iv.toNat * inf.size) = ⟨g0, o0 + iv.toNat * inf.size, none⟩ := by unfold Addr.add; split <;> simp_all
        simp only [execOp, hx, hi, Instr.indexAt, asIntOf, Sem.run_bind, Sem.run_pure, Result.andThen_ok, run_underlying he', h01.1, h01.2, and_self, if_true, sizeOf, typeInfo, run_program, hinf, ha]
      · cases ht
/-- A string's byte. -/
def It.ixs (s : ByteArray) (kk : IntKind) (iv : Int) (h01 : 0 ≤ iv ∧ iv < s.size := by omega) : It P w where
  c R o := match o.op with
    | .index t x i => .vs [opv R x, opv R i] (match P.underlying t with | some .string => true | _ => false)
    | _ => .bad
  want := .vs [some (.string s), some (.int kk iv)] true
  x := .int .u8 (bi s iv)
  h := fun a R o he hk => by
    obtain ⟨d, op, ty, pos, aft, g⟩ := o
    cases op <;> simp only [reduceCtorEq] at hk
    case index t x i =>
      injection hk with h1 h2
      injection h1 with h1 h3
      injection h3 with h3 _
      have hx := opv_eval he h1
      have hi := opv_eval he h3
      have ht : P.underlying t = some .string := by
        split at h2
        · assumption
        · cases h2
      have hlt : iv.toNat < s.size := by omega
      have hg : s[iv.toNat]? = some (byt s iv) := by
        unfold byt
        have hlt' : iv.toNat < s.data.size := hlt
        simp only [Array.getD_eq_getD_getElem?]
        rw [show s[iv.toNat]? = s.data[iv.toNat]? from by simp [getElem?_def, hlt, hlt']; rfl, Array.getElem?_eq_getElem hlt']
        rfl
      simp only [execOp, hx, hi, Instr.index, asIntOf, Sem.run_bind, Sem.run_pure, Result.andThen_ok, run_underlying ht, h01.1, if_true, hg, bi]
/-- A cut of a string. -/
def It.sl (s : ByteArray) (l h : Int) (h0 : 0 ≤ l ∧ l ≤ h ∧ h ≤ s.size := by omega) : It P w where
  c R o := match o.op with
    | .slice t x lo hi none => .vs [opv R x, match lo with | some q => opv R q | none => some (.int .i64 0), match hi with | some q => opv R q | none => some (.int .i64 s.size)] (match P.underlying t with | some .string => true | _ => false)
    | _ => .bad
  want := .vs [some (.string s), some (.int .i64 l), some (.int .i64 h)] true
  x := .string (s.extract l.toNat h.toNat)
  h := fun a R o he hk => by
    obtain ⟨d, op, ty, pos, aft, g⟩ := o
    cases op <;> simp only [reduceCtorEq] at hk
    case slice t x lo hi mx =>
      cases mx with
      | some _ => cases hk
      | none =>
        injection hk with h1 h2
        injection h1 with h1 h3
        injection h3 with h3 h4
        injection h4 with h4 _
        have hx := opv_eval he h1
        have ht : P.underlying t = some .string := by
          split at h2
          · assumption
          · cases h2
        obtain ⟨ha, hb, hc⟩ := h0
        have hb : (Instr.sliceBounds false s.size s.size (lo.map a.eval) (hi.map a.eval) none).run P w = .ok (l.toNat, h.toNat, s.size) w := by
          have h5 : 0 ≤ h := by omega
          unfold Instr.sliceBounds
          cases hi with
          | none =>
            simp only [Option.some.injEq, Value.int.injEq, true_and] at h4
            subst h4
            cases lo with
            | none =>
              simp only [Option.some.injEq, Value.int.injEq, true_and] at h3
              subst h3
              simp [Sem.run_bind]
            | some q =>
              have hq := opv_eval he h3
              simp [Sem.run_bind, hq, Instr.sliceBound, asIntOf, ha, hb]
          | some p =>
            have hp := opv_eval he h4
            cases lo with
            | none =>
              simp only [Option.some.injEq, Value.int.injEq, true_and] at h3
              subst h3
              simp [Sem.run_bind, hp, Instr.sliceBound, asIntOf, h5, hc]
            | some q =>
              have hq := opv_eval he h3
              simp [Sem.run_bind, hp, hq, Instr.sliceBound, asIntOf, h5, hc, ha]
              intro hlt
              omega
        simp only [execOp, hx, Instr.sliceAt, Instr.slice, Sem.run_bind, Sem.run_pure, Result.andThen_ok, run_underlying ht, Option.map_none, Option.isSome_none, Bool.false_eq_true, if_false, hb]
def It.quo (k : IntKind) (x y : Int) (h01 : 0 ≤ x ∧ 0 < y := by omega) (hr : Value.int k (k.wrap (x / y)) = .int k (x / y)) : It P w where
  c R o := match o.op with
    | .binOp .quo _ p q _ => .vs [opv R p, opv R q] true
    | _ => .bad
  want := .vs [some (.int k x), some (.int k y)] true
  x := .int k (x / y)
  h := fun a R o he hk => by
    obtain ⟨d, op, ty, pos, aft, g⟩ := o
    cases op <;> simp only [reduceCtorEq] at hk
    case binOp b t p q t' =>
      cases b <;> simp only [reduceCtorEq] at hk
      case quo =>
        injection hk with h1 _
        injection h1 with h1 h3
        injection h3 with h3 _
        have hx := opv_eval he h1
        have hy := opv_eval he h3
        have hne : ¬ y = 0 := by omega
        rw [← hr]
        simp only [execOp, hx, hy, eqGuard, binOp, Op.intDiv, ne_eq, not_true_eq_false, if_false, hne, Int.tdiv_eq_ediv_of_nonneg h01.1]
        rfl
theorem w_div {x y : Int} (h : 0 ≤ x ∧ 0 < y ∧ x ≤ 9223372036854775807) : Value.int .i64 (IntKind.i64.wrap (x / y)) = .int .i64 (x / y) := by
  have h3 : x / y ≤ x := Int.ediv_le_self y h.1
  have h4 : 0 ≤ x / y := Int.ediv_nonneg h.1 (by omega)
  exact w_i64 (by omega) (by omega)
abbrev It.quoN (n m : Nat) (h : 0 < m ∧ n ≤ 9223372036854775807 := by omega) : It P w := .quo .i64 (n : Int) (m : Int) ⟨by omega, by omega⟩ (w_div ⟨by omega, by omega, by omega⟩)
end
/-! ### A run -/
def grd (ops : Array Oper) (R : Env) (o : Oper) : Option Bool := match o.guard with
  | none => some true
  | some (j, want) => match (ops[j]?).bind (·.dst) with
    | none => none
    | some t => match lk R t with
      | some (.bool b) => some (b == want)
      | some (.tuple l) => match l.toList with
        | [] => some false
        | _ => none
      | _ => none
structure Sim where
  lhs : List Chk
  rhs : List Chk
  env : Env
def putE (R : Env) (d : Option Tmp) (v : Value) : Env := match d with
  | none => R
  | some d => (d, v) :: R
def inN (n : Nat) (d : Option Tmp) : Bool := match d with
  | none => true
  | some d => Nat.ble (d + 1) n
def sim (P : Program) (w : World) (n : Nat) (ops : Array Oper) : List Oper → Nat → List (Nat × It P w) → Env → Sim
  | [], _, _, R => ⟨[], [], R⟩
  | _ :: _, 0, _, R => ⟨[], [], R⟩
  | o :: l, k + 1, its, R => match inN n o.dst with
    | false => ⟨[.bad], [], R⟩
    | true => match grd ops R o with
      | none => ⟨[.bad], [], R⟩
      | some false => sim P w n ops l k its (putE R o.dst undef)
      | some true => match its with
        | (0, it) :: its => let s := sim P w n ops l k its (putE R o.dst it.x); ⟨it.c R o :: s.lhs, it.want :: s.rhs, s.env⟩
        | (j + 1, it) :: its => let r := (execOp (envK R) o).run P w; let s := sim P w n ops l k ((j, it) :: its) (putE R o.dst (valOf r)); ⟨.run (knows R o) r :: s.lhs, .run true (.ok (.value (valOf r)) w) :: s.rhs, s.env⟩
        | [] => let r := (execOp (envK R) o).run P w; let s := sim P w n ops l k [] (putE R o.dst (valOf r)); ⟨.run (knows R o) r :: s.lhs, .run true (.ok (.value (valOf r)) w) :: s.rhs, s.env⟩
section
variable {ro : Option Nat} {P : Program} {Q : Exit → Act → World → Prop} {w : World} {ops : Array Oper} {n : Nat} {ds : List Deferred}
theorem En.putE {a : Act} {R : Env} (h : En n ds a R) {d : Option Tmp} (hd : inN n d = true) (v : Value) : En n ds (a.put d v) (putE R d v) := by
  cases d with
  | none => exact h
  | some d => exact h.put hd v
theorem step_on {a : Act} {R : Env} {o : Oper} {rest : List Oper} (h : Ev a R) (hg : grd ops R o = some true) {x : Value} (hx : (execOp a.eval o).run P w = .ok (.value x) w) (k : L ro P ops Q rest (a.put o.dst x) w) : L ro P ops Q (o :: rest) a w := by
  obtain ⟨d, op, ty, pos, aft, g⟩ := o
  cases g with
  | none => exact go (St.val hx k)
  | some g =>
    obtain ⟨j, want⟩ := g
    unfold grd at hg
    simp only at hg
    split at hg
    · cases hg
    · rename_i t ht
      split at hg
      · rename_i b hb
        simp only [Option.some.injEq] at hg
        have := eq_of_beq hg
        subst this
        exact go_on t ht (h _ _ hb) (St.val hx k)
      · split at hg <;> cases hg
      · cases hg
theorem step_off {a : Act} {R : Env} {o : Oper} {rest : List Oper} (h : Ev a R) (hg : grd ops R o = some false) (k : L ro P ops Q rest (a.put o.dst undef) w) : L ro P ops Q (o :: rest) a w := by
  obtain ⟨d, op, ty, pos, aft, g⟩ := o
  cases g with
  | none => cases hg
  | some g =>
    obtain ⟨j, want⟩ := g
    unfold grd at hg
    simp only at hg
    split at hg
    · cases hg
    · rename_i t ht
      split at hg
      · rename_i b hb
        simp only [Option.some.injEq] at hg
        exact go_off t ht (h _ _ hb) hg k
      · rename_i l hl
        split at hg
        · rename_i he
          have : l = #[] := by cases l; simp_all
          subst this
          exact go_none t ht (h _ _ hl) k
        · cases hg
      · cases hg
def inD (l : List Oper) (t : Nat) : Prop := ∃ o ∈ l, o.dst = some t
theorem put_not {a : Act} {d : Option Tmp} {v : Value} {t : Nat} (h : d ≠ some t) : (a.put d v).eval (.tmp t) = a.eval (.tmp t) := by
  cases d with
  | none => rfl
  | some d =>
    have : d ≠ t := fun e => h (by rw [e])
    exact at_other (by cases hq : Nat.beq d t with | false => rfl | true => exact absurd (Nat.eq_of_beq_eq_true hq) this) v rfl
theorem sim_run : ∀ (l : List Oper) (k : Nat) (its : List (Nat × It P w)) (R : Env) (a : Act), En n ds a R → (sim P w n ops l k its R).lhs = (sim P w n ops l k its R).rhs →
    (∀ a1, En n ds a1 (sim P w n ops l k its R).env → (∀ t, ¬ inD (l.take k) t → a1.eval (.tmp t) = a.eval (.tmp t)) → L ro P ops Q (l.drop k) a1 w) → L ro P ops Q l a w
  | [], k, its, R, a, he, _, K => by
    have := K a he (fun _ _ => rfl)
    rwa [List.drop_nil] at this
  | o :: l, 0, its, R, a, he, _, K => K a he (fun _ _ => rfl)
  | o :: l, k + 1, its, R, a, he, hk, K => by
    have hstep : ∀ x, (∀ a1, En n ds a1 (sim P w n ops (o :: l) (k + 1) its R).env → (∀ t, ¬ inD (l.take k) t → a1.eval (.tmp t) = (a.put o.dst x).eval (.tmp t)) → L ro P ops Q (l.drop k) a1 w) := by
      intro x a1 h1 h2
      refine K a1 h1 fun t ht => ?_
      rw [List.take_succ_cons] at ht
      have hno : o.dst ≠ some t := fun e => ht ⟨o, List.mem_cons_self .., e⟩
      rw [h2 t (fun ⟨q, hq, e⟩ => ht ⟨q, List.mem_cons_of_mem _ hq, e⟩), put_not hno]
    revert hk hstep
    unfold sim
    cases hin : inN n o.dst with
    | false => intro hk; cases hk
    | true =>
      cases hg : grd ops R o with
      | none => intro hk; cases hk
      | some b =>
        cases b with
        | false =>
          intro hk hstep
          exact step_off he.ev hg (sim_run l k its _ _ (he.putE hin _) hk (hstep undef))
        | true =>
          have comp : ∀ its', (Chk.run (knows R o) ((execOp (envK R) o).run P w) :: (sim P w n ops l k its' (putE R o.dst (valOf ((execOp (envK R) o).run P w)))).lhs = Chk.run true (.ok (.value (valOf ((execOp (envK R) o).run P w))) w) :: (sim P w n ops l k its' (putE R o.dst (valOf ((execOp (envK R) o).run P w)))).rhs) →
              (∀ a1, En n ds a1 (sim P w n ops l k its' (putE R o.dst (valOf ((execOp (envK R) o).run P w)))).env → (∀ t, ¬ inD (l.take k) t → a1.eval (.tmp t) = (a.put o.dst (valOf ((execOp (envK R) o).run P w))).eval (.tmp t)) → L ro P ops Q (l.drop k) a1 w) → L ro P ops Q (o :: l) a w := by
            intro its' hk hs
            injection hk with h1 h2
            exact step_on he.ev hg (It.cr_spec he.ev h1) (sim_run l k its' _ _ (he.putE hin _) h2 hs)
          cases its with
          | nil => intro hk hstep; exact comp [] hk (hstep _)
          | cons p its =>
            obtain ⟨j, it⟩ := p
            cases j with
            | zero =>
              intro hk hstep
              injection hk with h1 h2
              exact step_on he.ev hg (it.h a R o he.ev h1) (sim_run l k its _ _ (he.putE hin _) h2 (hstep _))
            | succ j => intro hk hstep; exact comp _ hk (hstep _)
structure Fin where
  lhs : List Chk
  look : List (Option Value)
  ok : Bool
def dOk (lo hi : Nat) (W : Env) (l : List Oper) : Bool := l.all fun o => match o.dst with
  | none => true
  | some d => (Nat.ble lo d && Nat.ble d hi) || (lk W d).isSome
theorem dOk_spec {lo hi : Nat} {W : Env} {l : List Oper} (h : dOk lo hi W l = true) {t : Nat} (ht : inD l t) : ((Nat.ble lo t && Nat.ble t hi) || (lk W t).isSome) = true := by
  obtain ⟨o, ho, e⟩ := ht
  have := List.all_eq_true.1 h o ho
  rw [e] at this
  exact this
theorem En.fin {a a1 : Act} {R E W : Env} {l : List Oper} (h : En n ds a R) (h1 : En n ds a1 E) (hs : ∀ t, ¬ inD l t → a1.eval (.tmp t) = a.eval (.tmp t)) {lo hi : Nat} (hW : W.map (fun p => lk E p.1) = W.map (fun p => some p.2)) (hd : dOk lo hi W l = true) :
    En n ds a1 (W ++ keep lo hi W R) := ⟨h1.sd, fun t v hv => by
  rcases lk_append W _ t v hv with h2 | ⟨h2, h3⟩
  · exact (h1.only W hW).ev t v h2
  · unfold keep at h3
    have h4 := lk_filter (fun q => !((Nat.ble lo q && Nat.ble q hi) || (lk W q).isSome)) R t v h3
    have h5 := h4.1
    rw [hs t (fun hin => by rw [dOk_spec hd hin] at h5; cases h5)]
    exact h.ev t v h4.2⟩
/-- A run of so many operations. -/
theorem run {l : List Oper} {a : Act} {R : Env} (h : En n ds a R) (its : List (Nat × It P w)) (k lo hi : Nat) (W : Env) (K : ∀ a1, En n ds a1 (W ++ keep lo hi W R) → L ro P ops Q (l.drop k) a1 w)
    (hk : Fin.mk (sim P w n ops l k its R).lhs (W.map fun p => lk (sim P w n ops l k its R).env p.1) (dOk lo hi W (l.take k)) = Fin.mk (sim P w n ops l k its R).rhs (W.map fun p => some p.2) true := by kernel_rfl) : L ro P ops Q l a w := by
  injection hk with h1 h2 h3
  exact sim_run l k its R a h h1 fun a1 he hs => K a1 (h.fin he hs h2 h3)
/-- A run to the end. -/
theorem re {l : List Oper} {a : Act} {R : Env} (h : En n ds a R) (its : List (Nat × It P w)) (lo hi : Nat) (W : Env) (K : ∀ a1, En n ds a1 (W ++ keep lo hi W R) → Q .normal a1 w)
    (hk : Fin.mk (sim P w n ops l l.length its R).lhs (W.map fun p => lk (sim P w n ops l l.length its R).env p.1) (dOk lo hi W l) = Fin.mk (sim P w n ops l l.length its R).rhs (W.map fun p => some p.2) true := by kernel_rfl) : L ro P ops Q l a w := by
  injection hk with h1 h2 h3
  refine sim_run l l.length its R a h h1 fun a1 he hs => ?_
  rw [List.drop_length]
  exact nil (K a1 (h.fin he (by simpa using hs) h2 h3))
/-- A region that is one run. -/
theorem rr {l : List Oper} {id : Nat} {a : Act} {R : Env} (h : En n ds a R) (its : List (Nat × It P w)) (lo hi : Nat) (W : Env) (K : ∀ a1, En n ds a1 (W ++ keep lo hi W R) → Q .normal a1 w)
    (hk : Fin.mk (sim P w n l.toArray l l.length its R).lhs (W.map fun p => lk (sim P w n l.toArray l l.length its R).env p.1) (Plan.noDefer l.toArray && dOk lo hi W l) = Fin.mk (sim P w n l.toArray l l.length its R).rhs (W.map fun p => some p.2) true := by kernel_rfl) : Wp ro P (.region id l.toArray false) Q a w := by
  injection hk with h1 h2 h3
  rw [Bool.and_eq_true] at h3
  refine region h3.1 (sim_run l l.length its R a h h1 fun a1 he hs => ?_)
  rw [List.drop_length]
  exact nil (K a1 (h.fin he (by simpa using hs) h2 h3.2))
/-- A statement that is one run, and what is behind it. -/
theorem sr {l : List Oper} {id : Nat} {y : Code} {a : Act} {R : Env} (h : En n ds a R) (its : List (Nat × It P w)) (lo hi : Nat) (W : Env) (K : ∀ a1, En n ds a1 (W ++ keep lo hi W R) → Wp ro P y Q a1 w)
    (hk : Fin.mk (sim P w n l.toArray l l.length its R).lhs (W.map fun p => lk (sim P w n l.toArray l l.length its R).env p.1) (Plan.noDefer l.toArray && dOk lo hi W l) = Fin.mk (sim P w n l.toArray l l.length its R).rhs (W.map fun p => some p.2) true := by kernel_rfl) : Wp ro P (.seq (.region id l.toArray false) y) Q a w :=
  seqd (rr (Q := Exit.then (Wp ro P y Q) Q) h its lo hi W K hk)
/-- A statement that is no single run: its operations, one by one. -/
theorem sg {l : List Oper} {id : Nat} {y : Code} {a : Act} (k : ∀ K : Act → World → Prop, (∀ a w, Wp ro P y Q a w → K a w) → L ro P l.toArray (Exit.then K Q) l a w) (hnd : Plan.noDefer l.toArray = true := by kernel_rfl) : Wp ro P (.seq (.region id l.toArray false) y) Q a w :=
  seq fun K hK => region hnd (k K hK)
theorem nt {K : Act → World → Prop} {a : Act} (h : K a w) : L ro P ops (Exit.then K Q) [] a w := nil h
/-- What an operation gave. -/
theorem pt {rest : List Oper} {a : Act} {R : Env} (h : En n ds a R) {t : Nat} {v : Value} (k : ∀ a1, En n ds a1 ((t, v) :: R) → L ro P ops Q rest a1 w) (hd : Nat.ble (t + 1) n = true := by rfl) : L ro P ops Q rest (a.put (some t) v) w := k _ (h.put hd v)
def fnOf (R : Env) (f : Operand) (args : Array Operand) : Option (FuncId × List (Option Value)) := match opv R f with
  | some (.func (.func g) ⟨[]⟩ cap) => some (g, args.toList.map (opv R) ++ cap.toList.map some)
  | _ => none
theorem map_opv {a : Act} {R : Env} (h : Ev a R) : ∀ (l : List Operand) (vs : List Value), l.map (opv R) = vs.map some → l.map a.eval = vs
  | [], [], _ => rfl
  | x :: l, v :: vs, e => by
    simp only [List.map_cons, List.cons.injEq] at e
    simp only [List.map_cons, opv_eval h e.1, map_opv h l vs e.2]
  | [], _ :: _, e => by simp at e
  | _ :: _, [], e => by simp at e
/-- A call of a function whose contract is known. -/
theorem cl {a : Act} {R : Env} (h : En n ds a R) {rest : List Oper} {d : Option Tmp} {f : Operand} {args : Array Operand} {ts : Array TypeId} {ty : TypeId} {pos : String} {aft : Array Edge} {gn : FuncId} {av : Array Value}
    (he : ∀ args w, (callFunc gn args).run P w = .ok (.enter gn args) w) {S : Ending → World → Prop} (hc : Calls P gn av w S) (k : ∀ e w1, S e w1 → ∃ v, e = .returned v ∧ ∀ a1, En n ds a1 (putE R d v) → L ro P ops Q rest a1 w1)
    (hk : (fnOf R f args, inN n d) = (some (gn, av.toList.map some), true) := by kernel_rfl) : L ro P ops Q (⟨d, .call ⟨.value f, args, ts⟩, ty, pos, aft, none⟩ :: rest) a w := by
  have hk1 := congrArg Prod.fst hk
  have hk2 : inN n d = true := congrArg Prod.snd hk
  simp only at hk1
  unfold fnOf at hk1
  split at hk1
  · rename_i g cap hf
    simp only [Option.some.injEq, Prod.mk.injEq] at hk1
    obtain ⟨rfl, hav⟩ := hk1
    have hf' := opv_eval h.ev hf
    have hm : args.map a.eval ++ cap = av := by
      have h1 : (args.toList.map (opv R) ++ cap.toList.map (opv R ∘ Operand.const)) = av.toList.map some := by rw [← hav]; rfl
      have h2 := map_opv h.ev (args.toList ++ cap.toList.map Operand.const) av.toList (by rw [List.map_append, List.map_map]; exact h1)
      apply Array.ext'
      rw [← h2]
      simp [Act.eval, Function.comp_def]
    subst hm
    exact go (call g cap (args.map a.eval) hf' rfl he hc fun e w1 hS => by
      obtain ⟨v, hv, hL⟩ := k e w1 hS
      exact ⟨v, hv, hL _ (h.putE hk2 v)⟩)
  · cases hk1
/-- The same, in a test. -/
theorem clg {a : Act} {R : Env} (h : En n ds a R) {rest : List Oper} {d : Option Tmp} {f : Operand} {args : Array Operand} {ts : Array TypeId} {ty : TypeId} {pos : String} {aft : Array Edge} {gn : FuncId} {av : Array Value} {j : Nat} {want : Bool}
    (he : ∀ args w, (callFunc gn args).run P w = .ok (.enter gn args) w) {S : Ending → World → Prop} (hc : Calls P gn av w S) (k : ∀ e w1, S e w1 → ∃ v, e = .returned v ∧ ∀ a1, En n ds a1 (putE R d v) → L ro P ops Q rest a1 w1)
    (hk : (fnOf R f args, inN n d, ((ops[j]?).bind (·.dst)).bind (lk R)) = (some (gn, av.toList.map some), true, some (.bool want)) := by kernel_rfl) : L ro P ops Q (⟨d, .call ⟨.value f, args, ts⟩, ty, pos, aft, some (j, want)⟩ :: rest) a w := by
  have hk1 := congrArg Prod.fst hk
  have hk2 : inN n d = true := congrArg (fun p => p.2.1) hk
  have hk3 : ((ops[j]?).bind (·.dst)).bind (lk R) = some (.bool want) := congrArg (fun p => p.2.2) hk
  obtain ⟨t, ht, htv⟩ := Option.bind_eq_some_iff.1 hk3
  simp only at hk1
  unfold fnOf at hk1
  split at hk1
  · rename_i g cap hf
    simp only [Option.some.injEq, Prod.mk.injEq] at hk1
    obtain ⟨rfl, hav⟩ := hk1
    have hf' := opv_eval h.ev hf
    have hm : args.map a.eval ++ cap = av := by
      have h1 : (args.toList.map (opv R) ++ cap.toList.map (opv R ∘ Operand.const)) = av.toList.map some := by rw [← hav]; rfl
      have h2 := map_opv h.ev (args.toList ++ cap.toList.map Operand.const) av.toList (by rw [List.map_append, List.map_map]; exact h1)
      apply Array.ext'
      rw [← h2]
      simp [Act.eval, Function.comp_def]
    subst hm
    exact go_on t ht (h.ev _ _ htv) (call g cap (args.map a.eval) hf' rfl he hc fun e w1 hS => by
      obtain ⟨v, hv, hL⟩ := k e w1 hS
      exact ⟨v, hv, hL _ (h.putE hk2 v)⟩)
  · cases hk1
/-- An operation in a test that is met. -/
theorem gon {a : Act} {R : Env} (h : En n ds a R) {rest : List Oper} {d : Option Tmp} {op : Op} {ty : TypeId} {pos : String} {aft : Array Edge} {j : Nat} {want : Bool} (k : St ro P ops Q rest ⟨d, op, ty, pos, aft, some (j, want)⟩ a w)
    (hk : ((ops[j]?).bind (·.dst)).bind (lk R) = some (.bool want) := by kernel_rfl) : L ro P ops Q (⟨d, op, ty, pos, aft, some (j, want)⟩ :: rest) a w := by
  obtain ⟨t, ht, htv⟩ := Option.bind_eq_some_iff.1 hk
  exact go_on t ht (h.ev _ _ htv) k
end
/-! ### A call's beginning and end -/
def argE : Nat → List Value → Env
  | _, [] => []
  | i, v :: l => (i, v) :: argE (i + 1) l
theorem lk_argE : ∀ (l : List Value) (i t : Nat) (v : Value), lk (argE i l) t = some v → i ≤ t ∧ l[t - i]? = some v
  | [], _, _, _, h => by simp [argE, lk] at h
  | u :: l, i, t, v, h => by
    simp only [argE, lk] at h
    cases hk : Nat.beq i t with
    | true =>
      rw [hk] at h
      have := Nat.eq_of_beq_eq_true hk
      subst this
      simp only [cond_true, Option.some.injEq] at h
      exact ⟨Nat.le_refl _, by simp [h]⟩
    | false =>
      rw [hk] at h
      obtain ⟨h1, h2⟩ := lk_argE l (i + 1) t v h
      refine ⟨by omega, ?_⟩
      have : t - i = (t - (i + 1)) + 1 := by omega
      rw [this, List.getElem?_cons_succ]
      exact h2
section
variable {P : Program} {fn : Func} {S : Ending → World → Prop} {a : Act} {w : World} {n : Nat} {R : Env}
theorem en {f : FuncId} {c : Code} {l : List Value} (N : Nat) (hf : P.funcs[f]? = some fn) (h : ∀ a, En N [] a (argE 0 l) → Wp none P c (bodyPost P fn S) a w) (hb : fn.body = some c := by rfl) (hn : l.length + (fn.ntmps - l.length) = N := by rfl) : Calls P f l.toArray w S :=
  enter N hf hb hn fun a hz ha => h a ⟨hz, fun t v hv => by
    have := lk_argE l 0 t v hv
    exact ha t v (by simpa using this.2)⟩
def resV (R : Env) : List ResultVar → List (Option Value)
  | [] => []
  | .tmp t :: l => lk R t :: resV R l
  | _ :: l => none :: resV R l
theorem r0 (h : En n [] a R) (hR : S (.returned (.tuple #[])) w) (hf : fn.results = #[] := by rfl) : bodyPost P fn S .ret a w := ret0 h.sd hf hR
theorem e0 (h : En n [] a R) (hR : S (.returned (.tuple #[])) w) (hf : fn.results = #[] := by rfl) : bodyPost P fn S .normal a w := end0 h.sd hf hR
theorem resV_cons {l : List ResultVar} {v : Value} {vs : List (Option Value)} (h : resV R l = some v :: vs) : ∃ t l', l = .tmp t :: l' ∧ lk R t = some v ∧ resV R l' = vs := by
  cases l with
  | nil => cases h
  | cons x l =>
    cases x with
    | tmp t => simp only [resV, List.cons.injEq] at h; exact ⟨t, l, rfl, h.1, h.2⟩
    | cell s t => simp [resV] at h
theorem resV_nil {l : List ResultVar} (h : resV R l = []) : l = [] := by
  cases l with
  | nil => rfl
  | cons x l => cases x <;> simp [resV] at h
theorem r1 (h : En n [] a R) (v : Value) (hR : S (.returned v) w) (hk : resV R fn.results.toList = [some v] := by kernel_rfl) : bodyPost P fn S .ret a w := by
  obtain ⟨t, l, e, ht, hk⟩ := resV_cons hk
  rw [resV_nil hk] at e
  exact ret1 h.sd (t := t) (Array.ext' e) (h.ev _ _ ht) hR
theorem r2 (h : En n [] a R) (v v' : Value) (hR : S (.returned (.tuple #[v, v'])) w) (hk : resV R fn.results.toList = [some v, some v'] := by kernel_rfl) : bodyPost P fn S .ret a w := by
  obtain ⟨t, l, e, ht, hk⟩ := resV_cons hk
  obtain ⟨u, l, e1, hu, hk⟩ := resV_cons hk
  rw [e1, resV_nil hk] at e
  exact ret2 h.sd (t := t) (u := u) (Array.ext' e) (h.ev _ _ ht) (h.ev _ _ hu) hR
theorem r3 (h : En n [] a R) (v v' v'' : Value) (hR : S (.returned (.tuple #[v, v', v''])) w) (hk : resV R fn.results.toList = [some v, some v', some v''] := by kernel_rfl) : bodyPost P fn S .ret a w := by
  obtain ⟨t, l, e, ht, hk⟩ := resV_cons hk
  obtain ⟨u, l, e1, hu, hk⟩ := resV_cons hk
  obtain ⟨s, l, e2, hs, hk⟩ := resV_cons hk
  rw [e1, e2, resV_nil hk] at e
  exact ret3 h.sd (t := t) (u := u) (s := s) (Array.ext' e) (h.ev _ _ ht) (h.ev _ _ hu) (h.ev _ _ hs) hR
end
section
variable {ro : Option Nat} {P : Program} {Q : Exit → Act → World → Prop} {w : World} {n : Nat} {ds : List Deferred} {a : Act} {R : Env}
theorem cp (h : En n ds a R) (p : Prop) [Decidable p] {c : Operand} {x y : Code} (h1 : p → Wp ro P x Q a w) (h2 : ¬ p → Wp ro P y Q a w) (hk : opv R c = some (.bool (decide p)) := by kernel_rfl) : Wp ro P (.cond c x y) Q a w := condP (opv_eval h.ev hk) h1 h2
theorem cb (h : En n ds a R) (t : Bool) {c : Operand} {x y : Code} (h1 : t = true → Wp ro P x Q a w) (h2 : ¬ t = true → Wp ro P y Q a w) (hk : opv R c = some (.bool t) := by kernel_rfl) : Wp ro P (.cond c x y) Q a w :=
  cond (opv_eval h.ev hk) h1 (fun hf => h2 (by rw [hf]; simp))
theorem ct (h : En n ds a R) {c : Operand} {x y : Code} (h1 : Wp ro P x Q a w) (hk : opv R c = some (.bool true) := by kernel_rfl) : Wp ro P (.cond c x y) Q a w := cond_t (opv_eval h.ev hk) h1
theorem cf (h : En n ds a R) {c : Operand} {x y : Code} (h1 : Wp ro P y Q a w) (hk : opv R c = some (.bool false) := by kernel_rfl) : Wp ro P (.cond c x y) Q a w := cond_f (opv_eval h.ev hk) h1
end
/-! ### Regions that draw their order -/
def insN (x : Nat) (l : List Nat) : List Nat := bif l.any (Nat.beq x) then l else x :: l
def ancs (ops : Array Oper) : List (List Nat) := (List.range ops.size).foldl (fun A j => A ++ [(Plan.deps ops j).foldl (fun r d => insN d ((A.getD d []).foldl (fun r x => insN x r) r)) []]) []
def hasK (R : Env) (ops : Array Oper) (o : Oper) : Bool := match o.guard with
  | none => true
  | some (j, _) => match (ops[j]?).bind (·.dst) with
    | none => true
    | some t => (lk R t).isSome
def chkK (P : Program) (R : Env) (ops : Array Oper) (os : List Oper) : Bool := os.all fun o => Plan.isL o || ((Plan.asks o).all (fun t => (lk R t).isSome) && Plan.okP P (envK R) o) || (hasK R ops o && Plan.offE ops (envK R) o)
theorem envK_eval {a : Act} {R : Env} (h : Ev a R) {t : Nat} (ht : (lk R t).isSome = true) : a.eval (.tmp t) = envK R (.tmp t) := by
  obtain ⟨v, hv⟩ := Option.isSome_iff_exists.1 ht
  simp only [envK, hv, Option.getD_some]
  exact h t v hv
theorem chkK_spec {P : Program} {a : Act} {R : Env} {ops : Array Oper} {os : List Oper} (he : Ev a R) (hk : chkK P R ops os = true) : Plan.segChk P ops a os = true := by
  unfold Plan.segChk
  unfold chkK at hk
  rw [List.all_eq_true] at hk ⊢
  intro o ho
  have h := hk o ho
  simp only [Bool.or_eq_true, Bool.and_eq_true] at h ⊢
  rcases h with (h | ⟨h1, h2⟩) | ⟨h1, h2⟩
  · exact .inl (.inl h)
  · refine .inl (.inr ?_)
    rw [← h2]
    refine Plan.okP_congr fun x hx => ?_
    cases x with
    | tmp t => exact envK_eval he (List.all_eq_true.1 h1 t (hx t rfl))
    | _ => rfl
  · refine .inr ?_
    rw [← h2]
    refine Plan.offE_congr fun j w t hg hd => ?_
    unfold hasK at h1
    rw [hg] at h1
    simp only [hd] at h1
    exact envK_eval he h1
section
variable {ro : Option Nat} {P : Program} {Q : Exit → Act → World → Prop} {w : World} {n : Nat} {ds : List Deferred} {a : Act} {R : Env} {l : List Oper}
theorem segrun {os : List Oper} (h : En n ds a R) (its : List (Nat × It P w)) (lo hi : Nat) (W : Env) {K : Act → World → Prop} (hK : ∀ a1, En n ds a1 (W ++ keep lo hi W R) → K a1 w)
    (hk : Fin.mk (sim P w n l.toArray os os.length its R).lhs (W.map fun p => lk (sim P w n l.toArray os os.length its R).env p.1) (dOk lo hi W os && chkK P (sim P w n l.toArray os os.length its R).env l.toArray os) = Fin.mk (sim P w n l.toArray os os.length its R).rhs (W.map fun p => some p.2) true) :
    L ro P l.toArray (Plan.segPost fun a' w' => Plan.segChk P l.toArray a' os = true ∧ K a' w') os a w := by
  injection hk with h1 h2 h3
  rw [Bool.and_eq_true] at h3
  refine sim_run os os.length its R a h h1 fun a1 he hs => ?_
  rw [List.drop_length]
  exact nil ⟨chkK_spec he.ev h3.2, hK a1 (h.fin he (by simpa using hs) h2 h3.1)⟩
def segC (P : Program) (w : World) (n : Nat) (l os : List Oper) (its : List (Nat × It P w)) (lo hi : Nat) (W R : Env) : Fin :=
  ⟨(sim P w n l.toArray os os.length its R).lhs, W.map fun p => lk (sim P w n l.toArray os os.length its R).env p.1, dOk lo hi W os && chkK P (sim P w n l.toArray os os.length its R).env l.toArray os⟩
theorem pz (h : En n ds a R) (its : List (Nat × It P w)) (lo hi : Nat) (W : Env) {s : List Nat} (hK : ∀ a1, En n ds a1 (W ++ keep lo hi W R) → Q .normal a1 w)
    (hk : segC P w n l (Plan.pickAll l s) its lo hi W R = Fin.mk (sim P w n l.toArray (Plan.pickAll l s) (Plan.pickAll l s).length its R).rhs (W.map fun p => some p.2) true := by kernel_rfl) : Plan.wpSegs ro P l Q [(s, none)] a w := by
  have := segrun (ro := ro) h its lo hi W hK hk
  unfold L at this
  exact this
theorem pe (h : En n ds a R) (its : List (Nat × It P w)) (lo hi : Nat) (W : Env) {s : List Nat} {j : Nat} {kp : List Nat} {r : Plan.Plan}
    (hK : ∀ a1, En n ds a1 (W ++ keep lo hi W R) → L ro P l.toArray (Plan.effPost Q fun a'' w'' => Plan.Held P l.toArray kp a1 w w'' ∧ Plan.wpSegs ro P l Q r a'' w'') [Plan.nth l j] a1 w)
    (hk : segC P w n l (Plan.pickAll l s) its lo hi W R = Fin.mk (sim P w n l.toArray (Plan.pickAll l s) (Plan.pickAll l s).length its R).rhs (W.map fun p => some p.2) true := by kernel_rfl) : Plan.wpSegs ro P l Q ((s, some (j, kp)) :: r) a w := by
  have := segrun (ro := ro) (K := fun a' w' => L ro P l.toArray (Plan.effPost Q fun a'' w'' => Plan.Held P l.toArray kp a' w' w'' ∧ Plan.wpSegs ro P l Q r a'' w'') [Plan.nth l j] a' w') h its lo hi W hK hk
  unfold L at this
  exact this
theorem qs (h : En n ds a R) (its : List (Nat × It P w)) (lo hi : Nat) (W : Env) {s : List Nat} {r : Plan.ST} (hK : ∀ a1, En n ds a1 (W ++ keep lo hi W R) → Plan.wpST ro P l Q r a1 w)
    (hk : segC P w n l (Plan.pickAll l s) its lo hi W R = Fin.mk (sim P w n l.toArray (Plan.pickAll l s) (Plan.pickAll l s).length its R).rhs (W.map fun p => some p.2) true := by kernel_rfl) : Plan.wpST ro P l Q (.seg s r) a w := by
  have := segrun (ro := ro) h its lo hi W hK hk
  unfold L at this
  exact this
/-! a stretch with an operation that is no part of a run -/
theorem pz0 {s : List Nat} (h : L ro P l.toArray (Plan.segPost fun a' w' => Plan.segChk P l.toArray a' (Plan.pickAll l s) = true ∧ Q .normal a' w') (Plan.pickAll l s) a w) : Plan.wpSegs ro P l Q [(s, none)] a w := by
  unfold L at h
  exact h
theorem pe0 {s : List Nat} {j : Nat} {kp : List Nat} {r : Plan.Plan}
    (h : L ro P l.toArray (Plan.segPost fun a' w' => Plan.segChk P l.toArray a' (Plan.pickAll l s) = true ∧ L ro P l.toArray (Plan.effPost Q fun a'' w'' => Plan.Held P l.toArray kp a' w' w'' ∧ Plan.wpSegs ro P l Q r a'' w'') [Plan.nth l j] a' w') (Plan.pickAll l s) a w) : Plan.wpSegs ro P l Q ((s, some (j, kp)) :: r) a w := by
  unfold L at h
  exact h
theorem se {os rest : List Oper} (h : En n ds a R) (its : List (Nat × It P w)) (lo hi : Nat) (W : Env) {K : Act → World → Prop} (hK : ∀ a1, En n ds a1 (W ++ keep lo hi W R) → K a1 w)
    (hk : Fin.mk (sim P w n l.toArray rest rest.length its R).lhs (W.map fun p => lk (sim P w n l.toArray rest rest.length its R).env p.1) (dOk lo hi W rest && chkK P (sim P w n l.toArray rest rest.length its R).env l.toArray os) = Fin.mk (sim P w n l.toArray rest rest.length its R).rhs (W.map fun p => some p.2) true := by kernel_rfl) :
    L ro P l.toArray (Plan.segPost fun a' w' => Plan.segChk P l.toArray a' os = true ∧ K a' w') rest a w := by
  injection hk with h1 h2 h3
  rw [Bool.and_eq_true] at h3
  refine sim_run rest rest.length its R a h h1 fun a1 he hs => ?_
  rw [List.drop_length]
  exact nil ⟨chkK_spec he.ev h3.2, hK a1 (h.fin he (by simpa using hs) h2 h3.1)⟩
theorem qe {j : Nat} {kp : List Nat} {r : Plan.ST} (hK : L ro P l.toArray (Plan.effPost Q fun a'' w'' => Plan.Held P l.toArray kp a w w'' ∧ Plan.wpST ro P l Q r a'' w'') [Plan.nth l j] a w) : Plan.wpST ro P l Q (.eff j kp r) a w := by
  unfold L at hK
  exact hK
theorem qa {p q : Plan.ST} (h1 : Plan.wpST ro P l Q p a w) (h2 : Plan.wpST ro P l Q q a w) : Plan.wpST ro P l Q (.alt p q) a w := ⟨h1, h2⟩
theorem qn (h : Q .normal a w) : Plan.wpST ro P l Q .nil a w := h
theorem eh {ops : Array Oper} {kp : Act → World → Prop} {k2 : Act → World → Prop} (h : kp a w) (k : k2 a w) : L ro P ops (Plan.effPost Q fun a'' w'' => kp a'' w'' ∧ k2 a'' w'') [] a w := nil ⟨h, k⟩
theorem pl {id : Nat} (p : Plan.Plan) (k : ∀ w1, Fr [] w w1 → w1.heap.size = w.heap.size → Plan.wpSegs ro P l Q p a w1)
    (hok : Plan.planOk l (ancs l.toArray) p = true := by kernel_rfl) (hm : P.follows .mixedOrders = true := by kernel_rfl) (hQ : ∀ c a t w, Q (.panic c) { a with tmps := t } w → Q (.panic c) a w := by exact fun _ _ _ _ h => h) : Wp ro P (.region id l.toArray true) Q a w :=
  plan _ p hm hok hQ (k _ (Fr.drew _ _) rfl)
theorem ql {id : Nat} (p : Plan.ST) (k : ∀ w1, Fr [] w w1 → w1.heap.size = w.heap.size → Plan.wpST ro P l Q p a w1)
    (hok : Plan.stPlanOk l (ancs l.toArray) p = true := by kernel_rfl) (hm : P.follows .mixedOrders = true := by kernel_rfl) (hQ : ∀ c a t w, Q (.panic c) { a with tmps := t } w → Q (.panic c) a w := by exact fun _ _ _ _ h => h) : Wp ro P (.region id l.toArray true) Q a w :=
  planT _ p hm hok hQ (k _ (Fr.drew _ _) rfl)
end
end Go.V
end
section
namespace Go.V
set_option linter.unusedVariables false
set_option linter.unusedSimpArgs false
abbrev toL (s : ByteArray) : List UInt8 := s.data.toList
abbrev ofL (l : List UInt8) : ByteArray := ⟨l.toArray⟩
theorem ofL_toL (s : ByteArray) : ofL (toL s) = s := by cases s; rfl
theorem slt_iff {s t : ByteArray} : slt s t ↔ toL s < toL t := by
  unfold slt
  rw [ByteArray.toList_eq, ByteArray.toList_eq, Go.Proofs.bytesLess_eq, decide_eq_true_eq]
theorem slt_irr (s : ByteArray) : ¬ slt s s := by rw [slt_iff]; exact List.lt_irrefl _
theorem slt_trans {s t u : ByteArray} (h : slt s t) (k : slt t u) : slt s u := by
  rw [slt_iff] at *
  exact List.lt_trans h k
theorem slt_asymm {s t : ByteArray} (h : slt s t) : ¬ slt t s := fun k => slt_irr s (slt_trans h k)
theorem slt_tri (s t : ByteArray) : slt s t ∨ s = t ∨ slt t s := by
  have := less_tri s.toList t.toList
  unfold slt
  cases h1 : Op.bytesLess s.toList t.toList with
  | true => exact .inl rfl
  | false =>
    rw [h1] at this
    cases h2 : (s.toList == t.toList) with
    | true => exact .inr (.inl (toList_inj.1 (eq_of_beq h2)))
    | false => rw [h2] at this; exact .inr (.inr (by simpa using this))
instance decMem (x : ByteArray) (l : List ByteArray) : Decidable (x ∈ l) := decidable_of_iff (l.any (fun y => decide (y = x)) = true) (by
  rw [List.any_eq_true]
  constructor
  · rintro ⟨y, hy, he⟩; rw [← of_decide_eq_true he]; exact hy
  · intro h; exact ⟨x, h, decide_eq_true rfl⟩)
/-- In order, each once. -/
def Inc (l : List ByteArray) : Prop := l.Pairwise slt
theorem Inc.nil : Inc [] := List.Pairwise.nil
theorem Inc.nodup {l : List ByteArray} (h : Inc l) : l.Nodup := List.Pairwise.imp (fun {a b} (h : slt a b) (e : a = b) => slt_irr a (by rw [← e] at h; exact h)) h
instance (l : List ByteArray) : Decidable (Inc l) := inferInstanceAs (Decidable (l.Pairwise slt))
theorem Inc.sub {l m : List ByteArray} (h : Inc m) (hs : List.Sublist l m) : Inc l := List.Pairwise.sublist hs h
/-- Two in order with the same members are one. -/
theorem inc_eq : ∀ {l m : List ByteArray}, Inc l → Inc m → (∀ x, x ∈ l ↔ x ∈ m) → l = m
  | [], [], _, _, _ => rfl
  | [], y :: m, _, _, h => by have := (h y).2 (List.mem_cons_self ..); cases this
  | x :: l, [], _, _, h => by have := (h x).1 (List.mem_cons_self ..); cases this
  | x :: l, y :: m, hl, hm, h => by
    have h1 := List.pairwise_cons.1 hl
    have h2 := List.pairwise_cons.1 hm
    have hxy : x = y := by
      rcases List.mem_cons.1 ((h x).1 (List.mem_cons_self ..)) with e | hx
      · exact e
      · rcases List.mem_cons.1 ((h y).2 (List.mem_cons_self ..)) with e | hy
        · exact e.symm
        · exact absurd (h1.1 y hy) (slt_asymm (h2.1 x hx))
    subst hxy
    rw [inc_eq h1.2 h2.2 fun z => ⟨fun hz => by
      rcases List.mem_cons.1 ((h z).1 (List.mem_cons_of_mem _ hz)) with rfl | hq
      · exact absurd (h1.1 z hz) (slt_irr z)
      · exact hq, fun hz => by
      rcases List.mem_cons.1 ((h z).2 (List.mem_cons_of_mem _ hz)) with rfl | hq
      · exact absurd (h2.1 z hz) (slt_irr z)
      · exact hq⟩]
/-! ### The set of any texts -/
def sortS (l : List ByteArray) : List (List UInt8) := (l.map toL).mergeSort fun x y => decide (x ≤ y)
def setOf (l : List ByteArray) : List ByteArray := (Lib.compact (sortS l)).map ofL
theorem sort_len (l : List ByteArray) : (sortS l).length = l.length := by unfold sortS; rw [List.length_mergeSort, List.length_map]
theorem sort_mem (l : List ByteArray) (x : List UInt8) : x ∈ sortS l ↔ ∃ s ∈ l, toL s = x := by
  unfold sortS
  rw [List.mem_mergeSort, List.mem_map]
theorem le_tot (x y : List UInt8) : (decide (x ≤ y) || decide (y ≤ x)) = true := by
  rw [Bool.or_eq_true, decide_eq_true_eq, decide_eq_true_eq]
  exact List.le_total ..
theorem le_tr (x y z : List UInt8) (h : decide (x ≤ y) = true) (k : decide (y ≤ z) = true) : decide (x ≤ z) = true := by
  rw [decide_eq_true_eq] at *
  exact List.le_trans h k
theorem sort_sorted (l : List ByteArray) : (sortS l).Pairwise (fun x y => x ≤ y) := by
  unfold sortS
  have := List.pairwise_mergeSort (le := fun x y : List UInt8 => decide (x ≤ y)) le_tr le_tot (l.map toL)
  exact this.imp fun h => of_decide_eq_true h
theorem comp_inv (d : Array (List UInt8)) (hd : d.toList.Pairwise (fun x y => x ≤ y)) : ∀ m, m ≤ d.size → (Lib.compactUpTo d m).Pairwise (fun x y => x < y) ∧ (∀ x, x ∈ Lib.compactUpTo d m ↔ ∃ i, i < m ∧ d[i]! = x) := by
  intro m
  induction m with
  | zero => intro _; exact ⟨by simp [Lib.compactUpTo], fun x => by simp [Lib.compactUpTo]⟩
  | succ m ih =>
    intro hm
    obtain ⟨h1, h2⟩ := ih (by omega)
    have hle : ∀ i, i ≤ m → d[i]! ≤ d[m]! := by
      intro i hi
      rcases Nat.lt_or_ge i m with hlt | hge
      · have := List.pairwise_iff_getElem.1 hd i m (by simpa using (by omega : i < d.size)) (by simpa using (by omega : m < d.size)) hlt
        rw [getElem!_pos d i (by omega), getElem!_pos d m (by omega)]
        simpa using this
      · have : i = m := by omega
        subst this; exact List.le_refl _
    rw [Lib.compactUpTo_succ]
    by_cases hk : Lib.keeps d m = true
    · rw [if_pos hk]
      have hne : m = 0 ∨ d[m]! ≠ d[m - 1]! := by simpa [Lib.keeps] using hk
      refine ⟨List.pairwise_append.2 ⟨h1, List.pairwise_singleton _ _, fun x hx y hy => ?_⟩, fun x => ?_⟩
      · rw [List.mem_singleton] at hy
        subst hy
        obtain ⟨i, hi, rfl⟩ := (h2 x).1 hx
        rcases hne with h0 | hne
        · omega
        · have hq := List.pairwise_iff_getElem.1 hd
          have hi1 : d[i]! ≤ d[m - 1]! := by
            rcases Nat.lt_or_ge i (m - 1) with hlt | hge
            · have := hq i (m - 1) (by simpa using (by omega : i < d.size)) (by simpa using (by omega : m - 1 < d.size)) hlt
              rw [getElem!_pos d i (by omega), getElem!_pos d (m - 1) (by omega)]
              simpa using this
            · have : i = m - 1 := by omega
              rw [this]; exact List.le_refl _
          have hm1 := hle (m - 1) (by omega)
          rcases List.le_iff_lt_or_eq.1 hm1 with hlt | heq
          · rcases List.le_iff_lt_or_eq.1 hi1 with h3 | h3
            · exact List.lt_trans h3 hlt
            · rw [h3]; exact hlt
          · exact absurd heq.symm hne
      · rw [List.mem_append, h2, List.mem_singleton]
        constructor
        · rintro (⟨i, hi, rfl⟩ | rfl)
          · exact ⟨i, by omega, rfl⟩
          · exact ⟨m, by omega, rfl⟩
        · rintro ⟨i, hi, rfl⟩
          rcases Nat.lt_or_ge i m with hlt | hge
          · exact .inl ⟨i, hlt, rfl⟩
          · have : i = m := by omega
            subst this; exact .inr rfl
    · rw [if_neg hk, List.append_nil]
      have hne : ¬ (m = 0 ∨ d[m]! ≠ d[m - 1]!) := by simpa [Lib.keeps] using hk
      refine ⟨h1, fun x => ?_⟩
      rw [h2]
      constructor
      · rintro ⟨i, hi, rfl⟩; exact ⟨i, by omega, rfl⟩
      · rintro ⟨i, hi, rfl⟩
        rcases Nat.lt_or_ge i m with hlt | hge
        · exact ⟨i, hlt, rfl⟩
        · have : i = m := by omega
          subst this
          have h3 : ¬ i = 0 := fun h => hne (.inl h)
          have h4 : d[i]! = d[i - 1]! := Decidable.of_not_not fun h => hne (.inr h)
          exact ⟨i - 1, by omega, h4.symm⟩
theorem setOf_inc (l : List ByteArray) : Inc (setOf l) := by
  have h := (comp_inv (sortS l).toArray (by simpa using sort_sorted l) (sortS l).length (by simp)).1
  unfold Inc setOf Lib.compact
  rw [List.pairwise_map]
  exact h.imp fun h => by rw [slt_iff]; exact h
theorem setOf_mem (l : List ByteArray) (x : ByteArray) : x ∈ setOf l ↔ x ∈ l := by
  have h := (comp_inv (sortS l).toArray (by simpa using sort_sorted l) (sortS l).length (by simp)).2
  unfold setOf Lib.compact
  rw [List.mem_map]
  constructor
  · rintro ⟨y, hy, rfl⟩
    obtain ⟨i, hi, rfl⟩ := (h y).1 hy
    have : (sortS l).toArray[i]! ∈ sortS l := by
      rw [getElem!_pos _ i (by simpa using hi)]
      simp
    obtain ⟨s, hs, he⟩ := (sort_mem l _).1 this
    rw [← he, ofL_toL]; exact hs
  · intro hx
    have h1 : toL x ∈ sortS l := (sort_mem l _).2 ⟨x, hx, rfl⟩
    obtain ⟨i, hi, he⟩ := List.getElem_of_mem h1
    exact ⟨toL x, (h _).2 ⟨i, hi, by rw [getElem!_pos _ i (by simpa using hi)]; simpa using he⟩, ofL_toL x⟩
theorem comp_len (d : Array (List UInt8)) (m : Nat) : (Lib.compactUpTo d m).length ≤ m := by
  unfold Lib.compactUpTo
  rw [List.length_map]
  exact Nat.le_trans (List.length_filter_le _ _) (by simp)
theorem setOf_len (l : List ByteArray) : (setOf l).length ≤ l.length := by
  unfold setOf Lib.compact
  rw [List.length_map, ← sort_len l]
  exact comp_len _ _
theorem setOf_id {l : List ByteArray} (h : Inc l) : setOf l = l := inc_eq (setOf_inc l) h (setOf_mem l)
theorem setOf_nil : setOf [] = [] := setOf_id Inc.nil
end Go.V
end
section
namespace Go.V
open Go.Base Go.RowKit
set_option linter.unusedVariables false
set_option linter.unusedSimpArgs false

/-- How a datum lies in cells. Z: the blocks that it may lead to. -/
structure Rp (α : Type) where
  dflt : α
  sz : Nat
  ok : (Nat → Prop) → World → α → List Value → Prop
  len : ∀ {Z w x cs}, ok Z w x cs → cs.length = sz
  one : ∀ {Z w x cs}, ok Z w x cs → ∀ u ∈ cs, u.oneCell' = true
  mono : ∀ {Z Z' : Nat → Prop} {w w' x cs}, (∀ b, b < w.heap.size → Z b → Z' b ∧ w'.heap[b]? = w.heap[b]?) → w.heap.size ≤ w'.heap.size → ok Z w x cs → ok Z' w' x cs
def Rp.flat {α : Type} (d : α) (n : Nat) (enc : α → List Value) (hl : ∀ x, (enc x).length = n) (h1 : ∀ x, ∀ u ∈ enc x, u.oneCell' = true) : Rp α where
  dflt := d
  sz := n
  ok := fun _ _ x cs => cs = enc x
  len := by rintro _ _ x cs rfl; exact hl x
  one := by rintro _ _ x cs rfl; exact h1 x
  mono := by rintro _ _ _ _ x cs _ _ rfl; rfl
def Rp.int (k : IntKind) : Rp Int := Rp.flat 0 1 (fun x => [.int k x]) (fun _ => rfl) (fun x u hu => by simp at hu; subst hu; rfl)
def Rp.u8 : Rp UInt8 := Rp.flat 0 1 (fun x => [.int .u8 (x.toNat : Int)]) (fun _ => rfl) (fun x u hu => by simp at hu; subst hu; rfl)
def Rp.bool : Rp Bool := Rp.flat false 1 (fun x => [.bool x]) (fun _ => rfl) (fun x u hu => by simp at hu; subst hu; rfl)
def Rp.str : Rp ByteArray := Rp.flat ⟨#[]⟩ 1 (fun x => [.string x]) (fun _ => rfl) (fun x u hu => by simp at hu; subst hu; rfl)
section
variable {α : Type} {R : Rp α} {Z Z' : Nat → Prop} {w w' : World} {v : Value} {xs : List α}
/-- A slice that is read. -/
def SlR (R : Rp α) (Z : Nat → Prop) (w : World) (v : Value) (xs : List α) : Prop :=
  ∃ A c, v = .slice A xs.length c ∧ xs.length ≤ c ∧ xs.length ≤ 9223372036854775807 ∧
    ∀ i x, xs[i]? = some x → ∃ g o cs, A = some ⟨g, o, none⟩ ∧ Z g ∧ g < w.heap.size ∧ R.ok Z w x cs ∧ ∀ j u, cs[j]? = some u → w.cell? ⟨g, o + i * R.sz + j, none⟩ = some u
theorem SlR.mono (h : SlR R Z w v xs) (hm : ∀ b, b < w.heap.size → Z b → Z' b ∧ w'.heap[b]? = w.heap[b]?) (hs : w.heap.size ≤ w'.heap.size) : SlR R Z' w' v xs := by
  obtain ⟨A, c, e, h1, h2, h3⟩ := h
  refine ⟨A, c, e, h1, h2, fun i x hi => ?_⟩
  obtain ⟨g, o, cs, hA, hZ, hg, hok, hc⟩ := h3 i x hi
  exact ⟨g, o, cs, hA, (hm g hg hZ).1, Nat.lt_of_lt_of_le hg hs, R.mono hm hs hok, fun j u hj => (World.cell?_of_block (w := w) (hm g hg hZ).2).trans (hc j u hj)⟩
theorem SlR.fr (h : SlR R Z w v xs) {l : List Nat} (f : Fr l w w') (hl : ∀ b ∈ l, ¬ Z b) : SlR R Z w' v xs :=
  h.mono (fun b hb hz => ⟨hz, f.block b hb fun hm => hl b hm hz⟩) f.size
theorem SlR.fr0 (h : SlR R Z w v xs) (f : Fr [] w w') : SlR R Z w' v xs := h.fr f fun b hb => by cases hb
theorem SlR.zone (h : SlR R Z w v xs) (hz : ∀ b, b < w.heap.size → Z b → Z' b) : SlR R Z' w v xs := h.mono (fun b hb h => ⟨hz b hb h, rfl⟩) (Nat.le_refl _)
theorem SlR.nil (R : Rp α) (Z : Nat → Prop) (w : World) : SlR R Z w (.slice none 0 0) [] := ⟨none, 0, rfl, by simp, by simp, fun i x h => by simp at h⟩
theorem SlR.len_le (h : SlR R Z w v xs) : xs.length ≤ 9223372036854775807 := by obtain ⟨A, c, e, h1, h2, h3⟩ := h; exact h2
def at_ (R : Rp α) (xs : List α) (i : Int) : α := xs.getD i.toNat R.dflt
theorem at_some (R : Rp α) {xs : List α} {i : Int} (h0 : 0 ≤ i) (h1 : i < xs.length) : xs[i.toNat]? = some (at_ R xs i) := by
  unfold at_
  have : i.toNat < xs.length := by omega
  rw [List.getD_eq_getElem?_getD, List.getElem?_eq_getElem this]; rfl
theorem SlR.slice (h : SlR R Z w v xs) : ∃ A c, v = .slice A xs.length c ∧ xs.length ≤ c := by obtain ⟨A, c, e, h1, _⟩ := h; exact ⟨A, c, e, h1⟩
end
/-- Slices as elements. -/
def Rp.slice {α : Type} (R : Rp α) : Rp (List α) where
  dflt := []
  sz := 1
  ok := fun Z w xs cs => ∃ v, cs = [v] ∧ SlR R Z w v xs
  len := by rintro _ _ x cs ⟨v, rfl, _⟩; rfl
  one := by rintro _ _ x cs ⟨v, rfl, h⟩ u hu; obtain ⟨A, c, rfl, _⟩ := h; simp at hu; subst hu; rfl
  mono := by rintro Z Z' w w' x cs hm hs ⟨v, rfl, h⟩; exact ⟨v, rfl, h.mono hm hs⟩

/-! ### A slice of one's own: may be appended to, written -/
section
variable {α : Type} {R : Rp α} {Z Z' : Nat → Prop} {w w' : World} {v : Value} {xs : List α} {base : Nat} {e : TypeId}
/-- The cells of a row of data. -/
def Cells (R : Rp α) (Z : Nat → Prop) (w : World) : List α → List Value → Prop
  | [], cs => cs = []
  | x :: xs, cs => ∃ c r, cs = c ++ r ∧ R.ok Z w x c ∧ Cells R Z w xs r
theorem Cells.length : ∀ {xs : List α} {cs : List Value}, Cells R Z w xs cs → cs.length = xs.length * R.sz
  | [], cs, h => by have h' : cs = [] := h; subst h'; simp
  | x :: xs, cs, ⟨c, r, e, h1, h2⟩ => by subst e; rw [List.length_append, R.len h1, h2.length, List.length_cons, Nat.add_mul, Nat.one_mul, Nat.add_comm]
theorem Cells.one : ∀ {xs : List α} {cs : List Value}, Cells R Z w xs cs → ∀ u ∈ cs, u.oneCell' = true
  | [], cs, h, u, hu => by have h' : cs = [] := h; subst h'; cases hu
  | x :: xs, cs, ⟨c, r, e, h1, h2⟩, u, hu => by
    subst e
    rcases List.mem_append.1 hu with hu | hu
    · exact R.one h1 u hu
    · exact h2.one u hu
theorem Cells.mono (hm : ∀ b, b < w.heap.size → Z b → Z' b ∧ w'.heap[b]? = w.heap[b]?) (hs : w.heap.size ≤ w'.heap.size) : ∀ {xs : List α} {cs : List Value}, Cells R Z w xs cs → Cells R Z' w' xs cs
  | [], cs, h => h
  | x :: xs, cs, ⟨c, r, e, h1, h2⟩ => ⟨c, r, e, R.mono hm hs h1, Cells.mono hm hs h2⟩
theorem Cells.append : ∀ {xs ys : List α} {cs ds : List Value}, Cells R Z w xs cs → Cells R Z w ys ds → Cells R Z w (xs ++ ys) (cs ++ ds)
  | [], ys, cs, ds, h, k => by have h' : cs = [] := h; subst h'; simpa using k
  | x :: xs, ys, cs, ds, ⟨c, r, e, h1, h2⟩, k => ⟨c, r ++ ds, by rw [e, List.append_assoc], h1, h2.append k⟩
theorem Cells.get : ∀ {xs : List α} {cs : List Value}, Cells R Z w xs cs → ∀ i x, xs[i]? = some x → ∃ c, R.ok Z w x c ∧ ∀ j u, c[j]? = some u → cs[i * R.sz + j]? = some u
  | [], cs, _, i, x, hi => by simp at hi
  | y :: xs, cs, ⟨c, r, e, h1, h2⟩, 0, x, hi => by
    simp at hi; subst hi; subst e
    refine ⟨c, h1, fun j u hj => ?_⟩
    rw [Nat.zero_mul, Nat.zero_add, List.getElem?_append_left (List.getElem?_eq_some_iff.1 hj).1]; exact hj
  | y :: xs, cs, ⟨c, r, e, h1, h2⟩, i + 1, x, hi => by
    obtain ⟨c', h3, h4⟩ := h2.get i x (by simpa using hi)
    subst e
    refine ⟨c', h3, fun j u hj => ?_⟩
    have hl := R.len h1
    rw [List.getElem?_append_right (by rw [hl, Nat.add_mul]; omega)]
    have : (i + 1) * R.sz + j - c.length = i * R.sz + j := by rw [hl, Nat.add_mul]; omega
    rw [this]; exact h4 j u hj
def OwR (R : Rp α) (Z : Nat → Prop) (w : World) (base : Nat) (e : TypeId) (v : Value) (xs : List α) : Prop :=
  ∃ cs, w.ownsRow base e R.sz v xs.length cs ∧ Cells R Z w xs cs ∧ ∀ b, v.ownBlock = some b → ¬ Z b
theorem OwR.nil (R : Rp α) (Z : Nat → Prop) (w : World) (base : Nat) (e : TypeId) : OwR R Z w base e (.slice none 0 0) [] := ⟨[], World.ownsRow_nil .., rfl, fun b h => by simp [Value.ownBlock] at h⟩
theorem OwR.fr (h : OwR R Z w base e v xs) {l : List Nat} (f : Fr l w w') (hl : ∀ b ∈ l, ¬ Z b) (hv : ∀ b, v.ownBlock = some b → b ∉ l) : OwR R Z w' base e v xs := by
  obtain ⟨cs, h1, h2, h3⟩ := h
  exact ⟨cs, own_fr h1 f hv, h2.mono (fun b hb hz => ⟨hz, f.block b hb fun hm => hl b hm hz⟩) f.size, h3⟩
theorem OwR.fr0 (h : OwR R Z w base e v xs) (f : Fr [] w w') : OwR R Z w' base e v xs := h.fr f (fun b hb => by cases hb) fun b _ hm => by cases hm
theorem OwR.zone (h : OwR R Z w base e v xs) (hz : ∀ b, b < w.heap.size → Z b → Z' b) (hv : ∀ b, v.ownBlock = some b → ¬ Z' b) : OwR R Z' w base e v xs := by
  obtain ⟨cs, h1, h2, h3⟩ := h
  exact ⟨cs, h1, h2.mono (fun b hb h => ⟨hz b hb h, rfl⟩) (Nat.le_refl _), hv⟩
theorem OwR.lt (h : OwR R Z w base e v xs) : ∀ b, v.ownBlock = some b → base ≤ b ∧ b < w.heap.size := by obtain ⟨cs, h1, _⟩ := h; exact h1.lt
theorem OwR.fr1 (h : OwR R Z w base e v xs) {b : Nat} (f : Fr [b] w w') (hl : ¬ Z b) (hb : b < base) : OwR R Z w' base e v xs :=
  h.fr f (fun i hi => by simp at hi; subst hi; exact hl) fun i hi hm => by have := (h.lt i hi).1; simp at hm; omega
theorem OwR.len_le (h : OwR R Z w base e v xs) : xs.length ≤ 9223372036854775807 := by
  obtain ⟨cs, h1, _⟩ := h
  rcases h1.2 with ⟨_, h⟩ | ⟨g, cap, cur, _, _, _, h4, h5, _⟩
  · omega
  · unfold maxLen at h5; omega
theorem OwR.cap {A : Option Addr} {n c : Nat} (h : OwR R Z w base e (.slice A n c) xs) : xs.length ≤ c := by
  obtain ⟨cs, h1, _⟩ := h
  rcases h1.2 with ⟨_, h⟩ | ⟨g, cap, cur, e, _, _, h3, h4, _⟩
  · omega
  · injection e with e1 e2 e3; omega
theorem OwR.slice (h : OwR R Z w base e v xs) : ∃ A c, v = .slice A xs.length c := by
  obtain ⟨cs, h1, _⟩ := h
  rcases h1.2 with ⟨rfl, h⟩ | ⟨g, cap, cur, rfl, _⟩
  · exact ⟨none, 0, by rw [h]⟩
  · exact ⟨_, cap, rfl⟩
/-- One's own may be read. -/
theorem OwR.read (h : OwR R Z w base e v xs) (hz : ∀ b, b < w.heap.size → Z b → Z' b) (hv : ∀ b, base ≤ b → b < w.heap.size → Z' b) : SlR R Z' w v xs := by
  have hlen := h.len_le
  obtain ⟨cs, h1, h2, h3⟩ := h
  rcases h1.2 with ⟨rfl, hn⟩ | ⟨g, cap, cur, rfl, hg, hh, hnc, _⟩
  · obtain rfl : xs = [] := List.eq_nil_of_length_eq_zero hn
    exact SlR.nil _ _ _
  · refine ⟨_, cap, rfl, hnc, hlen, fun i x hi => ?_⟩
    obtain ⟨c, hok, hc⟩ := h2.get i x hi
    refine ⟨g, 0, c, rfl, hv g hg (lt_of_block hh), lt_of_block hh, R.mono (fun b hb hZ => ⟨hz b hb hZ, rfl⟩) (Nat.le_refl _) hok, fun j u hj => ?_⟩
    have := h1.cells (g := g) rfl (i * R.sz + j) u (hc j u hj)
    rw [Base.add_plain] at this
    rw [Nat.zero_add]; exact this
section
variable {ro : Option Nat} {P : Program} {Q : Exit → Act → World → Prop} {a : Act} {ops : Array Oper} {rest : List Oper} {d : Option Tmp} {ty : TypeId} {pos : String} {aft : Array Edge} {g : Option (Nat × Bool)}
/-- append(v, y1 .. ym): the new ones' cells lie at an address. -/
theorem app {t : TypeId} {s x : Operand} {z : Value} {bytes : Nat} (hs : a.eval s = v) (ad : Addr) (m c : Nat) (hx : a.eval x = .slice (some ad) m c) (ht : P.underlying t = some (.slice e))
    (hinfo : (P.info? e).map (fun i => (i.zero, i.size, i.bytes)) = some (some z, R.sz, bytes)) (hzs : z.cells.size = R.sz) (hsz : 0 < R.sz) (hown : OwR R Z w base e v xs) {ys : List α} {news : List Value} (hm : ys.length = m) (hys : Cells R Z w ys news)
    (hnews : ∀ j u, news[j]? = some u → w.cell? (ad.add j) = some u) (hbytes : (xs.length + m) * bytes ≤ 140737488355328) (hb0 : 0 < bytes) (hbase : base ≤ w.heap.size)
    (k : ∀ A' c' w1, OwR R (fun b => Z b ∧ b < w.heap.size) w1 base e (.slice A' (xs.length + m) c') (xs ++ ys) → Fr (v.ownBlock.toList) w w1 → ((Value.slice A' (xs.length + m) c').ownBlock = v.ownBlock ∨ (Value.slice A' (xs.length + m) c').ownBlock = some w.heap.size) →
      L ro P ops Q rest (a.put d (.slice A' (xs.length + m) c')) w1) : St ro P ops Q rest ⟨d, .call ⟨.builtin .append, #[s, x], #[t, t]⟩, ty, pos, aft, g⟩ a w := by
  obtain ⟨cs, h1, h2, h3⟩ := hown
  obtain ⟨i, hi, hzz⟩ := Option.map_eq_some_iff.1 hinfo
  simp only [Prod.mk.injEq] at hzz
  obtain ⟨hz0, hz1, hz2⟩ := hzz
  have hle : xs.length + m ≤ 140737488355328 := Nat.le_trans (Nat.le_mul_of_pos_right _ hb0) hbytes
  obtain ⟨v', w1, hr, h4, h5, h6, h7⟩ := run_append_own_at (P := P) w base t ty e i z R.sz bytes ht hi hz0 hz1 hz2 hzs hsz v xs.length cs h1 ad m c news (by rw [hys.length, hm]) hnews hys.one (by unfold maxLen; omega) hbytes hbase
  have hf : Fr (v.ownBlock.toList) w w1 := Fr.of_grown h5 (fun b hb => by rw [hb]; simp)
  have hnot : ∀ b, Z b → b ∉ v.ownBlock.toList := fun b hz hm => by
    cases ho : v.ownBlock with
    | none => rw [ho] at hm; simp at hm
    | some q => rw [ho] at hm; simp at hm; subst hm; exact h3 b ho hz
  obtain ⟨A', c', rfl⟩ : ∃ A' c', v' = .slice A' (xs.length + m) c' := by
    rcases h4.2 with ⟨rfl, h⟩ | ⟨g, cap, cur, rfl, _⟩
    · exact ⟨none, 0, by rw [h]⟩
    · exact ⟨_, cap, rfl⟩
  have hrun : (execOp a.eval ⟨d, .call ⟨.builtin .append, #[s, x], #[t, t]⟩, ty, pos, aft, g⟩).run P w = .ok (.value (.slice A' (xs.length + m) c')) w1 := by
    simp only [execOp, resolve, invoke, builtin, Sem.run_bind, Sem.run_pure, Result.andThen_ok, List.map_toArray, List.map_cons, List.map_nil, hs, hx, hr]
  refine St.val hrun (k A' c' w1 ⟨cs ++ news, ?_, ?_, ?_⟩ hf h7)
  · rw [List.length_append, hm]; exact h4
  · refine (h2.append hys).mono (fun b hb hz => ⟨⟨hz, hb⟩, hf.block b hb (hnot b hz)⟩) hf.size
  · rintro b hb ⟨hz, hlt⟩
    rcases h7 with h7 | h7
    · rw [h7] at hb; exact h3 b hb hz
    · rw [h7] at hb; injection hb with hb; omega
end
end
def NoZ : Nat → Prop := fun _ => False
theorem own_notin {α : Type} {R : Rp α} {Z : Nat → Prop} {w : World} {base b : Nat} {e : TypeId} {v : Value} {xs : List α} (h : OwR R Z w base e v xs) (hb : b < base) : b ∉ v.ownBlock.toList := by
  intro hm
  cases ho : v.ownBlock with
  | none => rw [ho] at hm; simp at hm
  | some q => rw [ho] at hm; simp at hm; subst hm; have := (h.lt b ho).1; omega
theorem own_ge {α : Type} {R : Rp α} {Z : Nat → Prop} {w : World} {base B : Nat} {e : TypeId} {v : Value} {xs : List α} (h : OwR R Z w base e v xs) (hB : B ≤ base) : ∀ i ∈ v.ownBlock.toList, B ≤ i := by
  intro i hm
  cases ho : v.ownBlock with
  | none => rw [ho] at hm; simp at hm
  | some q => rw [ho] at hm; simp at hm; subst hm; have := (h.lt i ho).1; omega
/-- The blocks that one's own things may lead to: new ones, up to a bound, the own one not. -/
def Zi (base n : Nat) (v : Value) : Nat → Prop := fun b => base ≤ b ∧ b < n ∧ v.ownBlock ≠ some b
section
variable {α β : Type} {R : Rp α} {R' : Rp β} {Z : Nat → Prop} {w w0 w1 : World} {base n m : Nat} {e e' : TypeId} {v v' u : Value} {xs : List α} {ys : List β}
theorem OwR.raise (h : OwR R (Zi base n v) w base e v xs) (hn : n ≤ m) : OwR R (Zi base m v) w base e v xs :=
  h.zone (fun b _ hz => ⟨hz.1, by have := hz.2.1; omega, hz.2.2⟩) (fun b hb hz => hz.2.2 hb)
theorem OwR.zi (h : OwR R (fun b => Zi base n v b ∧ b < n) w1 base e v' xs) (hat : v'.ownBlock = v.ownBlock ∨ v'.ownBlock = some n) : OwR R (Zi base n v') w1 base e v' xs :=
  h.zone (fun b _ hz => ⟨hz.1.1, hz.2, fun e => by
    rcases hat with h1 | h1
    · exact hz.1.2.2 (h1 ▸ e)
    · rw [h1] at e; injection e with e; have := hz.2; omega⟩) (fun b hb hz => hz.2.2 hb)
theorem OwR.readi (h : OwR R (Zi base n v) w base e v xs) : SlR R (fun b => base ≤ b) w v xs := h.read (fun b _ hz => hz.1) (fun b hb _ => hb)
/-- What a call made anew lies outside of one's own row. -/
theorem SlR.zi (h : SlR R (fun b => n ≤ b) w v xs) (hO : OwR R' Z w0 base e u ys) (h0 : w0.heap.size ≤ n) (hb : base ≤ n) : SlR R (Zi base w.heap.size u) w v xs :=
  h.zone fun b hlt hz => ⟨by omega, hlt, fun e => by have := (hO.lt _ e).2; omega⟩
end
section
variable {α : Type} {R : Rp α} {Z Z0 : Nat → Prop} {w w' w0 : World} {base b : Nat} {e : TypeId} {v : Value} {xs ys : List α}
theorem OwR.frn (h : OwR R Z w base e v xs) (f : Fr [b] w w') (hl : ¬ Z b) (hb : v.ownBlock ≠ some b) : OwR R Z w' base e v xs :=
  h.fr f (fun i hi => by simp at hi; subst hi; exact hl) fun i hi hm => by simp at hm; subst hm; exact hb hi
theorem own_ne (h : OwR R Z w base e v xs) (hb : b < base) : v.ownBlock ≠ some b := fun e => by have := (h.lt _ e).1; omega
theorem own_ne2 (h : OwR R Z0 w0 base e v ys) (hb : w0.heap.size ≤ b) : v.ownBlock ≠ some b := fun e => by have := (h.lt _ e).2; omega
theorem own_notin2 (h : OwR R Z0 w0 base e v ys) (hb : w0.heap.size ≤ b) : b ∉ v.ownBlock.toList := fun hm => own_ne2 h hb (by
  cases ho : v.ownBlock with
  | none => rw [ho] at hm; simp at hm
  | some q => rw [ho] at hm; simp at hm; subst hm; rfl)
end
/-! ### An element that is read -/
structure Els (w : World) (g off : Nat) (cs : List Value) : Prop where
  lt : g < w.heap.size
  cell : ∀ j u, cs[j]? = some u → w.cell? ⟨g, off + j, none⟩ = some u
section
variable {α : Type} {R : Rp α} {Z : Nat → Prop} {w w' : World} {g off : Nat} {cs : List Value} {xs : List α} {A : Option Addr} {n c : Nat}
theorem Els.fr (h : Els w g off cs) {l : List Nat} (f : Fr l w w') (hl : g ∉ l) : Els w' g off cs :=
  ⟨Nat.lt_of_lt_of_le h.lt f.size, fun j u hj => (World.cell?_of_block (w := w) (f.block g h.lt hl)).trans (h.cell j u hj)⟩
theorem Els.fr0 (h : Els w g off cs) (f : Fr [] w w') : Els w' g off cs := h.fr f (by simp)
theorem Els.at (h : Els w g off cs) (j : Nat) {u : Value} (hj : cs[j]? = some u) : w.cell? ⟨g, off + j, none⟩ = some u := h.cell j u hj
theorem Els.cells (h : Els w g off cs) (o : Nat) (ds : List Value) (hd : (cs.drop o).take ds.length = ds) : ∀ j u, ds[j]? = some u → w.cell? ((⟨g, off + o, none⟩ : Addr).add j) = some u := by
  intro j u hj
  have ha : (⟨g, off + o, none⟩ : Addr).add j = ⟨g, off + o + j, none⟩ := by unfold Addr.add; split <;> simp_all
  rw [ha, Nat.add_assoc]
  refine h.cell (o + j) u ?_
  have hlt : j < ds.length := (List.getElem?_eq_some_iff.1 hj).1
  rw [← hd] at hj
  rw [List.getElem?_take_of_lt hlt, List.getElem?_drop] at hj
  exact hj
theorem SlR.addr (h : SlR R Z w (.slice A n c) xs) (hne : 0 < xs.length) : ∃ g o, A = some ⟨g, o, none⟩ ∧ g < w.heap.size ∧ Z g := by
  obtain ⟨A', c', e, _, _, h3⟩ := h
  injection e with e1 e2 e3
  subst e1
  obtain ⟨g, o, cs, hA, hZ, hg, _⟩ := h3 0 _ (List.getElem?_eq_getElem hne)
  exact ⟨g, o, hA, hg, hZ⟩
theorem SlR.els {g o : Nat} (h : SlR R Z w (.slice A n c) xs) (hA : A = some ⟨g, o, none⟩) (i : Int) (h0 : 0 ≤ i) (h1 : i < xs.length) : ∃ cs, R.ok Z w (at_ R xs i) cs ∧ Els w g (o + i.toNat * R.sz) cs := by
  obtain ⟨A', c', e, _, _, h3⟩ := h
  injection e with e1 e2 e3
  subst e1
  obtain ⟨g', o', cs, hA', hZ, hg, hok, hc⟩ := h3 i.toNat _ (at_some R h0 h1)
  rw [hA] at hA'
  injection hA' with hA'
  injection hA' with e4 e5
  subst e4; subst e5
  exact ⟨cs, hok, hg, hc⟩
end
end Go.V
end
