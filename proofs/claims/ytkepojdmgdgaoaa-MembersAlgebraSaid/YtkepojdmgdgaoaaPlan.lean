/- A region that draws its order, walked in ONE order: all that reads or computes as early as it can, what writes in its turn. -/
import Derived.OrdersIn
import Derived.TacticsIn
import Derived.WalkKit
namespace Go.Plan
set_option linter.unusedVariables false
set_option linter.unusedSimpArgs false

/-! ### 1. What leaves the world alone and asks nothing of it -/
def SQ {α : Type} (s : Sem α) : Prop := ∀ (P : Program) (w w1 : World) (a : α), s.run P w = .ok a w1 → w1 = w ∧ ∀ w', s.run P w' = .ok a w'
def SR {α : Type} (s : Sem α) : Prop := ∀ (P : Program) (w w1 : World) (a : α), s.run P w = .ok a w1 → w1 = w
def NOk {α : Type} (s : Sem α) : Prop := ∀ (P : Program) (w w1 : World) (a : α), s.run P w ≠ .ok a w1

theorem SQ.sr {α : Type} {s : Sem α} (h : SQ s) : SR s := fun P w w1 a e => (h P w w1 a e).1
theorem SQ.pure {α : Type} (a : α) : SQ (Pure.pure a : Sem α) := fun P w w1 b h => by
  simp at h; obtain ⟨rfl, rfl⟩ := h; exact ⟨rfl, fun _ => by simp⟩
theorem SQ.pure' {α : Type} (a : α) : SQ (Sem.pure a : Sem α) := SQ.pure a
theorem NOk.sq {α : Type} {s : Sem α} (h : NOk s) : SQ s := fun P w w1 a e => absurd e (h P w w1 a)
theorem NOk.sr {α : Type} {s : Sem α} (h : NOk s) : SR s := fun P w w1 a e => absurd e (h P w w1 a)
theorem NOk.halt {α : Type} (h : Halt) : NOk (Sem.halt h : Sem α) := fun P w w1 a e => by simp [Sem.run] at e
theorem bind_ok {α β : Type} {s : Sem α} {f : α → Sem β} {P : Program} {w w1 : World} {b : β} (e : (s >>= f).run P w = .ok b w1) : ∃ a w2, s.run P w = .ok a w2 ∧ (f a).run P w2 = .ok b w1 := by
  rw [Sem.run_bind] at e
  cases h : s.run P w with
  | ok a w2 => rw [h] at e; exact ⟨a, w2, rfl, e⟩
  | halt x w2 => rw [h] at e; simp at e
theorem SQ.bind {α β : Type} {s : Sem α} {f : α → Sem β} (h : SQ s) (k : ∀ a, SQ (f a)) : SQ (s >>= f) := fun P w w1 b e => by
  obtain ⟨a, w2, e1, e2⟩ := bind_ok e
  obtain ⟨rfl, h1⟩ := h P w w2 a e1
  obtain ⟨rfl, h2⟩ := k a P _ w1 b e2
  exact ⟨rfl, fun w' => by rw [Sem.run_bind, h1 w']; exact h2 w'⟩
theorem SR.bind {α β : Type} {s : Sem α} {f : α → Sem β} (h : SR s) (k : ∀ a, SR (f a)) : SR (s >>= f) := fun P w w1 b e => by
  obtain ⟨a, w2, e1, e2⟩ := bind_ok e
  obtain rfl := h P w w2 a e1
  exact k a P _ w1 b e2
theorem NOk.bind {α β : Type} {s : Sem α} {f : α → Sem β} (k : ∀ a, NOk (f a)) : NOk (s >>= f) := fun P w w1 b e => by
  obtain ⟨a, w2, _, e2⟩ := bind_ok e
  exact k a P _ w1 b e2
theorem NOk.bind_left {α β : Type} {s : Sem α} {f : α → Sem β} (k : NOk s) : NOk (s >>= f) := fun P w w1 b e => by
  obtain ⟨a, w2, e1, _⟩ := bind_ok e
  exact k P _ _ a e1
theorem SQ.map {α β : Type} {s : Sem α} (g : α → β) (h : SQ s) : SQ (g <$> s) := by
  have : (g <$> s) = (s >>= fun a => Pure.pure (g a)) := by rfl
  rw [this]; exact h.bind fun _ => SQ.pure _
theorem SQ.ite {α : Type} {c : Prop} [Decidable c] {s t : Sem α} (h : SQ s) (k : SQ t) : SQ (if c then s else t) := by split <;> assumption
theorem SQ.program {α : Type} {f : Program → Sem α} (k : ∀ p, SQ (f p)) : SQ (program >>= f) := fun P w w1 b e => by
  have e' : (f P).run P w = .ok b w1 := by rw [Sem.run_bind] at e; simpa [program, Sem.run] using e
  obtain ⟨h1, h2⟩ := k P P w w1 b e'
  exact ⟨h1, fun w' => by rw [Sem.run_bind]; simpa [program, Sem.run] using h2 w'⟩
theorem sq_program : SQ program := fun P w w1 b e => by
  simp [program, Sem.run] at e; obtain ⟨rfl, rfl⟩ := e; exact ⟨rfl, fun _ => by simp [program, Sem.run]⟩
theorem nok_stuck {α : Type} (s : String) : NOk (stuck s : Sem α) := NOk.halt _
theorem nok_unsupported {α : Type} (u : Unsupported) : NOk (unsupported u : Sem α) := NOk.halt _
theorem nok_goPanic {α : Type} (v : Value) : NOk (goPanic v : Sem α) := NOk.halt _
theorem nok_runtimePanic {α : Type} (e : RuntimeError) : NOk (runtimePanic e : Sem α) := by
  unfold runtimePanic
  refine NOk.bind fun p => ?_
  cases e with
  | typeAssertion i c a m => exact NOk.bind fun _ => NOk.bind fun _ => nok_goPanic _
  | panicNil => exact NOk.bind fun _ => NOk.bind fun _ => nok_goPanic _
  | _ => exact nok_goPanic _
theorem nok_boundsPanic {α : Type} (k : IntKind) (x y : Int) (c : BoundsCode) : NOk (boundsPanic k x y c : Sem α) := by
  unfold boundsPanic
  split
  · exact NOk.bind fun _ => nok_runtimePanic _
  · exact NOk.bind fun _ => nok_runtimePanic _
theorem sq_typeInfo (t : TypeId) : SQ (typeInfo t) := by
  unfold typeInfo
  refine SQ.program fun p => ?_
  split
  · exact SQ.pure _
  · exact (nok_stuck _).sq
theorem sq_underlying (t : TypeId) : SQ (underlying t) := by
  unfold underlying
  refine SQ.program fun p => ?_
  split
  · exact SQ.pure _
  · exact (nok_stuck _).sq
theorem sq_zeroValue (t : TypeId) : SQ (zeroValue t) := by
  unfold zeroValue
  refine (sq_typeInfo t).bind fun i => ?_
  split
  · exact SQ.pure _
  · exact (nok_unsupported _).sq
theorem sq_sizeOf (t : TypeId) : SQ (sizeOf t) := (sq_typeInfo t).bind fun _ => SQ.pure _
theorem sq_isAgg (t : TypeId) : SQ (isAgg t) := by
  unfold isAgg
  refine (sq_underlying t).bind fun d => ?_
  split <;> exact SQ.pure _
theorem sq_part (t : TypeId) (cs : Array Value) (o : Nat) : SQ (part t cs o) := by
  unfold part
  refine (sq_isAgg t).bind fun b => ?_
  split
  · exact (sq_sizeOf t).bind fun _ => SQ.pure _
  · split
    · exact SQ.pure _
    · exact (nok_stuck _).sq
theorem sq_asBool (v : Value) : SQ (asBool v) := by unfold asBool; split <;> first | exact SQ.pure _ | exact (nok_stuck _).sq
theorem sq_asAgg (v : Value) : SQ (asAgg v) := by unfold asAgg; split <;> first | exact SQ.pure _ | exact (nok_stuck _).sq
theorem sq_asIntOf (v : Value) : SQ (asIntOf v) := by unfold asIntOf; split <;> first | exact SQ.pure _ | exact (nok_stuck _).sq | exact (nok_unsupported _).sq
theorem sq_sureAddr (v : Value) : SQ (Instr.sureAddr v) := by unfold Instr.sureAddr; split <;> first | exact SQ.pure _ | exact (nok_stuck _).sq
theorem sq_asAddr (v : Value) : SQ (asAddr v) := by unfold asAddr; split <;> first | exact SQ.pure _ | exact (nok_stuck _).sq | exact (nok_runtimePanic _).sq
theorem sq_listMapM {α β : Type} (f : α → Sem β) (h : ∀ a, SQ (f a)) : ∀ l : List α, SQ (l.mapM f)
  | [] => by simp only [List.mapM_nil]; exact SQ.pure _
  | a :: l => by
    simp only [List.mapM_cons]
    exact (h a).bind fun _ => (sq_listMapM f h l).bind fun _ => SQ.pure _
theorem sq_arrayMapM {α β : Type} (f : α → Sem β) (h : ∀ a, SQ (f a)) (l : Array α) : SQ (l.mapM f) := by
  rw [Array.mapM_eq_mapM_toList]
  exact SQ.map _ (sq_listMapM f h l.toList)
theorem sq_foldlM {α β : Type} (f : β → α → Sem β) (h : ∀ b a, SQ (f b a)) : ∀ (l : List α) (b : β), SQ (l.foldlM f b)
  | [], b => by simp only [List.foldlM_nil]; exact SQ.pure _
  | a :: l, b => by simp only [List.foldlM_cons]; exact (h b a).bind fun _ => sq_foldlM f h l _

theorem sq_build (t : TypeId) (ps : Array (Nat × Value)) : SQ (Instr.build t ps) := by
  unfold Instr.build
  refine (sq_zeroValue t).bind fun z => ?_
  refine (sq_underlying t).bind fun d => ?_
  split
  · refine (sq_arrayMapM _ (fun f => (sq_sizeOf _).bind fun _ => SQ.pure _) _).bind fun places => ?_
    split
    · exact SQ.pure _
    · exact (nok_stuck _).sq
  · refine (sq_sizeOf _).bind fun size => ?_
    split
    · exact SQ.pure _
    · exact (nok_stuck _).sq
  · exact (nok_stuck _).sq
theorem sq_extract (v : Value) (i : Nat) : SQ (Instr.extract v i) := by
  unfold Instr.extract
  split
  · split
    · exact SQ.pure _
    · exact (nok_stuck _).sq
  · exact (nok_stuck _).sq
theorem sq_field (t : TypeId) (x : Value) (f : Nat) : SQ (Instr.field t x f) := by
  unfold Instr.field
  refine (sq_underlying t).bind fun d => ?_
  split
  · split
    · exact (sq_asAgg x).bind fun _ => sq_part _ _ _
    · exact (nok_stuck _).sq
  · exact (nok_stuck _).sq
theorem sq_index (t : TypeId) (x i : Value) : SQ (Instr.index t x i) := by
  unfold Instr.index
  repeat' first
    | (with_reducible exact SQ.pure _)
    | (with_reducible exact (nok_stuck _).sq)
    | (with_reducible exact (nok_unsupported _).sq)
    | (with_reducible exact (nok_boundsPanic _ _ _ _).sq)
    | (with_reducible exact (nok_runtimePanic _).sq)
    | (with_reducible exact sq_underlying _)
    | (with_reducible exact sq_sizeOf _)
    | (with_reducible exact sq_sureAddr _)
    | (with_reducible exact sq_asIntOf _)
    | (with_reducible exact sq_asAddr _)
    | (with_reducible exact sq_part _ _ _)
    | (with_reducible refine SQ.bind ?_ (fun _ => ?_))
    | split
    | dsimp only
theorem sq_indexAt (t : TypeId) (x i : Value) : SQ (Instr.indexAt t x i) := by
  unfold Instr.indexAt
  repeat' first
    | (with_reducible exact SQ.pure _)
    | (with_reducible exact (nok_stuck _).sq)
    | (with_reducible exact (nok_unsupported _).sq)
    | (with_reducible exact (nok_boundsPanic _ _ _ _).sq)
    | (with_reducible exact (nok_runtimePanic _).sq)
    | (with_reducible exact sq_underlying _)
    | (with_reducible exact sq_sizeOf _)
    | (with_reducible exact sq_sureAddr _)
    | (with_reducible exact sq_asIntOf _)
    | (with_reducible exact sq_asAddr _)
    | (with_reducible exact sq_part _ _ _)
    | (with_reducible refine SQ.bind ?_ (fun _ => ?_))
    | split
    | dsimp only
theorem sq_sliceBound (x : Value) (y : Nat) (c : BoundsCode) : SQ (Instr.sliceBound x y c) := by
  unfold Instr.sliceBound
  repeat' first
    | (with_reducible exact SQ.pure _)
    | (with_reducible exact (nok_stuck _).sq)
    | (with_reducible exact (nok_unsupported _).sq)
    | (with_reducible exact (nok_boundsPanic _ _ _ _).sq)
    | (with_reducible exact (nok_runtimePanic _).sq)
    | (with_reducible exact sq_underlying _)
    | (with_reducible exact sq_sizeOf _)
    | (with_reducible exact sq_sureAddr _)
    | (with_reducible exact sq_asIntOf _)
    | (with_reducible exact sq_asAddr _)
    | (with_reducible exact sq_part _ _ _)
    | (with_reducible refine SQ.bind ?_ (fun _ => ?_))
    | split
    | dsimp only
theorem sq_sliceBounds (b : Bool) (n c : Nat) (l h m : Option Value) : SQ (Instr.sliceBounds b n c l h m) := by
  unfold Instr.sliceBounds
  repeat' first
    | (with_reducible exact SQ.pure _)
    | (with_reducible exact (nok_stuck _).sq)
    | (with_reducible exact (nok_unsupported _).sq)
    | (with_reducible exact (nok_boundsPanic _ _ _ _).sq)
    | (with_reducible exact (nok_runtimePanic _).sq)
    | (with_reducible exact sq_underlying _)
    | (with_reducible exact sq_sizeOf _)
    | (with_reducible exact sq_sureAddr _)
    | (with_reducible exact sq_asIntOf _)
    | (with_reducible exact sq_asAddr _)
    | (with_reducible exact sq_part _ _ _)
    | (with_reducible exact sq_sliceBound _ _ _)
    | (with_reducible refine SQ.bind ?_ (fun _ => ?_))
    | split
    | dsimp only
theorem sq_slice (t : TypeId) (x : Value) (l h m : Option Value) : SQ (Instr.slice t x l h m) := by
  unfold Instr.slice
  repeat' first
    | (with_reducible exact SQ.pure _)
    | (with_reducible exact (nok_stuck _).sq)
    | (with_reducible exact (nok_unsupported _).sq)
    | (with_reducible exact (nok_boundsPanic _ _ _ _).sq)
    | (with_reducible exact (nok_runtimePanic _).sq)
    | (with_reducible exact sq_underlying _)
    | (with_reducible exact sq_sizeOf _)
    | (with_reducible exact sq_sureAddr _)
    | (with_reducible exact sq_asIntOf _)
    | (with_reducible exact sq_asAddr _)
    | (with_reducible exact sq_part _ _ _)
    | (with_reducible exact sq_sliceBounds _ _ _ _ _ _)
    | (with_reducible refine SQ.bind ?_ (fun _ => ?_))
    | split
    | dsimp only
theorem sq_sliceAt (t : TypeId) (x : Value) (l h m : Option Value) : SQ (Instr.sliceAt t x l h m) := by
  unfold Instr.sliceAt
  repeat' first
    | (with_reducible exact SQ.pure _)
    | (with_reducible exact (nok_stuck _).sq)
    | (with_reducible exact (nok_unsupported _).sq)
    | (with_reducible exact (nok_boundsPanic _ _ _ _).sq)
    | (with_reducible exact (nok_runtimePanic _).sq)
    | (with_reducible exact sq_underlying _)
    | (with_reducible exact sq_sizeOf _)
    | (with_reducible exact sq_sureAddr _)
    | (with_reducible exact sq_asIntOf _)
    | (with_reducible exact sq_asAddr _)
    | (with_reducible exact sq_part _ _ _)
    | (with_reducible exact sq_sliceBounds _ _ _ _ _ _)
    | (with_reducible exact sq_slice _ _ _ _ _)
    | (with_reducible refine SQ.bind ?_ (fun _ => ?_))
    | split
    | dsimp only
theorem sq_intArith (op : BinOp) (k : IntKind) (x y : Int) : SQ (Op.intArith op k x y) := by
  unfold Op.intArith; split <;> first | exact SQ.pure _ | exact (nok_stuck _).sq
theorem sq_intDiv (op : BinOp) (k : IntKind) (x y : Int) : SQ (Op.intDiv op k x y) := by
  unfold Op.intDiv
  split
  · exact (nok_runtimePanic _).sq
  · split <;> first | exact SQ.pure _ | exact (nok_stuck _).sq
theorem sq_intBits (op : BinOp) (k : IntKind) (x y : Int) : SQ (Op.intBits op k x y) := by
  unfold Op.intBits; dsimp only; split <;> first | exact SQ.pure _ | exact (nok_stuck _).sq
theorem sq_shift (op : BinOp) (k : IntKind) (x : Int) (yk : IntKind) (y : Int) : SQ (Op.shift op k x yk y) := by
  unfold Op.shift
  split
  · exact (nok_runtimePanic _).sq
  · dsimp only; split <;> first | exact SQ.pure _ | exact (nok_stuck _).sq
theorem sq_intCmp (op : BinOp) (x y : Int) : SQ (Op.intCmp op x y) := by
  unfold Op.intCmp; split <;> first | exact SQ.pure _ | exact (nok_stuck _).sq
theorem sq_stringOp (op : BinOp) (x y : ByteArray) : SQ (Op.stringOp op x y) := by
  unfold Op.stringOp; dsimp only
  split
  · split
    · exact (nok_unsupported _).sq
    · exact SQ.pure _
  all_goals first | exact SQ.pure _ | exact (nok_stuck _).sq
theorem sq_unary (op : UnOp) (x : Value) : SQ (Op.unary op x) := by
  unfold Op.unary
  split <;> first | exact sq_intArith _ _ _ _ | exact sq_intBits _ _ _ _ | exact SQ.pure _ | exact (nok_unsupported _).sq | exact (nok_stuck _).sq
theorem sq_makeInterface (t : TypeId) (x : Value) : SQ (Instr.makeInterface t x) := by
  unfold Instr.makeInterface
  refine (sq_underlying t).bind fun d => ?_
  split <;> first | exact SQ.pure _ | exact (nok_stuck _).sq
theorem sq_makeFunc (f : Fn) (a b : Array Value) : SQ (Instr.makeFunc f a b) := SQ.pure _

def basic : Value → Bool
  | .int .. => true
  | .string _ => true
  | .bool _ => true
  | _ => false
theorem basic_cases {v : Value} (h : basic v = true) : (∃ k n, v = .int k n) ∨ (∃ s, v = .string s) ∨ ∃ b, v = .bool b := by
  cases v <;> simp [basic] at h
  · exact .inr (.inr ⟨_, rfl⟩)
  · exact .inl ⟨_, _, rfl⟩
  · exact .inr (.inl ⟨_, rfl⟩)
theorem sq_equal_basic (t : TypeId) (x y : Value) (hx : basic x = true) (hy : basic y = true) : SQ (Op.equal t x y) := by
  unfold Op.equal Op.maxDepth
  rcases basic_cases hx with ⟨k, n, rfl⟩ | ⟨s, rfl⟩ | ⟨b, rfl⟩ <;> rcases basic_cases hy with ⟨k', n', rfl⟩ | ⟨s', rfl⟩ | ⟨b', rfl⟩ <;>
  · unfold Op.equalIn
    refine (sq_underlying t).bind fun d => ?_
    cases d <;> first | exact SQ.pure _ | exact (nok_stuck _).sq | (dsimp only; split <;> first | exact SQ.pure _ | exact (nok_stuck _).sq)
theorem sq_binOp_basic (op : BinOp) (t : TypeId) (x y : Value) (hx : basic x = true) (hy : basic y = true) : SQ (binOp op t x y) := by
  have heq := sq_equal_basic t x y hx hy
  rcases basic_cases hx with ⟨k, n, rfl⟩ | ⟨s, rfl⟩ | ⟨b, rfl⟩ <;> rcases basic_cases hy with ⟨k', n', rfl⟩ | ⟨s', rfl⟩ | ⟨b', rfl⟩ <;> cases op <;> unfold binOp <;> dsimp only <;>
  first
  | exact sq_shift _ _ _ _ _
  | exact sq_stringOp _ _ _
  | exact heq.bind fun _ => SQ.pure _
  | exact (nok_stuck _).sq
  | exact (nok_unsupported _).sq
  | (split <;> first | exact (nok_stuck _).sq | exact sq_intArith _ _ _ _ | exact sq_intDiv _ _ _ _ | exact sq_intBits _ _ _ _ | exact sq_intCmp _ _ _)

theorem sq_convert_int (src dst : TypeId) (k : IntKind) (n : Int) (P : Program) (kd : IntKind) (h : P.underlying dst = some (.int kd)) (w w1 : World) (v : Value)
    (e : (convert src dst (.int k n)).run P w = .ok v w1) : w1 = w ∧ ∀ w', (convert src dst (.int k n)).run P w' = .ok v w' := by
  cases hs : P.underlying src with
  | none => simp [convert, Sem.run_bind, underlying, program, Sem.run, hs, stuck] at e
  | some d =>
    have run : ∀ w', (convert src dst (.int k n)).run P w' = .ok (.int kd (kd.wrap n)) w' := fun w' => by
      simp [convert, Sem.run_bind, underlying, program, Sem.run, hs, h, Conv.intToInt]
    rw [run w] at e
    injection e with e1 e2
    subst e1; subst e2
    exact ⟨rfl, run⟩
theorem sq_convert_string (src dst : TypeId) (s : ByteArray) (P : Program) (h : P.underlying dst = some .string) (w w1 : World) (v : Value)
    (e : (convert src dst (.string s)).run P w = .ok v w1) : w1 = w ∧ ∀ w', (convert src dst (.string s)).run P w' = .ok v w' := by
  cases hs : P.underlying src with
  | none => simp [convert, Sem.run_bind, underlying, program, Sem.run, hs, stuck] at e
  | some d =>
    have run : ∀ w', (convert src dst (.string s)).run P w' = .ok (.string s) w' := fun w' => by
      cases d <;> simp [convert, Sem.run_bind, underlying, program, Sem.run, hs, h]
    rw [run w] at e
    injection e with e1 e2
    subst e1; subst e2
    exact ⟨rfl, run⟩
theorem sq_eqGuard (op : BinOp) (t : TypeId) (x y : Operand) (a b : Value) (ha : basic a = true) : SQ (eqGuard op t x y a b) := by
  unfold eqGuard
  refine SQ.ite ?_ ?_
  · exact SQ.pure _
  · rcases basic_cases ha with ⟨k, n, rfl⟩ | ⟨s, rfl⟩ | ⟨b', rfl⟩ <;> (dsimp only; exact SQ.pure _)
/-- a slice held against nil -/
def sliceNil : Value → Value → Bool
  | .slice none _ _, .slice _ _ _ => true
  | .slice _ _ _, .slice none _ _ => true
  | _, _ => false

/-! ### 2. Operations that only compute, or only read -/
def segSem (ρ : Operand → Value) (o : Oper) : Option (Sem Value) := match o.op with
  | .move x | .assign x => some (pure (ρ x))
  | .pick c a b => some (do pure (if ← asBool (ρ c) then ρ a else ρ b))
  | .build t parts => some (Instr.build t (parts.map fun (i, x) => (i, ρ x)))
  | .load t a => some (Instr.loadAt t (ρ a))
  | .nilCheck x => match ρ x with
    | .pointer (some _) => some (pure (ρ x))
    | .func (.func _) _ _ => some (pure (ρ x))
    | _ => none
  | .binOp op t x y _ => some (do eqGuard op t x y (ρ x) (ρ y); binOp op t (ρ x) (ρ y))
  | .unOp op _ x => some (Op.unary op (ρ x))
  | .convert src dst x => some (convert src dst (ρ x))
  | .makeInterface t x => some (Instr.makeInterface t (ρ x))
  | .makeFunc fn first captured => some (Instr.makeFunc fn (first.map ρ) (captured.map ρ))
  | .slice t x lo hi mx => some (Instr.sliceAt t (ρ x) (lo.map ρ) (hi.map ρ) (mx.map ρ))
  | .fieldAddr s x f => some (Instr.fieldAt s (ρ x) f)
  | .field t x f => some (Instr.field t (ρ x) f)
  | .indexAddr t x ix => some (Instr.indexAt t (ρ x) (ρ ix))
  | .index t x ix => some (Instr.index t (ρ x) (ρ ix))
  | .extract t ix => some (Instr.extract (ρ t) ix)
  | .call { callee := .builtin .len, args, argTypes } => some (Builtin.len_ argTypes o.type (args.map ρ))
  | .call { callee := .builtin .cap, args, argTypes } => some (Builtin.cap_ argTypes o.type (args.map ρ))
  | .call { callee := .builtin .min, args, argTypes } => some (Builtin.min_ argTypes o.type (args.map ρ))
  | .call { callee := .builtin .max, args, argTypes } => some (Builtin.max_ argTypes o.type (args.map ρ))
  | _ => none
theorem execOp_seg {ρ : Operand → Value} {o : Oper} {s : Sem Value} (h : segSem ρ o = some s) : execOp ρ o = (do pure (Next.value (← s))) := by
  obtain ⟨dst, op, type, pos, after, guard⟩ := o
  unfold segSem at h
  dsimp only at h
  split at h <;> first
    | (injection h with h; subst h; rfl)
    | (injection h with h; subst h; rename_i c _ _; simp only [execOp]; cases ρ c <;> rfl)
    | (split at h <;> first
        | (injection h with h; subst h; rename_i hx; simp only [execOp, hx]; rfl)
        | (cases h))
    | (cases h)
/-- The one whose value may hang on the world. -/
def isL (o : Oper) : Bool := match o.op with
  | .load .. => true
  | _ => false
def sized (P : Program) (s : TypeId) (f : Nat) : Bool := match P.underlying s with
  | some (.struct fs) => match fs[f]? with
    | some fl => match P.info? fl.type with
      | some i => i.size != 0
      | none => false
    | none => false
  | _ => false
def lenArg : Value → Bool
  | .string _ => true
  | .slice .. => true
  | _ => false
def capArg : Value → Bool
  | .slice .. => true
  | _ => false
/-- The others: what they are handed lets them ask nothing of the world. -/
def okP (P : Program) (ρ : Operand → Value) (o : Oper) : Bool := match o.op with
  | .move _ | .assign _ | .pick .. | .build .. | .unOp .. | .makeInterface .. | .makeFunc .. | .slice .. | .field .. | .indexAddr .. | .index .. | .extract .. => true
  | .nilCheck x => match ρ x with
    | .pointer (some _) => true
    | .func (.func _) _ _ => true
    | _ => false
  | .fieldAddr s _ f => sized P s f
  | .binOp _ _ x y _ => basic (ρ x) && basic (ρ y)
  | .convert _ dst x => match ρ x, P.underlying dst with
    | .int .., some (.int _) => true
    | .string _, some .string => true
    | _, _ => false
  | .call { callee := .builtin .len, args, argTypes } => args.all fun x => lenArg (ρ x)
  | .call { callee := .builtin .cap, args, argTypes } => args.all fun x => capArg (ρ x)
  | .call { callee := .builtin .min, args, argTypes } => args.all fun x => basic (ρ x)
  | .call { callee := .builtin .max, args, argTypes } => args.all fun x => basic (ρ x)
  | _ => false
/-- What okP looks at. -/
def asks (o : Oper) : List Tmp := match o.op with
  | .nilCheck x => [x].filterMap fun | .tmp t => some t | _ => none
  | .binOp _ _ x y _ => [x, y].filterMap fun | .tmp t => some t | _ => none
  | .convert _ _ x => [x].filterMap fun | .tmp t => some t | _ => none
  | .call c => c.args.toList.filterMap fun | .tmp t => some t | _ => none
  | _ => []
section
variable {P : Program}
def SQP (P : Program) (s : Sem Value) : Prop := ∀ (w w1 : World) (a : Value), s.run P w = .ok a w1 → w1 = w ∧ ∀ w', s.run P w' = .ok a w'
theorem SQ.at {s : Sem Value} (h : SQ s) : SQP P s := h P
theorem sq_fieldAt {s : TypeId} {x : Value} {f : Nat} (h : sized P s f = true) : SQP P (Instr.fieldAt s x f) := by
  unfold sized at h
  split at h
  · rename_i fs hs
    split at h
    · rename_i fl hf
      split at h
      · rename_i i hi
        have hne : i.size ≠ 0 := by simpa using h
        intro w w1 a e
        have run : ∀ w', (Instr.fieldAt s x f).run P w' = (match x with | .pointer (some ad) => .ok (.pointer (some (ad.add fl.offset))) w' | _ => .halt (.stuck "an address expected (no nilCheck in front?)") w') := by
          intro w'
          unfold Instr.fieldAt Instr.sureAddr fieldPlace
          simp only [Sem.run_bind, underlying, program, Sem.run, hs, sizeOf, typeInfo, hi, Sem.run_pure, Result.andThen_ok, hf]
          cases x with
          | pointer r => cases r <;> simp [hi, stuck, Sem.run, hne]
          | _ => simp [stuck, Sem.run]
        rw [run w] at e
        cases x with
        | pointer r => cases r with
          | none => simp at e
          | some ad =>
            simp only [Result.ok.injEq] at e
            obtain ⟨e1, e2⟩ := e
            subst e1; subst e2
            exact ⟨rfl, fun w' => run w'⟩
        | _ => simp at e
      · cases h
    · cases h
  · cases h
theorem sq_len (ts : Array TypeId) (t : TypeId) (args : Array Value) (h : ∀ v, args[0]? = some v → lenArg v = true) : SQ (Builtin.len_ ts t args) := by
  unfold Builtin.len_
  split
  · rename_i h1 h2
    have h3 := h h1 (by simpa using (Prod.ext_iff.1 h2).2)
    clear h h2
    refine (sq_underlying _).bind fun d => ?_
    split <;> first | exact SQ.pure _ | exact (nok_stuck _).sq | (simp [lenArg, capArg] at h3; done) | (refine (sq_underlying _).bind fun d => ?_; split <;> first | exact SQ.pure _ | exact (nok_stuck _).sq)
  · exact (nok_stuck _).sq
theorem sq_cap (ts : Array TypeId) (t : TypeId) (args : Array Value) (h : ∀ v, args[0]? = some v → capArg v = true) : SQ (Builtin.cap_ ts t args) := by
  unfold Builtin.cap_
  split
  · rename_i h1 h2
    have h3 := h h1 (by simpa using (Prod.ext_iff.1 h2).2)
    clear h h2
    refine (sq_underlying _).bind fun d => ?_
    split <;> first | exact SQ.pure _ | exact (nok_stuck _).sq | (simp [lenArg, capArg] at h3; done) | (refine (sq_underlying _).bind fun d => ?_; split <;> first | exact SQ.pure _ | exact (nok_stuck _).sq)
  · exact (nok_stuck _).sq
theorem sq_asBoolOf (s : Sem Value) (h : SQ s) : SQ (s >>= asBool) := h.bind fun _ => sq_asBool _
theorem sq_min2 (x y : Value) (hx : basic x = true) (hy : basic y = true) : SQ (Builtin.min2 x y) := by
  rcases basic_cases hx with ⟨k, n, rfl⟩ | ⟨s, rfl⟩ | ⟨b, rfl⟩ <;> rcases basic_cases hy with ⟨k', n', rfl⟩ | ⟨s', rfl⟩ | ⟨b', rfl⟩ <;> unfold Builtin.min2 <;>
    first | exact SQ.pure _ | exact (nok_stuck _).sq | exact (sq_stringOp _ _ _).bind fun _ => (sq_asBool _).bind fun _ => SQ.pure _
theorem sq_max2 (x y : Value) (hx : basic x = true) (hy : basic y = true) : SQ (Builtin.max2 x y) := by
  rcases basic_cases hx with ⟨k, n, rfl⟩ | ⟨s, rfl⟩ | ⟨b, rfl⟩ <;> rcases basic_cases hy with ⟨k', n', rfl⟩ | ⟨s', rfl⟩ | ⟨b', rfl⟩ <;> unfold Builtin.max2 <;>
    first | exact SQ.pure _ | exact (nok_stuck _).sq | exact (sq_stringOp _ _ _).bind fun _ => (sq_asBool _).bind fun _ => SQ.pure _
theorem sq_foldl (f : Value → Value → Sem Value) (hf : ∀ x y, basic x = true → basic y = true → SQ (f x y)) (hb : ∀ P w w1 x y z, basic x = true → basic y = true → (f x y).run P w = .ok z w1 → basic z = true) :
    ∀ (l : List Value) (x : Value), basic x = true → (∀ y ∈ l, basic y = true) → SQ (l.foldlM f x)
  | [], x, _, _ => by simp only [List.foldlM_nil]; exact SQ.pure _
  | y :: l, x, hx, h => by
    simp only [List.foldlM_cons]
    intro P w w1 a e
    obtain ⟨z, w2, e1, e2⟩ := bind_ok e
    have hy := h y (List.mem_cons_self ..)
    obtain ⟨rfl, h1⟩ := hf x y hx hy P w w2 z e1
    obtain ⟨rfl, h2⟩ := sq_foldl f hf hb l z (hb P _ _ x y z hx hy e1) (fun q hq => h q (List.mem_cons_of_mem _ hq)) P _ w1 a e2
    exact ⟨rfl, fun w' => by rw [Sem.run_bind, h1 w']; exact h2 w'⟩
theorem min2_basic (P : Program) (w w1 : World) (x y z : Value) (hx : basic x = true) (hy : basic y = true) (e : (Builtin.min2 x y).run P w = .ok z w1) : basic z = true := by
  rcases basic_cases hx with ⟨k, n, rfl⟩ | ⟨s, rfl⟩ | ⟨b, rfl⟩ <;> rcases basic_cases hy with ⟨k', n', rfl⟩ | ⟨s', rfl⟩ | ⟨b', rfl⟩ <;> unfold Builtin.min2 at e
  case inl.inl => simp at e; rw [← e.1]; rfl
  case inr.inl.inr.inl =>
    obtain ⟨a, w2, _, e2⟩ := bind_ok e
    obtain ⟨b, w3, _, e3⟩ := bind_ok e2
    simp at e3; rw [← e3.1]; rfl
  all_goals simp [stuck, Sem.run] at e
theorem max2_basic (P : Program) (w w1 : World) (x y z : Value) (hx : basic x = true) (hy : basic y = true) (e : (Builtin.max2 x y).run P w = .ok z w1) : basic z = true := by
  rcases basic_cases hx with ⟨k, n, rfl⟩ | ⟨s, rfl⟩ | ⟨b, rfl⟩ <;> rcases basic_cases hy with ⟨k', n', rfl⟩ | ⟨s', rfl⟩ | ⟨b', rfl⟩ <;> unfold Builtin.max2 at e
  case inl.inl => simp at e; rw [← e.1]; rfl
  case inr.inl.inr.inl =>
    obtain ⟨a, w2, _, e2⟩ := bind_ok e
    obtain ⟨b, w3, _, e3⟩ := bind_ok e2
    simp at e3; rw [← e3.1]; rfl
  all_goals simp [stuck, Sem.run] at e
theorem sq_min (ts : Array TypeId) (t : TypeId) (args : Array Value) (h : ∀ v ∈ args, basic v = true) : SQ (Builtin.min_ ts t args) := by
  unfold Builtin.min_
  split
  · exact (nok_stuck _).sq
  · rename_i x rest hl
    have h' : ∀ v ∈ args.toList, basic v = true := fun v hv => h v (Array.mem_toList_iff.1 hv)
    rw [hl] at h'
    exact sq_foldl _ sq_min2 (fun P w w1 x y z => min2_basic P w w1 x y z) rest x (h' x (List.mem_cons_self ..)) (fun y hy => h' y (List.mem_cons_of_mem _ hy))
theorem sq_max (ts : Array TypeId) (t : TypeId) (args : Array Value) (h : ∀ v ∈ args, basic v = true) : SQ (Builtin.max_ ts t args) := by
  unfold Builtin.max_
  split
  · exact (nok_stuck _).sq
  · rename_i x rest hl
    have h' : ∀ v ∈ args.toList, basic v = true := fun v hv => h v (Array.mem_toList_iff.1 hv)
    rw [hl] at h'
    exact sq_foldl _ sq_max2 (fun P w w1 x y z => max2_basic P w w1 x y z) rest x (h' x (List.mem_cons_self ..)) (fun y hy => h' y (List.mem_cons_of_mem _ hy))
/-- An operation that computes, handed what it is handed, asks nothing of the world. -/
theorem okP_sq {ρ : Operand → Value} {o : Oper} {s : Sem Value} (h : okP P ρ o = true) (hs : segSem ρ o = some s) : SQP P s := by
  obtain ⟨dst, op, type, pos, after, guard⟩ := o
  unfold segSem at hs
  unfold okP at h
  dsimp only at h hs
  cases op <;> (try dsimp only at h hs) <;> (try (cases h; done)) <;> (try (cases hs; done))
  case move x => injection hs with hs; subst hs; exact (SQ.pure _).at
  case assign x => injection hs with hs; subst hs; exact (SQ.pure _).at
  case pick c a b => injection hs with hs; subst hs; exact ((sq_asBool _).bind fun _ => SQ.pure _).at
  case build t ps => injection hs with hs; subst hs; exact (sq_build _ _).at
  case unOp op t x => injection hs with hs; subst hs; exact (sq_unary _ _).at
  case makeInterface t x => injection hs with hs; subst hs; exact (sq_makeInterface _ _).at
  case makeFunc f a b => injection hs with hs; subst hs; exact (sq_makeFunc _ _ _).at
  case slice t x l h' m => injection hs with hs; subst hs; exact (sq_sliceAt _ _ _ _ _).at
  case field t x f => injection hs with hs; subst hs; exact (sq_field _ _ _).at
  case indexAddr t x i => injection hs with hs; subst hs; exact (sq_indexAt _ _ _).at
  case index t x i => injection hs with hs; subst hs; exact (sq_index _ _ _).at
  case extract t i => injection hs with hs; subst hs; exact (sq_extract _ _).at
  case fieldAddr s' x f => injection hs with hs; subst hs; exact sq_fieldAt h
  case nilCheck x =>
    split at hs
    · injection hs with hs; subst hs; exact (SQ.pure _).at
    · injection hs with hs; subst hs; exact (SQ.pure _).at
    · cases hs
  case binOp op t x y yt =>
    injection hs with hs; subst hs
    simp only [Bool.and_eq_true] at h
    exact ((sq_eqGuard _ _ _ _ _ _ h.1).bind fun _ => sq_binOp_basic _ _ _ _ h.1 h.2).at
  case convert src d x =>
    injection hs with hs; subst hs
    split at h
    · rename_i h1 h2; rw [h1]; exact fun w w1 a e => sq_convert_int _ _ _ _ P _ h2 w w1 a e
    · rename_i h1 h2; rw [h1]; exact fun w w1 a e => sq_convert_string _ _ _ P h2 w w1 a e
    · cases h
  case call c =>
    obtain ⟨callee, args, argTypes⟩ := c
    cases callee <;> (try dsimp only at h hs) <;> (try (cases h; done))
    case builtin b =>
      cases b <;> (try dsimp only at h hs) <;> (try (cases h; done))
      case len =>
        injection hs with hs; subst hs
        refine (sq_len _ _ _ fun v hv => ?_).at
        obtain ⟨x, hx, rfl⟩ := Array.mem_map.1 (Array.mem_of_getElem? hv)
        exact Array.all_eq_true_iff_forall_mem.1 h x hx
      case cap =>
        injection hs with hs; subst hs
        refine (sq_cap _ _ _ fun v hv => ?_).at
        obtain ⟨x, hx, rfl⟩ := Array.mem_map.1 (Array.mem_of_getElem? hv)
        exact Array.all_eq_true_iff_forall_mem.1 h x hx
      case min =>
        injection hs with hs; subst hs
        refine (sq_min _ _ _ fun v hv => ?_).at
        obtain ⟨x, hx, rfl⟩ := Array.mem_map.1 hv
        exact Array.all_eq_true_iff_forall_mem.1 h x hx
      case max =>
        injection hs with hs; subst hs
        refine (sq_max _ _ _ fun v hv => ?_).at
        obtain ⟨x, hx, rfl⟩ := Array.mem_map.1 hv
        exact Array.all_eq_true_iff_forall_mem.1 h x hx
end

/-! ### 2b. The open fence, in a round or not -/
abbrev FW (r : Option Nat) : Fence := { fn := fun _ => True, depth := none, alive := false, round := r }
def noDefer (ops : Array Oper) : Bool := ops.all fun o => match o.op with | .defer .. => false | _ => true
theorem noDefer_spec {ops : Array Oper} (h : noDefer ops = true) {j : Nat} {o : Oper} (ho : ops[j]? = some o) (r : Option Nat) (ρ : Operand → Value) : Oper.semAt r ρ o = execOp ρ o := by
  refine Oper.semAt_eq r ρ o fun c hc => ?_
  have := Array.all_eq_true_iff_forall_mem.1 h o (Array.mem_of_getElem? ho)
  simp [hc] at this

/-! ### 3. The plan -/
theorem sr_load (a : Addr) : SR (load a) := fun P w w1 v e => by
  unfold load at e
  simp only [Sem.run] at e
  split at e
  · simp at e; exact e.2.symm
  · split at e
    · simp at e; exact e.2.symm
    · cases e
theorem sr_loadCellsFrom (a : Addr) : ∀ (n i : Nat) (acc : Array Value), SR (loadCellsFrom a i n acc)
  | 0, i, acc => (SQ.pure _).sr
  | n + 1, i, acc => by
    unfold loadCellsFrom
    exact (sr_load _).bind fun _ => sr_loadCellsFrom a n _ _
theorem sr_loadAt (t : TypeId) (x : Value) : SR (Instr.loadAt t x) := by
  unfold Instr.loadAt
  refine (sq_sureAddr x).sr.bind fun a => ?_
  unfold loadVar
  refine (sq_isAgg t).sr.bind fun b => ?_
  split
  · exact (sq_sizeOf t).sr.bind fun _ => (sr_loadCellsFrom _ _ _ _).bind fun _ => (SQ.pure _).sr
  · exact sr_load _
/-- The cells that a load reads are there, and are what they were. -/
def CellsKept (P : Program) (t : TypeId) (x : Value) (w w' : World) : Prop :=
  match x with
  | .pointer (some ad) => ∀ i, P.info? t = some i → ∀ k, k < max 1 i.size → ∃ u, w.cell? (ad.add k) = some u ∧ w'.cell? (ad.add k) = some u
  | _ => True
theorem load_kept {P : Program} {a : Addr} {u : Value} {w : World} (h : w.cell? a = some u) : (load a).run P w = .ok u w := by simp [load, Sem.run, h]
theorem loadCells_kept {P : Program} {a : Addr} {w w' : World} : ∀ (n i : Nat) (acc : Array Value) (r : Array Value) (w1 : World),
    (∀ k, i ≤ k → k < i + n → ∃ u, w.cell? (a.add k) = some u ∧ w'.cell? (a.add k) = some u) → (loadCellsFrom a i n acc).run P w = .ok r w1 → (loadCellsFrom a i n acc).run P w' = .ok r w'
  | 0, i, acc, r, w1, _, e => by simp [loadCellsFrom] at e ⊢; exact e.1
  | n + 1, i, acc, r, w1, h, e => by
    obtain ⟨u, h1, h2⟩ := h i (Nat.le_refl _) (by omega)
    unfold loadCellsFrom at e ⊢
    rw [Sem.run_bind, load_kept h1] at e
    rw [Sem.run_bind, load_kept h2]
    exact loadCells_kept n (i + 1) _ r w1 (fun k hk hk' => h k (by omega) (by omega)) e
theorem loadAt_kept {P : Program} {t : TypeId} {x v : Value} {w w1 w' : World} (h : CellsKept P t x w w') (e : (Instr.loadAt t x).run P w = .ok v w1) : (Instr.loadAt t x).run P w' = .ok v w' := by
  unfold Instr.loadAt at e ⊢
  rw [Sem.run_bind] at e ⊢
  cases x with
  | pointer r =>
    cases r with
    | none => simp [Instr.sureAddr, stuck, Sem.run] at e
    | some ad =>
      simp only [Instr.sureAddr, Sem.run_pure, Result.andThen_ok] at e ⊢
      unfold loadVar at e ⊢
      obtain ⟨b, w2, e1, e2⟩ := bind_ok e
      obtain ⟨rfl, e1'⟩ := sq_isAgg t P w w2 b e1
      rw [Sem.run_bind, e1' w']
      cases b with
      | true =>
        simp only [if_true, Result.andThen_ok] at e2 ⊢
        obtain ⟨n, w3, e3, e4⟩ := bind_ok e2
        obtain ⟨rfl, e3'⟩ := sq_sizeOf t P _ w3 n e3
        rw [Sem.run_bind, e3' w']
        simp only [Result.andThen_ok]
        obtain ⟨cs, w4, e5, e6⟩ := bind_ok e4
        have hn : ∃ i, P.info? t = some i ∧ i.size = n := by
          unfold sizeOf typeInfo at e3
          cases hi : P.info? t with
          | none => simp [Sem.run_bind, program, Sem.run, hi, stuck] at e3
          | some i => simp [Sem.run_bind, program, Sem.run, hi] at e3; exact ⟨i, rfl, e3⟩
        obtain ⟨i, hi, rfl⟩ := hn
        have := loadCells_kept (w' := w') i.size 0 #[] cs w4 (fun k _ hk => h i hi k (by omega)) e5
        rw [Sem.run_bind]
        unfold loadCells
        rw [this]
        simp at e6 ⊢
        exact e6.1
      | false =>
        simp only [Bool.false_eq_true, if_false, Result.andThen_ok] at e2 ⊢
        have hi : ∃ i, P.info? t = some i := by
          cases hi : P.info? t with
          | some i => exact ⟨i, rfl⟩
          | none =>
            have : P.underlying t = none := by unfold Program.underlying; rw [hi]
            simp [isAgg, underlying, Sem.run_bind, program, Sem.run, this, stuck] at e1
        obtain ⟨i, hi⟩ := hi
        obtain ⟨u, h1, h2⟩ := h i hi 0 (by omega)
        have ha : ad.add 0 = ad := by simp [Addr.add]
        rw [ha] at h1 h2
        rw [load_kept h1] at e2
        rw [load_kept h2]
        simp at e2 ⊢
        exact e2.1
  | _ => simp [Instr.sureAddr, stuck, Sem.run] at e

section
variable {P : Program} {ro : Option Nat} {ops : Array Oper} {Q : Exit → Act → World → Prop}
def YW (P : Program) (ops : Array Oper) (o : Oper) (v : Value) (a : Act) (w : World) : Prop :=
  (Region.wanted o (yielded ops a.tmps) = true ∧ (execOp a.eval o).run P w = .ok (.value v) w) ∨ (Region.wanted o (yielded ops a.tmps) = false ∧ v = undef)
theorem YW.of_yields {o : Oper} {v : Value} {a : Act} (h : Yields P ops o v a) (w : World) : YW P ops o v a w := h.imp (fun ⟨x, y⟩ => ⟨x, y w⟩) id
theorem YW.same {o : Oper} {v : Value} {a a' : Act} {w : World} (h : YW P ops o v a w) (he : execOp a'.eval o = execOp a.eval o)
    (hw : Region.wanted o (yielded ops a'.tmps) = Region.wanted o (yielded ops a.tmps)) : YW P ops o v a' w := by
  unfold YW at *; rw [he, hw]; exact h
theorem YW.wpOp (hnd : noDefer ops = true) {i : Nat} {o : Oper} {v : Value} {a : Act} {w : World} (hi : ops[i]? = some o) (hy : YW P ops o v a w) {K : Act → World → Prop} (h : K (a.put o.dst v) w) : wpOpIn (FW ro) 0 P ops Q i K a w := by
  unfold wpOpIn
  simp only [hi]
  rcases hy with ⟨hw, hv⟩ | ⟨hw, rfl⟩
  · simp only [hw, if_true]
    unfold Oper.wpIn
    rw [noDefer_spec hnd hi, hv]
    exact ⟨fun _ _ => trivial, h⟩
  · simp only [hw, Bool.false_eq_true, if_false]; exact ⟨fun _ _ => trivial, h⟩
/-- What a load that was carried out early reads, it reads later. -/
def Held1 (P : Program) (ops : Array Oper) (i : Nat) (a : Act) (w w' : World) : Prop := match ops[i]? with
  | some o => match o.op with
    | .load t x => Region.wanted o (yielded ops a.tmps) = true → CellsKept P t (a.eval x) w w'
    | _ => True
  | none => True
def Held (P : Program) (ops : Array Oper) : List Nat → Act → World → World → Prop
  | [], _, _, _ => True
  | [i], a, w, w' => Held1 P ops i a w w'
  | i :: l, a, w, w' => Held1 P ops i a w w' ∧ Held P ops l a w w'
theorem Held.mem {a : Act} {w w' : World} : ∀ {l : List Nat}, Held P ops l a w w' → ∀ i ∈ l, Held1 P ops i a w w'
  | [], _, _, h => by cases h
  | [i], h, j, hj => by simp at hj; subst hj; exact h
  | i :: k :: l, h, j, hj => by
    rcases List.mem_cons.1 hj with rfl | hj
    · exact h.1
    · exact Held.mem (l := k :: l) h.2 j hj
def wpPlan (ro : Option Nat) (P : Program) (ops : Array Oper) (Q : Exit → Act → World → Prop) : List (Nat × Option (List Nat)) → Act → World → Prop
  | [], a, w => Q .normal a w
  | (i, none) :: rest, a, w => ∃ o v, ops[i]? = some o ∧ YW P ops o v a w ∧ (isL o = true ∨ Yields P ops o v a) ∧ wpPlan ro P ops Q rest (a.put o.dst v) w
  | (j, some keep) :: rest, a, w => wpOpIn (FW ro) 0 P ops Q j (fun a' w' => Held P ops keep a w w' ∧ wpPlan ro P ops Q rest a' w') a w

def depsOf (o : Oper) : List Nat := o.after.toList.filterMap fun e => if Region.binds .any e then some e.on else none
def deps (ops : Array Oper) (j : Nat) : List Nat := match ops[j]? with
  | some o => depsOf o
  | none => []
theorem mem_deps {ops : Array Oper} {j : Nat} {o : Oper} (ho : ops[j]? = some o) {d : Nat} : d ∈ deps ops j ↔ ∃ e ∈ o.after, Region.binds .any e = true ∧ e.on = d := by
  unfold deps
  rw [ho]
  simp only [depsOf, List.mem_filterMap, Array.mem_toList_iff]
  constructor
  · rintro ⟨e, he, h⟩
    split at h
    · rename_i hb; simp at h; exact ⟨e, he, hb, h⟩
    · cases h
  · rintro ⟨e, he, hb, rfl⟩
    exact ⟨e, he, by simp [hb]⟩
theorem ready_iff {lr : Array Bool} {j : Nat} : j ∈ Region.ready .any ops lr ↔ lr.getD j true = false ∧ j < ops.size ∧ ∀ d ∈ deps ops j, lr.getD d false = true := by
  rw [mem_ready]
  constructor
  · rintro ⟨h0, o, ho, h⟩
    refine ⟨h0, (Array.getElem?_eq_some_iff.1 ho).1, fun d hd => ?_⟩
    obtain ⟨e, he, hb, rfl⟩ := (mem_deps ho).1 hd
    exact h e he hb
  · rintro ⟨h0, hlt, h⟩
    exact ⟨h0, ops[j], Array.getElem?_eq_some_iff.2 ⟨hlt, rfl⟩, fun e he hb => h _ ((mem_deps (Array.getElem?_eq_some_iff.2 ⟨hlt, rfl⟩)).2 ⟨e, he, hb, rfl⟩)⟩

/-- The table of what must come before: each row is met by a dependence of its own, or by a dependence's row. -/
def tabOk (ops : Array Oper) (A : List (List Nat)) : Bool := (List.range ops.size).all fun j => (deps ops j).all (· < j) && (A.getD j []).all fun i => (deps ops j).any fun d => d == i || (A.getD d []).contains i
theorem anc_in {A : List (List Nat)} (hA : tabOk ops A = true) (S : Nat → Prop) (hcl : ∀ j, S j → ∀ d ∈ deps ops j, S d) : ∀ n j, j < n → j < ops.size → (∀ d ∈ deps ops j, S d) → ∀ i ∈ A.getD j [], S i := by
  intro n
  induction n with
  | zero => intro j hj; omega
  | succ n ih =>
    intro j hj hlt hd i hi
    have h := List.all_eq_true.1 hA j (List.mem_range.2 hlt)
    simp only [Bool.and_eq_true, List.all_eq_true, decide_eq_true_eq] at h
    obtain ⟨d, hdm, hor⟩ := List.any_eq_true.1 (h.2 i hi)
    have hdj := h.1 d hdm
    simp only [Bool.or_eq_true, beq_iff_eq, List.contains_iff_mem] at hor
    rcases hor with rfl | hor
    · exact hd _ hdm
    · exact ih d (by omega) (by omega) (hcl d (hd d hdm)) i hor
/-- Two that needn't wait for each other don't touch each other's temporaries. -/
def apartOk (ops : Array Oper) (A : List (List Nat)) : Bool := (List.range ops.size).all fun i => (List.range i).all fun j => (A.getD i []).contains j || match ops[i]?, ops[j]? with
  | some x, some y => x.apart ops y
  | _, _ => true
theorem apart_symm {x y : Oper} (h : x.apart ops y = true) : y.apart ops x = true := by
  obtain ⟨h1, h2, h3⟩ := Oper.apart_spec h
  unfold Oper.apart
  cases hx : x.dst <;> cases hy : y.dst <;> simp
  · rename_i d; exact h3 d hy
  · rename_i d; exact h1 d hx
  · rename_i d e
    refine ⟨⟨h3 e hy, fun he => h2 d hx (by rw [hy, he])⟩, h1 d hx⟩
theorem apart_of {A : List (List Nat)} (hA : apartOk ops A = true) {i j : Nat} {x y : Oper} (hi : ops[i]? = some x) (hj : ops[j]? = some y) (hne : i ≠ j)
    (h1 : j ∉ A.getD i []) (h2 : i ∉ A.getD j []) : x.apart ops y = true := by
  have hi' := (Array.getElem?_eq_some_iff.1 hi).1
  have hj' := (Array.getElem?_eq_some_iff.1 hj).1
  rcases Nat.lt_or_gt_of_ne hne with h | h
  · have := List.all_eq_true.1 (List.all_eq_true.1 hA j (List.mem_range.2 hj')) i (List.mem_range.2 h)
    simp only [hi, hj, Bool.or_eq_true, List.contains_iff_mem] at this
    exact apart_symm (this.resolve_left h2)
  · have := List.all_eq_true.1 (List.all_eq_true.1 hA i (List.mem_range.2 hi')) j (List.mem_range.2 h)
    simp only [hi, hj, Bool.or_eq_true, List.contains_iff_mem] at this
    exact this.resolve_left h1
/-- What a load looks at is written by what must come before it alone. -/
def loadsOk (ops : Array Oper) (A : List (List Nat)) : Bool := (List.range ops.size).all fun i => match ops[i]? with
  | some o => !isL o || (List.range ops.size).all fun u => match ops[u]? with
    | some p => match p.dst with
      | some d => !(o.looksAt ops).contains d || (A.getD i []).contains u
      | none => true
    | none => true
  | none => true
theorem loads_of {A : List (List Nat)} (hA : loadsOk ops A = true) {i u : Nat} {o p : Oper} (hi : ops[i]? = some o) (hu : ops[u]? = some p) (hL : isL o = true) (h : u ∉ A.getD i []) :
    ∀ d, p.dst = some d → d ∉ o.looksAt ops := by
  intro d hd hm
  have hi' := (Array.getElem?_eq_some_iff.1 hi).1
  have hu' := (Array.getElem?_eq_some_iff.1 hu).1
  have := List.all_eq_true.1 hA i (List.mem_range.2 hi')
  simp only [hi, hL, Bool.not_true, Bool.false_or] at this
  have := List.all_eq_true.1 this u (List.mem_range.2 hu')
  simp only [hu, hd, Bool.or_eq_true, Bool.not_eq_true', List.contains_iff_mem] at this
  rcases this with h' | h'
  · have := List.contains_iff_mem.2 hm
    rw [this] at h'; cases h'
  · exact h h'
def chk (ops : Array Oper) (A : List (List Nat)) : List Nat → List (Nat × Option (List Nat)) → Bool
  | done, [] => (List.range ops.size).all done.contains
  | done, (i, none) :: r => decide (i < ops.size) && !done.contains i && (deps ops i).all done.contains && chk ops A (i :: done) r
  | done, (j, some keep) :: r => decide (j < ops.size) && !done.contains j && (deps ops j).all done.contains &&
      ((List.range ops.size).all fun i => i == j || done.contains i || !(deps ops i).all done.contains) &&
      (done.all fun i => (A.getD j []).contains i || keep.contains i || match ops[i]? with | some o => !isL o | none => true) && chk ops A (j :: done) r
end

/-! ### 4. What was carried out early -/
section
variable {P : Program} {ro : Option Nat} {ops : Array Oper} {Q : Exit → Act → World → Prop}
def putAll (ops : Array Oper) (a : Act) (V : List (Nat × Value)) : Act := V.foldl (fun a p => a.put ((ops[p.1]?).bind (·.dst)) p.2) a
theorem putAll_append (a : Act) (V U : List (Nat × Value)) : putAll ops a (V ++ U) = putAll ops (putAll ops a V) U := by simp [putAll, List.foldl_append]
theorem putAll_cons (a : Act) (p : Nat × Value) (U : List (Nat × Value)) : putAll ops a (p :: U) = putAll ops (a.put ((ops[p.1]?).bind (·.dst)) p.2) U := rfl
/-- V's operations and one more are apart. -/
def ApartAll (ops : Array Oper) (V : List (Nat × Value)) (y : Oper) : Prop := ∀ p ∈ V, ∃ x, ops[p.1]? = some x ∧ x.apart ops y = true
theorem put_putAll {y : Oper} (v : Value) : ∀ (V : List (Nat × Value)) (a : Act), ApartAll ops V y → putAll ops (a.put y.dst v) V = (putAll ops a V).put y.dst v
  | [], a, _ => rfl
  | p :: V, a, h => by
    obtain ⟨x, hx, hap⟩ := h p (List.mem_cons_self ..)
    obtain ⟨_, h2, _⟩ := Oper.apart_spec hap
    rw [putAll_cons, putAll_cons, hx]
    simp only [Option.bind_some]
    rw [← put_putAll v V _ (fun q hq => h q (List.mem_cons_of_mem _ hq))]
    rw [Act.put_comm a v p.2 (fun d hd hxd => h2 d hxd hd)]
theorem exec_putAll (hsel : Region.noSelect ops = true) {j : Nat} {y : Oper} (hj : ops[j]? = some y) : ∀ (V : List (Nat × Value)) (a : Act), ApartAll ops V y →
    execOp (putAll ops a V).eval y = execOp a.eval y ∧ Region.wanted y (yielded ops (putAll ops a V).tmps) = Region.wanted y (yielded ops a.tmps)
  | [], a, _ => ⟨rfl, rfl⟩
  | p :: V, a, h => by
    obtain ⟨x, hx, hap⟩ := h p (List.mem_cons_self ..)
    obtain ⟨h1, _, _⟩ := Oper.apart_spec hap
    have ih := exec_putAll hsel hj V (a.put x.dst p.2) (fun q hq => h q (List.mem_cons_of_mem _ hq))
    rw [putAll_cons, hx]
    simp only [Option.bind_some]
    rw [ih.1, ih.2]
    exact ⟨execOp_put y (fun cs b => Region.noSelect_spec hsel j y cs b hj) a x.dst p.2 h1, wanted_put y a x.dst p.2 h1⟩
/-- Behind an operation: a value more, maybe a deferred call more. -/
def Went (y : Oper) (a a' : Act) : Prop := ∃ x ds, a' = ({ a with defers := ds } : Act).put y.dst x
theorem defers_putAll (ds : List Deferred) : ∀ (V : List (Nat × Value)) (a : Act), putAll ops { a with defers := ds } V = { putAll ops a V with defers := ds }
  | [], a => rfl
  | p :: V, a => by
    rw [putAll_cons, putAll_cons, ← defers_putAll ds V]
    congr 1
    cases (ops[p.1]?).bind (·.dst) <;> rfl
theorem Went.putAll {y : Oper} {a a' : Act} (h : Went y a a') {V : List (Nat × Value)} (hV : ApartAll ops V y) : Went y (Plan.putAll ops a V) (Plan.putAll ops a' V) := by
  obtain ⟨x, ds, rfl⟩ := h
  exact ⟨x, ds, by rw [put_putAll x V _ hV, defers_putAll]⟩
theorem Went.exec (hsel : Region.noSelect ops = true) {y : Oper} {a a' : Act} (h : Went y a a') {i : Nat} {o : Oper} (hi : ops[i]? = some o) (hap : y.apart ops o = true) :
    execOp a'.eval o = execOp a.eval o ∧ Region.wanted o (yielded ops a'.tmps) = Region.wanted o (yielded ops a.tmps) := by
  obtain ⟨x, ds, rfl⟩ := h
  obtain ⟨h1, _, _⟩ := Oper.apart_spec hap
  rw [execOp_put o (fun cs b => Region.noSelect_spec hsel i o cs b hi) _ y.dst x h1, wanted_put o _ y.dst x h1]
  exact ⟨rfl, rfl⟩
/-- One operation behind what was put early. -/
theorem wpOp_went (hnd : noDefer ops = true) (hsel : Region.noSelect ops = true) (hQ : ∀ c a t w, Q (.panic c) { a with tmps := t } w → Q (.panic c) a w) {j : Nat} {y : Oper} (hj : ops[j]? = some y) {K : Act → World → Prop} {w : World} :
    ∀ (V : List (Nat × Value)) (a : Act), ApartAll ops V y → wpOpIn (FW ro) 0 P ops Q j K (putAll ops a V) w → wpOpIn (FW ro) 0 P ops Q j (fun a' w' => Went y a a' ∧ K (putAll ops a' V) w') a w
  | V, a, hV, h => by
    obtain ⟨he, hw⟩ := exec_putAll hsel hj V a hV
    have hQ' : ∀ c w', Q (.panic c) (putAll ops a V) w' → Q (.panic c) a w' := by
      intro c w' hq
      have : putAll ops a V = { a with tmps := (putAll ops a V).tmps } := by
        have := defers_putAll (ops := ops) a.defers V a
        show _ = Act.mk _ _
        rw [show ({ a with defers := a.defers } : Act) = a from rfl] at this
        rw [this]
      rw [this] at hq
      exact hQ c a _ w' hq
    unfold wpOpIn at *
    have hj' := hj
    simp only [hj] at h ⊢
    rw [hw] at h
    split
    · rename_i hwt
      simp only [hwt, if_true] at h
      unfold Oper.wpIn at *
      refine ⟨fun _ _ => trivial, ?_⟩
      have h := h.2
      rw [noDefer_spec hnd hj] at h ⊢
      rw [he] at h
      generalize (execOp a.eval y).run P w = rs at *
      cases rs with
      | ok n w' =>
        cases n <;> simp only [Oper.uponIn] at h ⊢
        case value u => exact ⟨⟨u, a.defers, rfl⟩, by rw [put_putAll u V a hV]; exact h⟩
        case skip => exact ⟨⟨undef, a.defers, rfl⟩, by rw [put_putAll undef V a hV]; exact h⟩
        case defer d =>
          refine ⟨⟨undef, d :: a.defers, rfl⟩, ?_⟩
          have hd : (putAll ops a V).defers = a.defers := by
            have := defers_putAll (ops := ops) a.defers V a
            rw [show ({ a with defers := a.defers } : Act) = a from rfl] at this
            rw [this]
          rw [put_putAll undef V _ hV, defers_putAll]
          rw [hd] at h
          exact h
        case enter f args =>
          refine ⟨h.1, CallsIn.mono h.2 fun e w'' hh => ?_⟩
          cases e with
          | returned u => exact ⟨⟨u, a.defers, rfl⟩, by rw [put_putAll u V a hV]; exact hh⟩
          | panicked c => exact hQ' _ _ hh
          | outgrown => exact hh
        case row row args => exact ⟨h.1, RowsIn.mono h.2 fun u w'' hh => ⟨⟨u, a.defers, rfl⟩, by rw [put_putAll u V a hV]; exact hh⟩⟩
        case round l f tmps assign body =>
          refine ⟨h.1, RoundIn.mono h.2 fun e w'' hh => ?_⟩
          cases e with
          | returned u => exact ⟨⟨u, a.defers, rfl⟩, by rw [put_putAll u V a hV]; exact hh⟩
          | panicked c => exact hQ' _ _ hh
          | outgrown => exact hh
      | halt x w' =>
        cases x <;> simp only [Oper.uponIn] at h ⊢
        case panic u => exact hQ' _ _ h
    · rename_i hwt
      simp only [hwt] at h
      exact ⟨fun _ _ => trivial, ⟨undef, a.defers, rfl⟩, by rw [put_putAll undef V a hV]; exact h.2⟩

/-! ### 5. The theorem -/
structure Inv (P : Program) (ops : Array Oper) (lr : Array Bool) (V : List (Nat × Value)) (done : List Nat) (a : Act) (w : World) : Prop where
  size : lr.size = ops.size
  closed : ∀ j, lr.getD j false = true → ∀ d ∈ deps ops j, lr.getD d false = true
  mem : ∀ i, i ∈ done ↔ lr.getD i false = true ∨ i ∈ V.map Prod.fst
  fresh : ∀ i ∈ V.map Prod.fst, lr.getD i true = false
  nodup : (V.map Prod.fst).Nodup
  yields : ∀ V1 i v V2, V = V1 ++ (i, v) :: V2 → (∃ o, ops[i]? = some o ∧ YW P ops o v (putAll ops a V1) w ∧ (isL o = true ∨ Yields P ops o v (putAll ops a V1))) ∧ (∀ d ∈ deps ops i, lr.getD d false = true ∨ d ∈ V1.map Prod.fst)
theorem getD_true_false {lr : Array Bool} {i : Nat} (h : lr.getD i true = false) : lr.getD i false = false := by
  rcases Nat.lt_or_ge i lr.size with h' | h'
  · simp [h'] at h ⊢; exact h
  · simp [Array.getElem?_eq_none h'] at h
theorem getD_false_true {lr : Array Bool} {i : Nat} (hi : i < lr.size) (h : lr.getD i false = false) : lr.getD i true = false := by
  simp [hi] at h ⊢; exact h
def left (lr : Array Bool) : Nat := ((List.range lr.size).filter fun i => !lr.getD i true).length
theorem filter_lt {p q : Nat → Bool} {x : Nat} (hpq : ∀ i, q i = true → p i = true) (hx : p x = true) (hq : q x = false) : ∀ l : List Nat, x ∈ l → (l.filter q).length < (l.filter p).length
  | [], h => by cases h
  | y :: l, h => by
    have hle : ∀ l : List Nat, (l.filter q).length ≤ (l.filter p).length := by
      intro l
      induction l with
      | nil => simp
      | cons z l ih =>
        simp only [List.filter_cons]
        cases hz : q z with
        | true => simp [hpq z hz, ih]
        | false => cases hz' : p z <;> simp <;> omega
    simp only [List.filter_cons]
    rcases List.mem_cons.1 h with rfl | h
    · simp [hx, hq]; have := hle l; omega
    · have := filter_lt hpq hx hq l h
      cases hz : q y with
      | true => simp [hpq y hz, this]
      | false => cases hz' : p y <;> simp <;> omega
theorem left_set {lr : Array Bool} {i : Nat} (hi : i < lr.size) (h : lr.getD i true = false) : left (lr.setIfInBounds i true) < left lr := by
  unfold left
  rw [Array.size_setIfInBounds]
  refine filter_lt (x := i) (fun k hk => ?_) (by rw [h]; rfl) (by simp [hi]) _ (List.mem_range.2 hi)
  by_cases hki : i = k
  · subst hki; rw [h]; rfl
  · rw [getD_set_ne true hki] at hk; exact hk
variable {A : List (List Nat)}
theorem Inv.anc_lr {lr : Array Bool} {V : List (Nat × Value)} {done : List Nat} {a : Act} {w : World} (hT : tabOk ops A = true) (h : Inv P ops lr V done a w) {j : Nat} (hlt : j < ops.size) (hd : ∀ d ∈ deps ops j, lr.getD d false = true) :
    ∀ i ∈ A.getD j [], lr.getD i false = true :=
  anc_in hT (fun i => lr.getD i false = true) h.closed (j + 1) j (by omega) hlt hd
theorem mem_split {V : List (Nat × Value)} {i : Nat} (h : i ∈ V.map Prod.fst) : ∃ V1 v V2, V = V1 ++ (i, v) :: V2 := by
  obtain ⟨⟨k, v⟩, hm, rfl⟩ := List.mem_map.1 h
  obtain ⟨V1, V2, rfl⟩ := List.append_of_mem hm
  exact ⟨V1, v, V2, rfl⟩
/-- What comes before an early one lies among those that are listed and those that were early before it. -/
theorem Inv.anc_early {lr : Array Bool} {V : List (Nat × Value)} {done : List Nat} {a : Act} {w : World} (hT : tabOk ops A = true) (h : Inv P ops lr V done a w) {V1 V2 : List (Nat × Value)} {i : Nat} {v : Value} (hV : V = V1 ++ (i, v) :: V2) :
    ∀ k ∈ A.getD i [], lr.getD k false = true ∨ k ∈ V1.map Prod.fst := by
  obtain ⟨⟨o, ho, _⟩, hd⟩ := h.yields V1 i v V2 hV
  refine anc_in hT (fun k => lr.getD k false = true ∨ k ∈ V1.map Prod.fst) ?_ (i + 1) i (by omega) (Array.getElem?_eq_some_iff.1 ho).1 hd
  rintro k (hk | hk) d hd'
  · exact .inl (h.closed k hk d hd')
  · obtain ⟨U1, u, U2, rfl⟩ := mem_split hk
    have := (h.yields U1 k u (U2 ++ (i, v) :: V2) (by rw [hV]; simp)).2 d hd'
    rcases this with h' | h'
    · exact .inl h'
    · exact .inr (by simp only [List.map_append, List.mem_append]; exact .inl h')
theorem nodup_split {V1 V2 : List (Nat × Value)} {i : Nat} {v : Value} (h : ((V1 ++ (i, v) :: V2).map Prod.fst).Nodup) : i ∉ V1.map Prod.fst ∧ i ∉ V2.map Prod.fst ∧ ((V1 ++ V2).map Prod.fst).Nodup := by
  simp only [List.map_append, List.map_cons] at h ⊢
  have h' := List.nodup_append.1 h
  obtain ⟨h1, h2, h3⟩ := h'
  have h2' := List.nodup_cons.1 h2
  refine ⟨fun hm => h3 i hm i (List.mem_cons_self ..) rfl, h2'.1, List.nodup_append.2 ⟨h1, h2'.2, fun x hx y hy => h3 x hx y (List.mem_cons_of_mem _ hy)⟩⟩

theorem list_set {lr : Array Bool} {i : Nat} (hi : i < lr.size) (k : Nat) : (lr.setIfInBounds i true).getD k false = true ↔ lr.getD k false = true ∨ k = i := by
  by_cases hki : i = k
  · subst hki; simp [hi]
  · rw [getD_set_ne false hki]; simp [Ne.symm hki]
/-- One that was early comes up. -/
theorem Inv.early (hsel : Region.noSelect ops = true) (hT : tabOk ops A = true) (hap : apartOk ops A = true) {lr : Array Bool} {V1 V2 : List (Nat × Value)} {i : Nat} {v : Value} {done : List Nat} {a : Act} {w : World}
    (h : Inv P ops lr (V1 ++ (i, v) :: V2) done a w) (hd : ∀ d ∈ deps ops i, lr.getD d false = true) :
    ∃ o, ops[i]? = some o ∧ YW P ops o v a w ∧ Inv P ops (lr.setIfInBounds i true) (V1 ++ V2) done (a.put o.dst v) w ∧ putAll ops (a.put o.dst v) (V1 ++ V2) = putAll ops a (V1 ++ (i, v) :: V2) := by
  obtain ⟨⟨o, ho, hy, hk⟩, hdeps⟩ := h.yields V1 i v V2 rfl
  have hlt := (Array.getElem?_eq_some_iff.1 ho).1
  have hls : i < lr.size := by rw [h.size]; exact hlt
  obtain ⟨hn1, hn2, hnd⟩ := nodup_split h.nodup
  have hanc := h.anc_lr hT hlt hd
  have hfr : lr.getD i false = false := getD_true_false (h.fresh i (by simp))
  -- those ahead of it are apart from it
  have hV1 : ApartAll ops V1 o := by
    intro p hp
    obtain ⟨U1, u, U2, hU⟩ := mem_split (V := V1) (i := p.1) (List.mem_map.2 ⟨p, hp, rfl⟩)
    have hsp : V1 ++ (i, v) :: V2 = U1 ++ (p.1, u) :: (U2 ++ (i, v) :: V2) := by rw [hU]; simp
    obtain ⟨⟨x, hx, _⟩, _⟩ := h.yields U1 p.1 u _ hsp
    refine ⟨x, hx, apart_of hap hx ho (fun e => hn1 (e ▸ List.mem_map.2 ⟨p, hp, rfl⟩)) ?_ ?_⟩
    · intro hm
      rcases h.anc_early hT hsp i hm with h' | h'
      · rw [hfr] at h'; cases h'
      · exact hn1 (by rw [hU]; simp only [List.map_append, List.mem_append]; exact .inl h')
    · intro hm
      have h1 := hanc p.1 hm
      have h2 := getD_true_false (h.fresh p.1 (by simp; exact .inl ⟨p.2, hp⟩))
      rw [h1] at h2; cases h2
  have hex := exec_putAll hsel ho V1 a hV1
  have hput : ∀ U, putAll ops (a.put o.dst v) (V1 ++ U) = putAll ops a (V1 ++ (i, v) :: U) := by
    intro U
    rw [putAll_append, putAll_append, putAll_cons, put_putAll v V1 a hV1, ho]
    rfl
  refine ⟨o, ho, hy.same hex.1.symm hex.2.symm, ?_, hput V2⟩
  refine ⟨by rw [Array.size_setIfInBounds]; exact h.size, ?_, ?_, ?_, hnd, ?_⟩
  · intro j hj d hdj
    rw [list_set hls] at hj ⊢
    rcases hj with hj | rfl
    · exact .inl (h.closed j hj d hdj)
    · exact .inl (hd d hdj)
  · intro k
    rw [list_set hls, h.mem k]
    simp only [List.map_append, List.map_cons, List.mem_append, List.mem_cons]
    constructor
    · rintro (h' | h' | h' | h')
      · exact .inl (.inl h')
      · exact .inr (.inl h')
      · exact .inl (.inr h')
      · exact .inr (.inr h')
    · rintro ((h' | h') | h' | h')
      · exact .inl h'
      · exact .inr (.inr (.inl h'))
      · exact .inr (.inl h')
      · exact .inr (.inr (.inr h'))
  · intro k hk
    have hne : i ≠ k := by
      rintro rfl
      simp only [List.map_append, List.mem_append] at hk
      exact hk.elim hn1 hn2
    rw [getD_set_ne true hne]
    refine h.fresh k ?_
    simp only [List.map_append, List.map_cons, List.mem_append, List.mem_cons] at hk ⊢
    exact hk.imp id .inr
  · intro U1 k u U2 hU
    -- where in V1 ++ V2 it stands
    rcases List.append_eq_append_iff.1 hU with ⟨W1, h1, h2⟩ | ⟨W1, h1, h2⟩
    · -- U1 = V1 ++ W1, V2 = W1 ++ (k, u) :: U2
      subst h1
      have hsp : V1 ++ (i, v) :: V2 = (V1 ++ (i, v) :: W1) ++ (k, u) :: U2 := by rw [h2]; simp
      obtain ⟨hx, hdk⟩ := h.yields _ k u U2 hsp
      rw [hput W1]
      refine ⟨hx, fun d hdm => ?_⟩
      rw [list_set hls]
      rcases hdk d hdm with h' | h'
      · exact .inl (.inl h')
      · simp only [List.map_append, List.map_cons, List.mem_append, List.mem_cons] at h' ⊢
        rcases h' with h' | h' | h'
        · exact .inr (.inl h')
        · exact .inl (.inr h')
        · exact .inr (.inr h')
    · cases W1 with
      | nil =>
        simp only [List.nil_append, List.append_nil] at h1 h2
        subst h1
        have hsp : V1 ++ (i, v) :: V2 = (V1 ++ [(i, v)]) ++ (k, u) :: U2 := by rw [h2]; simp
        obtain ⟨hx, hdk⟩ := h.yields _ k u U2 hsp
        have := hput []
        rw [List.append_nil] at this
        rw [this]
        refine ⟨hx, fun d hdm => ?_⟩
        rw [list_set hls]
        rcases hdk d hdm with h' | h'
        · exact .inl (.inl h')
        · simp only [List.map_append, List.map_cons, List.map_nil, List.mem_append, List.mem_cons, List.not_mem_nil, or_false] at h' ⊢
          rcases h' with h' | h'
          · exact .inr h'
          · exact .inl (.inr h')
      | cons q W1 =>
        simp only [List.cons_append, List.cons.injEq] at h2
        obtain ⟨rfl, h2⟩ := h2
        have hsp : V1 ++ (i, v) :: V2 = U1 ++ (k, u) :: (W1 ++ (i, v) :: V2) := by rw [h1]; simp
        obtain ⟨⟨x, hx, hyx, hkx⟩, hdk⟩ := h.yields U1 k u _ hsp
        have hkV : k ∈ V1.map Prod.fst := by rw [h1]; simp
        have hU1 : ApartAll ops U1 o := fun p hp => hV1 p (by rw [h1]; simp [hp])
        have hxo : x.apart ops o = true := by
          obtain ⟨x', hx', hap'⟩ := hV1 (k, u) (by rw [h1]; simp)
          rw [hx] at hx'; injection hx' with hx'; subst hx'; exact hap'
        have hw : Went o (putAll ops a U1) (putAll ops (a.put o.dst v) U1) := Went.putAll ⟨v, a.defers, rfl⟩ hU1
        have hwe := hw.exec hsel hx (apart_symm hxo)
        refine ⟨⟨x, hx, hyx.same hwe.1 hwe.2, hkx.imp id fun hy' => hy'.of_same hwe.1 hwe.2⟩, fun d hdm => ?_⟩
        rw [list_set hls]
        exact (hdk d hdm).imp .inl id
/-- What only computes or reads is carried out early. -/
theorem Inv.push {lr : Array Bool} {V : List (Nat × Value)} {i : Nat} {v : Value} {o : Oper} {done : List Nat} {a : Act} {w : World} (h : Inv P ops lr V done a w) (ho : ops[i]? = some o) (hn : i ∉ done) (hd : ∀ d ∈ deps ops i, d ∈ done)
    (hy : YW P ops o v (putAll ops a V) w) (hk : isL o = true ∨ Yields P ops o v (putAll ops a V)) : Inv P ops lr (V ++ [(i, v)]) (i :: done) a w := by
  have hlt := (Array.getElem?_eq_some_iff.1 ho).1
  have hno := fun h' => hn ((h.mem i).2 h')
  refine ⟨h.size, h.closed, ?_, ?_, ?_, ?_⟩
  · intro k
    simp only [List.mem_cons, h.mem k, List.map_append, List.map_cons, List.map_nil, List.mem_append, List.not_mem_nil, or_false]
    constructor
    · rintro (h' | h' | h')
      · exact .inr (.inr h')
      · exact .inl h'
      · exact .inr (.inl h')
    · rintro (h' | h' | h')
      · exact .inr (.inl h')
      · exact .inr (.inr h')
      · exact .inl h'
  · intro k hk'
    simp only [List.map_append, List.map_cons, List.map_nil, List.mem_append, List.mem_cons, List.not_mem_nil, or_false] at hk'
    rcases hk' with hk' | rfl
    · exact h.fresh k hk'
    · refine getD_false_true (by rw [h.size]; exact hlt) ?_
      cases hc : lr.getD k false with
      | false => rfl
      | true => exact absurd (.inl hc) hno
  · simp only [List.map_append, List.map_cons, List.map_nil]
    refine List.nodup_append.2 ⟨h.nodup, by simp, fun x hx y hy' => ?_⟩
    simp only [List.mem_cons, List.not_mem_nil, or_false] at hy'
    subst hy'
    rintro rfl
    exact hno (.inr hx)
  · intro U1 k u U2 hU
    rcases List.append_eq_append_iff.1 hU with ⟨W1, h1, h2⟩ | ⟨W1, h1, h2⟩
    · cases W1 with
      | nil =>
        simp only [List.nil_append, List.cons.injEq, Prod.mk.injEq] at h2
        obtain ⟨⟨rfl, rfl⟩, _⟩ := h2
        rw [List.append_nil] at h1
        subst h1
        exact ⟨⟨o, ho, hy, hk⟩, fun d hdm => (h.mem d).1 (hd d hdm)⟩
      | cons q W1 => simp at h2
    · cases W1 with
      | nil =>
        simp only [List.nil_append, List.cons.injEq, Prod.mk.injEq] at h2
        obtain ⟨⟨rfl, rfl⟩, _⟩ := h2
        rw [List.append_nil] at h1
        subst h1
        exact ⟨⟨o, ho, hy, hk⟩, fun d hdm => (h.mem d).1 (hd d hdm)⟩
      | cons q W1 =>
        simp only [List.cons_append, List.cons.injEq] at h2
        obtain ⟨rfl, h2⟩ := h2
        exact h.yields U1 k u W1 h1
/-- What writes comes up in its turn. -/
theorem Inv.effect (hsel : Region.noSelect ops = true) (hT : tabOk ops A = true) (hap : apartOk ops A = true) (hld : loadsOk ops A = true) {lr : Array Bool} {V : List (Nat × Value)} {j : Nat} {y : Oper} {done keep : List Nat} {a : Act} {w : World}
    (h : Inv P ops lr V done a w) (hj : ops[j]? = some y) (hn : j ∉ done) (hd : ∀ d ∈ deps ops j, lr.getD d false = true)
    (hkeep : ∀ i ∈ done, i ∈ A.getD j [] ∨ i ∈ keep ∨ ∀ o, ops[i]? = some o → isL o = false) :
    ApartAll ops V y ∧ ∀ a' w', Went y a a' → Held P ops keep (putAll ops a V) w w' → Inv P ops (lr.setIfInBounds j true) V (j :: done) a' w' := by
  have hlt := (Array.getElem?_eq_some_iff.1 hj).1
  have hls : j < lr.size := by rw [h.size]; exact hlt
  have hno := fun h' => hn ((h.mem j).2 h')
  have hanc := h.anc_lr hT hlt hd
  have hV : ApartAll ops V y := by
    intro p hp
    obtain ⟨U1, u, U2, hU⟩ := mem_split (V := V) (i := p.1) (List.mem_map.2 ⟨p, hp, rfl⟩)
    obtain ⟨⟨x, hx, _⟩, _⟩ := h.yields U1 p.1 u _ hU
    have hpm : p.1 ∈ V.map Prod.fst := List.mem_map.2 ⟨p, hp, rfl⟩
    refine ⟨x, hx, apart_of hap hx hj (fun e => hno (.inr (e ▸ hpm))) ?_ ?_⟩
    · intro hm
      rcases h.anc_early hT hU j hm with h' | h'
      · exact hno (.inl h')
      · exact hno (.inr (by rw [hU]; simp only [List.map_append, List.mem_append]; exact .inl h'))
    · intro hm
      have h1 := hanc p.1 hm
      have h2 := getD_true_false (h.fresh p.1 hpm)
      rw [h1] at h2; cases h2
  refine ⟨hV, fun a' w' hw hheld => ?_⟩
  refine ⟨by rw [Array.size_setIfInBounds]; exact h.size, ?_, ?_, ?_, h.nodup, ?_⟩
  · intro k hk d hdk
    rw [list_set hls] at hk ⊢
    rcases hk with hk | rfl
    · exact .inl (h.closed k hk d hdk)
    · exact .inl (hd d hdk)
  · intro k
    rw [list_set hls, List.mem_cons, h.mem k]
    constructor
    · rintro (h' | h' | h')
      · exact .inl (.inr h')
      · exact .inl (.inl h')
      · exact .inr h'
    · rintro ((h' | h') | h')
      · exact .inr (.inl h')
      · exact .inl h'
      · exact .inr (.inr h')
  · intro k hk
    have hne : j ≠ k := by rintro rfl; exact hno (.inr hk)
    rw [getD_set_ne true hne]
    exact h.fresh k hk
  · intro U1 k u U2 hU
    obtain ⟨⟨x, hx, hyx, hkx⟩, hdk⟩ := h.yields U1 k u U2 hU
    have hU1 : ApartAll ops U1 y := fun p hp => hV p (by rw [hU]; simp [hp])
    have hxy : x.apart ops y = true := by
      obtain ⟨x', hx', hap'⟩ := hV (k, u) (by rw [hU]; simp)
      rw [hx] at hx'; injection hx' with hx'; subst hx'; exact hap'
    have hwe := (hw.putAll hU1).exec hsel hx (apart_symm hxy)
    have hkfr : lr.getD k false = false := getD_true_false (h.fresh k (by rw [hU]; simp))
    refine ⟨⟨x, hx, ?_, hkx.imp id fun hy' => hy'.of_same hwe.1 hwe.2⟩, fun d hdm => ?_⟩
    · refine YW.same ?_ hwe.1 hwe.2
      rcases hkx with hL | hY
      · -- a load
        have hkk : k ∈ keep := by
          rcases hkeep k ((h.mem k).2 (.inr (by rw [hU]; simp))) with h' | h' | h'
          · have := hanc k h'; rw [hkfr] at this; cases this
          · exact h'
          · have := h' x hx; rw [hL] at this; cases this
        rcases hyx with ⟨hwt, hv⟩ | hyx
        · refine .inl ⟨hwt, ?_⟩
          have hh := hheld.mem k hkk
          unfold Held1 at hh
          rw [hx] at hh
          obtain ⟨dst, op, type, pos, after, guard⟩ := x
          cases op <;> simp [isL] at hL
          rename_i t ad
          dsimp only at hh
          -- what it looks at was not turned by those behind it
          have hlater : ∀ (U : List (Nat × Value)) (b : Act), (∀ p ∈ U, ∀ q, ops[p.1]? = some q → ∀ d, q.dst = some d → d ∉ (Oper.mk dst (Op.load t ad) type pos after guard).looksAt ops) →
              execOp (putAll ops b U).eval (Oper.mk dst (Op.load t ad) type pos after guard) = execOp b.eval (Oper.mk dst (Op.load t ad) type pos after guard) ∧
              Region.wanted (Oper.mk dst (Op.load t ad) type pos after guard) (yielded ops (putAll ops b U).tmps) = Region.wanted (Oper.mk dst (Op.load t ad) type pos after guard) (yielded ops b.tmps) ∧ (putAll ops b U).eval ad = b.eval ad := by
            intro U
            induction U with
            | nil => intro b _; exact ⟨rfl, rfl, rfl⟩
            | cons p U ihU =>
              intro b hb
              rw [putAll_cons]
              obtain ⟨e1, e2, e3⟩ := ihU (b.put ((ops[p.1]?).bind (·.dst)) p.2) (fun q hq => hb q (List.mem_cons_of_mem _ hq))
              have hp : ∀ d, (ops[p.1]?).bind (·.dst) = some d → d ∉ (Oper.mk dst (Op.load t ad) type pos after guard).looksAt ops := by
                intro d hd'
                cases hq : ops[p.1]? with
                | none => rw [hq] at hd'; cases hd'
                | some q => rw [hq] at hd'; exact hb p (List.mem_cons_self ..) q hq d hd'
              refine ⟨e1.trans (execOp_put _ (fun cs b => Region.noSelect_spec hsel k _ cs b hx) b _ p.2 hp), e2.trans (wanted_put _ b _ p.2 hp), e3.trans (Act.eval_put fun d hd' hxd => hp d hd' ?_)⟩
              subst hxd
              simp [Oper.looksAt, Op.operands]
          have hU2 : ∀ p ∈ (k, u) :: U2, ∀ q, ops[p.1]? = some q → ∀ d, q.dst = some d → d ∉ (Oper.mk dst (Op.load t ad) type pos after guard).looksAt ops := by
            intro p hp q hq
            refine loads_of hld hx hq rfl fun hm => ?_
            have hnd := h.nodup
            rw [hU] at hnd
            obtain ⟨hn1, hn2, hnn⟩ := nodup_split hnd
            rcases h.anc_early hT hU p.1 hm with h' | h'
            · have := getD_true_false (h.fresh p.1 (by rw [hU]; simp only [List.map_append, List.mem_append]; exact .inr (List.mem_map.2 ⟨p, hp, rfl⟩)))
              rw [h'] at this; cases this
            · rcases List.mem_cons.1 hp with rfl | hp
              · exact hn1 h'
              · rw [List.map_append] at hnn
                exact (List.nodup_append.1 hnn).2.2 p.1 h' p.1 (List.mem_map.2 ⟨p, hp, rfl⟩) rfl
          obtain ⟨e1, e2, e3⟩ := hlater ((k, u) :: U2) (putAll ops a U1) hU2
          rw [hU, putAll_append, e2, e3] at hh
          have hck := hh hwt
          have hs : segSem (putAll ops a U1).eval (Oper.mk dst (Op.load t ad) type pos after guard) = some (Instr.loadAt t ((putAll ops a U1).eval ad)) := rfl
          rw [execOp_seg hs] at hv ⊢
          obtain ⟨v', w2, h1, h2⟩ := bind_ok hv
          simp at h2
          obtain ⟨rfl, rfl⟩ := h2
          rw [Sem.run_bind, loadAt_kept hck h1]
          rfl
        · exact .inr hyx
      · exact YW.of_yields hY w'
    · rw [list_set hls]
      exact (hdk d hdm).imp .inl id

theorem wpAny_of_plan (hnd0 : noDefer ops = true) (hsel : Region.noSelect ops = true) (hT : tabOk ops A = true) (hap : apartOk ops A = true) (hld : loadsOk ops A = true)
    (hQ : ∀ c a t w, Q (.panic c) { a with tmps := t } w → Q (.panic c) a w) :
    ∀ (fuel : Nat) (plan : List (Nat × Option (List Nat))) (lr : Array Bool) (V : List (Nat × Value)) (done : List Nat) (a : Act) (w : World),
      left lr ≤ fuel → Inv P ops lr V done a w → chk ops A done plan = true → wpPlan ro P ops Q plan (putAll ops a V) w → wpAnyIn (FW ro) 0 P .any ops Q fuel lr a w := by
  intro fuel
  induction fuel with
  | zero =>
    intro plan lr V done a w hf hI hc hp
    have hall : ∀ i, i < ops.size → lr.getD i true = true := by
      intro i hi
      cases h : lr.getD i true with
      | true => rfl
      | false =>
        have := left_set (by rw [hI.size]; exact hi) h
        omega
    have hV : V = [] := by
      cases V with
      | nil => rfl
      | cons p V =>
        have h1 := hI.fresh p.1 (by simp)
        obtain ⟨⟨o, ho, _⟩, _⟩ := hI.yields [] p.1 p.2 V rfl
        rw [hall _ (Array.getElem?_eq_some_iff.1 ho).1] at h1
        cases h1
    subst hV
    have hdone : ∀ i, i < ops.size → i ∈ done := fun i hi => (hI.mem i).2 (.inl (by
      have := hall i hi
      have hi' : i < lr.size := by rw [hI.size]; exact hi
      simp [hi'] at this ⊢; exact this))
    have hplan : plan = [] := by
      cases plan with
      | nil => rfl
      | cons s r =>
        obtain ⟨i, k⟩ := s
        cases k with
        | none =>
          simp only [chk, Bool.and_eq_true, decide_eq_true_eq, Bool.not_eq_true', List.contains_eq_mem, decide_eq_false_iff_not] at hc
          exact absurd (hdone i hc.1.1.1) hc.1.1.2
        | some k =>
          simp only [chk, Bool.and_eq_true, decide_eq_true_eq, Bool.not_eq_true', List.contains_eq_mem, decide_eq_false_iff_not] at hc
          exact absurd (hdone i hc.1.1.1.1.1) hc.1.1.1.1.2
    subst hplan
    refine ⟨?_, hp⟩
    cases hr : Region.ready .any ops lr with
    | nil => rfl
    | cons j l =>
      have hj : j ∈ Region.ready .any ops lr := by rw [hr]; exact List.mem_cons_self ..
      have := ready_iff.1 hj
      rw [hall j this.2.1] at this
      cases this.1
  | succ fuel ih =>
    intro plan
    -- one that was early comes up
    have early : ∀ (plan : List (Nat × Option (List Nat))) (lr : Array Bool) (V : List (Nat × Value)) (done : List Nat) (a : Act) (w : World) (i : Nat), left lr ≤ fuel + 1 → Inv P ops lr V done a w → chk ops A done plan = true →
        wpPlan ro P ops Q plan (putAll ops a V) w → i ∈ Region.ready .any ops lr → i ∈ V.map Prod.fst → wpOpIn (FW ro) 0 P ops Q i (wpAnyIn (FW ro) 0 P .any ops Q fuel (lr.setIfInBounds i true)) a w := by
      intro plan lr V done a w i hf hI hc hp hr hm
      obtain ⟨V1, v, V2, rfl⟩ := mem_split hm
      obtain ⟨h0, hlt, hd⟩ := ready_iff.1 hr
      obtain ⟨o, ho, hy, hI', he⟩ := hI.early hsel hT hap hd
      refine hy.wpOp hnd0 ho ?_
      have hls : i < lr.size := by rw [hI.size]; exact hlt
      have := left_set hls h0
      exact ih plan _ _ done _ w (by omega) hI' hc (by rw [he]; exact hp)
    have none_ready : ∀ (lr : Array Bool) (V : List (Nat × Value)) (done : List Nat) (a : Act) (w : World), Inv P ops lr V done a w → Region.ready .any ops lr = [] → V = [] := by
      intro lr V done a w hI hr
      cases V with
      | nil => rfl
      | cons p V =>
        obtain ⟨⟨o, ho, _⟩, hd⟩ := hI.yields [] p.1 p.2 V rfl
        have : p.1 ∈ Region.ready .any ops lr := ready_iff.2 ⟨hI.fresh p.1 (by simp), (Array.getElem?_eq_some_iff.1 ho).1, fun d hd' => (hd d hd').resolve_right (by simp)⟩
        rw [hr] at this
        cases this
    induction plan with
    | nil =>
      intro lr V done a w hf hI hc hp
      refine ⟨fun hr => ?_, fun i hi => ?_⟩
      · have := none_ready lr V done a w hI hr
        subst this
        exact hp
      · refine early [] lr V done a w i hf hI hc hp hi ?_
        obtain ⟨h0, hlt, hd⟩ := ready_iff.1 hi
        have hdn : i ∈ done := by
          have := List.all_eq_true.1 hc i (List.mem_range.2 hlt)
          simpa using this
        rcases (hI.mem i).1 hdn with h' | h'
        · rw [getD_true_false h0] at h'; cases h'
        · exact h'
    | cons s r ihp =>
      intro lr V done a w hf hI hc hp
      obtain ⟨j, k⟩ := s
      cases k with
      | none =>
        simp only [chk, Bool.and_eq_true, decide_eq_true_eq, Bool.not_eq_true', List.contains_eq_mem, decide_eq_false_iff_not, List.all_eq_true] at hc
        obtain ⟨⟨⟨hlt, hn⟩, hd⟩, hc'⟩ := hc
        obtain ⟨o, v, ho, hy, hk, hp'⟩ := hp
        refine ihp lr (V ++ [(j, v)]) (j :: done) a w hf (hI.push ho hn (fun d hdm => by simpa using hd d hdm) hy hk) hc' ?_
        rw [putAll_append, putAll_cons, ho]
        exact hp'
      | some keep =>
        have hc0 := hc
        simp only [chk, Bool.and_eq_true, decide_eq_true_eq, Bool.not_eq_true', List.contains_eq_mem, decide_eq_false_iff_not, List.all_eq_true, List.mem_range, Bool.or_eq_true, beq_iff_eq] at hc
        obtain ⟨⟨⟨⟨⟨hlt, hn⟩, hd⟩, honly⟩, hkeep⟩, hc'⟩ := hc
        have hjs : ops[j]? = some ops[j] := Array.getElem?_eq_some_iff.2 ⟨hlt, rfl⟩
        refine ⟨fun hr => ?_, fun i hi => ?_⟩
        · have hV := none_ready lr V done a w hI hr
          subst hV
          have : j ∈ Region.ready .any ops lr := ready_iff.2 ⟨getD_false_true (by rw [hI.size]; exact hlt) (by
            cases hc : lr.getD j false with
            | false => rfl
            | true => exact absurd ((hI.mem j).2 (.inl hc)) hn), hlt, fun d hdm => by
              have : d ∈ done := by simpa using hd d hdm
              exact ((hI.mem d).1 this).resolve_right (by simp)⟩
          rw [hr] at this
          cases this
        · obtain ⟨h0, hlti, hdi⟩ := ready_iff.1 hi
          by_cases hm : i ∈ V.map Prod.fst
          · exact early _ lr V done a w i hf hI hc0 hp hi hm
          · have hnd : i ∉ done := by
              intro hid
              rcases (hI.mem i).1 hid with h' | h'
              · rw [getD_true_false h0] at h'; cases h'
              · exact hm h'
            obtain rfl : i = j := by
              rcases honly i hlti with (h' | h') | h'
              · exact h'
              · exact absurd h' hnd
              · exfalso
                have : (deps ops i).all done.contains = true := List.all_eq_true.2 fun d hdm => by
                  have : d ∈ done := (hI.mem d).2 (.inl (hdi d hdm))
                  simpa using this
                rw [this] at h'; cases h'
            obtain ⟨hV, hnext⟩ := hI.effect hsel hT hap hld (keep := keep) hjs hnd hdi (fun k hk => by
              rcases hkeep k hk with (h' | h') | h'
              · exact .inl h'
              · exact .inr (.inl h')
              · refine .inr (.inr fun o ho => ?_)
                rw [ho] at h'
                simpa using h')
            have hls : i < lr.size := by rw [hI.size]; exact hlti
            have hleft := left_set hls h0
            have h1 := wpOp_went hnd0 hsel hQ hjs V a hV hp
            refine wpOpIn_mono ?_ h1
            rintro a' w' ⟨hw, hheld, hp'⟩
            exact ih r _ V (i :: done) a' w' (by omega) (hnext a' w' hw hheld) hc' hp'
end

/-! ### 6. The walk's side: stretches in the walk's own list form -/
section
variable {P : Program} {ro : Option Nat} {ops : Array Oper} {Q : Exit → Act → World → Prop}
def segKind (o : Oper) : Bool := match o.op with
  | .move _ | .assign _ | .pick .. | .build .. | .load .. | .nilCheck _ | .binOp .. | .unOp .. | .convert .. | .makeInterface .. | .makeFunc .. | .slice .. | .fieldAddr .. | .field .. | .indexAddr .. | .index .. | .extract .. => true
  | .call { callee := .builtin .len, .. } | .call { callee := .builtin .cap, .. } | .call { callee := .builtin .min, .. } | .call { callee := .builtin .max, .. } => true
  | _ => false
def segPost (K : Act → World → Prop) : Exit → Act → World → Prop
  | .normal, a, w => K a w
  | _, _, _ => False
def effPost (Q : Exit → Act → World → Prop) (K : Act → World → Prop) : Exit → Act → World → Prop
  | .normal, a, w => K a w
  | e, a, w => Q e a w
def Tr (P : Program) (ops : Array Oper) : List Oper → Act → World → Act → World → Prop
  | [], a, w, a', w' => a' = a ∧ w' = w
  | o :: l, a, w, a', w' => ∃ v w1, ((Region.wanted o (yielded ops a.tmps) = true ∧ (execOp a.eval o).run P w = .ok (.value v) w1) ∨ (Region.wanted o (yielded ops a.tmps) = false ∧ v = undef ∧ w1 = w)) ∧ Tr P ops l (a.put o.dst v) w1 a' w'
theorem seg_value {o : Oper} (hk : segKind o = true) {ρ : Operand → Value} {w w1 : World} {n : Next} (e : (execOp ρ o).run P w = .ok n w1) : ∃ v, n = .value v := by
  cases hs : segSem ρ o with
  | some s =>
    rw [execOp_seg hs] at e
    obtain ⟨v, w2, _, e2⟩ := bind_ok e
    simp at e2
    exact ⟨v, e2.1.symm⟩
  | none =>
    obtain ⟨dst, op, type, pos, after, guard⟩ := o
    cases op <;> simp [segKind] at hk <;> simp [segSem] at hs
    case nilCheck x =>
      simp only [execOp] at e
      split at e
      · exact absurd e (nok_runtimePanic _ _ _ _ _)
      · exact absurd e (nok_runtimePanic _ _ _ _ _)
      · exact absurd e (nok_runtimePanic _ _ _ _ _)
      · split at e
        · exact absurd e (nok_runtimePanic _ _ _ _ _)
        · obtain ⟨p, w2, _, e2⟩ := bind_ok e
          obtain ⟨b, w3, _, e3⟩ := bind_ok e2
          split at e3
          · exact absurd e3 (NOk.bind_left (nok_unsupported _) _ _ _ _)
          · simp at e3; exact ⟨_, e3.1.symm⟩
        · simp at e; exact ⟨_, e.1.symm⟩
      · simp at e; exact ⟨_, e.1.symm⟩
    case call c =>
      obtain ⟨callee, args, argTypes⟩ := c
      cases callee with
      | builtin b => cases b <;> first | (cases hk; done) | (cases hs; done)
      | _ => cases hk
def wpL (ro : Option Nat) (P : Program) (ops : Array Oper) (Q : Exit → Act → World → Prop) : List Oper → Act → World → Prop
  | [], a, w => Q .normal a w
  | o :: rest, a, w => if Region.wanted o (yielded ops a.tmps) then o.uponIn (FW ro) 0 P a (wpL ro P ops Q rest) Q ((execOp a.eval o).run P w) else wpL ro P ops Q rest (a.put o.dst undef) w
theorem tr_of_wpList {K : Act → World → Prop} : ∀ (l : List Oper) (a : Act) (w : World), (∀ o ∈ l, segKind o = true) → wpL ro P ops (segPost K) l a w → ∃ a' w', Tr P ops l a w a' w' ∧ K a' w'
  | [], a, w, _, h => ⟨a, w, ⟨rfl, rfl⟩, h⟩
  | o :: l, a, w, hk, h => by
    have hk1 := hk o (List.mem_cons_self ..)
    have hkl := fun x hx => hk x (List.mem_cons_of_mem o hx)
    unfold wpL at h
    split at h
    · rename_i hw
      cases hr : (execOp a.eval o).run P w with
      | ok n w1 =>
        rw [hr] at h
        obtain ⟨v, rfl⟩ := seg_value hk1 hr
        simp only [Oper.uponIn] at h
        obtain ⟨a', w', ht, hK⟩ := tr_of_wpList l _ _ hkl h
        exact ⟨a', w', ⟨v, w1, .inl ⟨hw, hr⟩, ht⟩, hK⟩
      | halt x w1 =>
        rw [hr] at h
        cases x <;> simp only [Oper.uponIn] at h
        exact h.elim
    · rename_i hw
      obtain ⟨a', w', ht, hK⟩ := tr_of_wpList l _ _ hkl h
      exact ⟨a', w', ⟨undef, w, .inr ⟨by simpa using hw, rfl, rfl⟩, ht⟩, hK⟩
theorem tr_eval : ∀ (l : List Oper) (a : Act) (w : World) (a' : Act) (w' : World), Tr P ops l a w a' w' → ∀ x : Operand, (∀ o ∈ l, ∀ d, o.dst = some d → x ≠ .tmp d) → a'.eval x = a.eval x
  | [], a, w, a', w', h, x, _ => by rw [h.1]
  | o :: l, a, w, a', w', h, x, hx => by
    obtain ⟨v, w1, _, ht⟩ := h
    rw [tr_eval l _ _ _ _ ht x (fun p hp => hx p (List.mem_cons_of_mem _ hp))]
    exact Act.eval_put fun d hd => hx o (List.mem_cons_self ..) d hd
theorem okP_congr {ρ ρ' : Operand → Value} {o : Oper} (h : ∀ x : Operand, (∀ t, x = .tmp t → t ∈ asks o) → ρ x = ρ' x) : okP P ρ o = okP P ρ' o := by
  obtain ⟨dst, op, type, pos, after, guard⟩ := o
  have tmem : ∀ (l : List Operand) (x : Operand), x ∈ l → ∀ t, x = .tmp t → t ∈ l.filterMap fun | .tmp t => some t | _ => none := by
    intro l x hx t ht
    subst ht
    exact List.mem_filterMap.2 ⟨_, hx, rfl⟩
  cases op <;> try rfl
  case nilCheck x => simp only [okP]; rw [h x (tmem [x] x (by simp))]
  case binOp op t x y yt => simp only [okP]; rw [h x (tmem [x, y] x (by simp)), h y (tmem [x, y] y (by simp))]
  case convert s d x => simp only [okP]; rw [h x (tmem [x] x (by simp))]
  case call c =>
    obtain ⟨callee, args, argTypes⟩ := c
    cases callee <;> try rfl
    rename_i b
    have hargs : ∀ f : Value → Bool, (args.all fun x => f (ρ x)) = (args.all fun x => f (ρ' x)) := by
      intro f
      rw [Bool.eq_iff_iff]
      simp only [Array.all_eq_true_iff_forall_mem]
      have : ∀ x ∈ args, ρ x = ρ' x := fun x hx => h x (fun t ht => by
        show t ∈ args.toList.filterMap _
        exact tmem args.toList x (Array.mem_toList_iff.2 hx) t ht)
      exact ⟨fun hh x hx => by rw [← this x hx]; exact hh x hx, fun hh x hx => by rw [this x hx]; exact hh x hx⟩
    cases b <;> try rfl
    · exact hargs _
    · exact hargs _
    · exact hargs _
    · exact hargs _
theorem okP_some {ρ : Operand → Value} {o : Oper} (h : okP P ρ o = true) : ∃ s, segSem ρ o = some s := by
  obtain ⟨dst, op, type, pos, after, guard⟩ := o
  cases op <;> simp [okP] at h <;> try exact ⟨_, rfl⟩
  case nilCheck x =>
    simp only [segSem]
    split at h
    · rename_i hx; rw [hx]; exact ⟨_, rfl⟩
    · rename_i hx; rw [hx]; exact ⟨_, rfl⟩
    · cases h
  case call c =>
    obtain ⟨callee, args, argTypes⟩ := c
    cases callee with
    | builtin b => cases b <;> first | (cases h; done) | exact ⟨_, rfl⟩
    | _ => cases h
/-- An operation's guard: its slot stays as it is. -/
def gKeep (ops : Array Oper) (l : List Oper) (o : Oper) : Bool := match o.guard with
  | none => true
  | some (j, _) => match (ops[j]?).bind (·.dst) with
    | none => true
    | some t => l.all fun p => p.dst != some t
/-- An operation that its guard leaves out. -/
def offE (ops : Array Oper) (ρ : Operand → Value) (o : Oper) : Bool := match o.guard with
  | none => false
  | some (j, want) => match (ops[j]?).bind (·.dst) with
    | none => false
    | some t => match ρ (.tmp t) with
      | .bool b => b != want
      | _ => true
theorem offE_spec {a : Act} {o : Oper} (h : offE ops a.eval o = true) : Region.wanted o (yielded ops a.tmps) = false := by
  unfold offE at h
  unfold Region.wanted
  cases hg : o.guard with
  | none => rw [hg] at h; cases h
  | some jw =>
    obtain ⟨j, want⟩ := jw
    rw [hg] at h
    simp only at h ⊢
    unfold yielded
    cases hd : (ops[j]?).bind (·.dst) with
    | none => rw [hd] at h; cases h
    | some t =>
      rw [hd] at h
      simp only [Act.eval, Array.getD_eq_getD_getElem?, Option.bind_some] at h ⊢
      cases ht : a.tmps[t]? with
      | none => simp
      | some v =>
        rw [ht] at h
        simp only [Option.getD_some] at h
        cases v <;> simp_all
theorem offE_congr {ρ ρ' : Operand → Value} {o : Oper} (h : ∀ j w t, o.guard = some (j, w) → (ops[j]?).bind (·.dst) = some t → ρ (.tmp t) = ρ' (.tmp t)) : offE ops ρ o = offE ops ρ' o := by
  unfold offE
  cases hg : o.guard with
  | none => rfl
  | some jw =>
    obtain ⟨j, want⟩ := jw
    simp only
    cases hd : (ops[j]?).bind (·.dst) with
    | none => rfl
    | some t => simp only; rw [h j want t hg hd]
/-- A stretch: its operations' numbers, themselves; what it computes by lies in temporaries that it doesn't turn again. -/
def segOk (ops : Array Oper) : List Nat → List Oper → Bool
  | [], [] => true
  | i :: s, o :: l => (match ops[i]? with | some _ => true | none => false) && (segKind o && gKeep ops (o :: l) o) && ((asks o).all fun t => (o :: l).all fun p => p.dst != some t) && segOk ops s l
  | _, _ => false
def SegAt (ops : Array Oper) : List Nat → List Oper → Prop
  | [], [] => True
  | i :: s, o :: l => ops[i]? = some o ∧ SegAt ops s l
  | _, _ => False
def segChk (P : Program) (ops : Array Oper) (a : Act) (l : List Oper) : Bool := l.all fun o => isL o || okP P a.eval o || offE ops a.eval o
theorem plan_of_tr {rest : List (Nat × Option (List Nat))} : ∀ (s : List Nat) (l : List Oper) (a : Act) (w : World) (a' : Act) (w' : World), segOk ops s l = true → SegAt ops s l → Tr P ops l a w a' w' → segChk P ops a' l = true →
    wpPlan ro P ops Q rest a' w' → wpPlan ro P ops Q (s.map (·, none) ++ rest) a w
  | [], [], a, w, a', w', _, _, h, _, hr => by
    obtain ⟨rfl, rfl⟩ := h
    exact hr
  | i :: s, o :: l, a, w, a', w', hk, hs, h, hc, hr => by
    simp only [segOk, Bool.and_eq_true] at hk
    obtain ⟨⟨⟨_, ⟨hkind, hgk⟩⟩, hasks⟩, hkl⟩ := hk
    obtain ⟨ho, hsl⟩ := hs
    have hwhole := h
    obtain ⟨v, w1, hv, ht⟩ := h
    simp only [segChk, List.all_cons, Bool.and_eq_true] at hc
    obtain ⟨hco, hcl⟩ := hc
    have hoff : offE ops a'.eval o = true → Region.wanted o (yielded ops a.tmps) = false := by
      intro h1
      refine offE_spec ?_
      rw [← h1]
      refine offE_congr fun j w t hg hd => ?_
      refine (tr_eval (o :: l) a _ a' w' hwhole (.tmp t) fun p hp d hd' hxd => ?_).symm
      unfold gKeep at hgk
      rw [hg] at hgk
      simp only [hd] at hgk
      have h2 := List.all_eq_true.1 hgk p hp
      injection hxd with hxd
      subst hxd
      rw [hd'] at h2
      simp at h2
    have hok : isL o = true ∨ okP P a.eval o = true ∨ Region.wanted o (yielded ops a.tmps) = false := by
      rcases Bool.or_eq_true_iff.1 hco with h1 | h1
      · rcases Bool.or_eq_true_iff.1 h1 with h1 | h1
        · exact .inl h1
        refine .inr (.inl ?_)
        rw [← okP_congr (ρ := a'.eval)]
        · exact h1
        · intro x hx
          refine tr_eval (o :: l) a w a' w' hwhole x fun p hp d hd hxd => ?_
          have h2 := List.all_eq_true.1 (List.all_eq_true.1 hasks d (hx d hxd)) p hp
          rw [hd] at h2
          simp at h2
      · exact .inr (.inr (hoff h1))
    have hw1 : w1 = w := by
      rcases hv with ⟨hww, hv⟩ | ⟨_, _, h1⟩
      · rcases hok with hL | hP | hO
        · obtain ⟨dst, op, type, pos, after, guard⟩ := o
          cases op <;> simp only [isL] at hL <;> try cases hL
          rename_i t x
          have hs : segSem a.eval (Oper.mk dst (Op.load t x) type pos after guard) = some (Instr.loadAt t (a.eval x)) := rfl
          rw [execOp_seg hs] at hv
          obtain ⟨v', w2, h1, h2⟩ := bind_ok hv
          have := sr_loadAt _ _ P w w2 v' h1
          simp at h2
          rw [← h2.2, this]
        · obtain ⟨s', hs'⟩ := okP_some hP
          rw [execOp_seg hs'] at hv
          obtain ⟨v', w2, h1, h2⟩ := bind_ok hv
          have := (okP_sq hP hs' w w2 v' h1).1
          simp at h2
          rw [← h2.2, this]
        · rw [hO] at hww; cases hww
      · exact h1
    subst hw1
    refine ⟨o, v, ho, hv.imp id (fun h => ⟨h.1, h.2.1⟩), ?_, plan_of_tr s l _ _ a' w' hkl hsl ht hcl hr⟩
    rcases hok with hL | hPO
    · exact .inl hL
    · refine .inr ?_
      rcases hv with ⟨hw, hv⟩ | ⟨hw, h1, _⟩
      · rcases hPO with hP | hO
        case inr => rw [hO] at hw; cases hw
        refine .inl ⟨hw, fun w2 => ?_⟩
        obtain ⟨s', hs'⟩ := okP_some hP
        rw [execOp_seg hs'] at hv ⊢
        obtain ⟨v', w3, h1, h2⟩ := bind_ok hv
        have h3 := (okP_sq hP hs' _ w3 v' h1).2 w2
        simp at h2
        rw [Sem.run_bind, h3, ← h2.1]
        rfl
      · exact .inr ⟨hw, h1⟩
  | [], _ :: _, _, _, _, _, hk, _, _, _, _ => by simp [segOk] at hk
  | _ :: _, [], _, _, _, _, hk, _, _, _, _ => by simp [segOk] at hk
theorem wpOp_of_list (hnd : noDefer ops = true) {j : Nat} {o : Oper} (ho : ops[j]? = some o) {K : Act → World → Prop} {a : Act} {w : World} (h : wpL ro P ops (effPost Q K) [o] a w) : wpOpIn (FW ro) 0 P ops Q j K a w := by
  unfold wpOpIn
  simp only [ho]
  unfold wpL at h
  split at h
  · rename_i hw
    rw [if_pos hw]
    unfold Oper.wpIn
    refine ⟨fun _ _ => trivial, ?_⟩
    rw [noDefer_spec hnd ho]
    generalize (execOp a.eval o).run P w = rs at *
    cases rs with
    | ok n w' =>
      cases n <;> simp only [Oper.uponIn] at h ⊢ <;> first
        | exact h
        | exact ⟨h.1, CallsIn.mono h.2 (fun e w'' he => by cases e <;> exact he)⟩
        | exact ⟨h.1, RowsIn.mono h.2 (fun _ _ he => he)⟩
        | exact ⟨h.1, RoundIn.mono h.2 (fun e w'' he => by cases e <;> exact he)⟩
    | halt x w' => cases x <;> simp only [Oper.uponIn] at h ⊢ <;> exact h
  · rename_i hw
    rw [if_neg hw]
    exact ⟨fun _ _ => trivial, h⟩

/-- The plan, stretch by stretch: the stretch's numbers; behind it one that writes, and the loads that are kept over it. -/
abbrev Plan := List (List Nat × Option (Nat × List Nat))
def flat : Plan → List (Nat × Option (List Nat))
  | [] => []
  | (s, none) :: r => s.map (·, none) ++ flat r
  | (s, some (j, keep)) :: r => s.map (·, none) ++ (j, some keep) :: flat r
/-- The operation with a number. -/
def nth : List Oper → Nat → Oper
  | [], _ => default
  | o :: _, 0 => o
  | _ :: l, i + 1 => nth l i
def pickAll (l : List Oper) : List Nat → List Oper
  | [] => []
  | i :: s => nth l i :: pickAll l s
def segsOk (l : List Oper) : Plan → Bool
  | [] => true
  | (s, none) :: r => segOk l.toArray s (pickAll l s) && segsOk l r
  | (s, some _) :: r => segOk l.toArray s (pickAll l s) && segsOk l r
def planOk (l : List Oper) (A : List (List Nat)) (p : Plan) : Bool :=
  noDefer l.toArray && Region.noSelect l.toArray && tabOk l.toArray A && apartOk l.toArray A && loadsOk l.toArray A && chk l.toArray A [] (flat p) && segsOk l p
def wpSegs (ro : Option Nat) (P : Program) (l : List Oper) (Q : Exit → Act → World → Prop) : Plan → Act → World → Prop
  | [], a, w => Q .normal a w
  | (s, none) :: r, a, w => wpL ro P l.toArray (segPost fun a' w' => segChk P l.toArray a' (pickAll l s) = true ∧ wpSegs ro P l Q r a' w') (pickAll l s) a w
  | (s, some (j, keep)) :: r, a, w => wpL ro P l.toArray (segPost fun a' w' => segChk P l.toArray a' (pickAll l s) = true ∧
      wpL ro P l.toArray (effPost Q fun a'' w'' => Held P l.toArray keep a' w' w'' ∧ wpSegs ro P l Q r a'' w'') [nth l j] a' w') (pickAll l s) a w
theorem nth_some : ∀ (l : List Oper) (i : Nat), i < l.length → l[i]? = some (nth l i)
  | [], i, h => by simp at h
  | o :: l, 0, _ => rfl
  | o :: l, i + 1, h => by simp only [List.getElem?_cons_succ, nth]; exact nth_some l i (by simpa using h)
theorem segAt_of {l : List Oper} : ∀ s : List Nat, segOk l.toArray s (pickAll l s) = true → SegAt l.toArray s (pickAll l s)
  | [], _ => trivial
  | i :: s, h => by
    simp only [pickAll, segOk, Bool.and_eq_true] at h
    refine ⟨?_, segAt_of s h.2⟩
    have h1 := h.1.1.1
    split at h1
    · rename_i o ho
      have : i < l.length := by
        have := (Array.getElem?_eq_some_iff.1 ho).1
        simpa using this
      simp only [List.getElem?_toArray]
      exact nth_some l i this
    · cases h1
theorem segKinds_of {l : List Oper} : ∀ s : List Nat, segOk l.toArray s (pickAll l s) = true → ∀ o ∈ pickAll l s, segKind o = true
  | [], _, o, ho => by cases ho
  | i :: s, h, o, ho => by
    simp only [pickAll, segOk, Bool.and_eq_true] at h
    rcases List.mem_cons.1 ho with rfl | ho
    · exact h.1.1.2.1
    · exact segKinds_of s h.2 o ho
theorem plan_of_segs {l : List Oper} (hnd : noDefer l.toArray = true) {A : List (List Nat)} : ∀ (p : Plan) (done : List Nat) (a : Act) (w : World), segsOk l p = true → chk l.toArray A done (flat p) = true → wpSegs ro P l Q p a w → wpPlan ro P l.toArray Q (flat p) a w
  | [], _, _, _, _, _, h => h
  | (s, none) :: r, done, a, w, hk, hc, h => by
    simp only [segsOk, Bool.and_eq_true] at hk
    obtain ⟨a', w', ht, hc1, hn⟩ := tr_of_wpList _ _ _ (segKinds_of s hk.1) h
    have hcr : ∃ d', chk l.toArray A d' (flat r) = true := by
      clear h ht
      simp only [flat] at hc
      generalize flat r = fr at hc
      clear hk hn hc1
      induction s generalizing done with
      | nil => exact ⟨_, hc⟩
      | cons i s ih =>
        simp only [List.map_cons, List.cons_append, chk, Bool.and_eq_true] at hc
        exact ih _ hc.2
    obtain ⟨d', hc'⟩ := hcr
    exact plan_of_tr s _ a w a' w' hk.1 (segAt_of s hk.1) ht hc1 (plan_of_segs hnd r d' a' w' hk.2 hc' hn)
  | (s, some (j, keep)) :: r, done, a, w, hk, hc, h => by
    simp only [segsOk, Bool.and_eq_true] at hk
    obtain ⟨a', w', ht, hc1, hn⟩ := tr_of_wpList _ _ _ (segKinds_of s hk.1) h
    have hcr : ∃ d', chk l.toArray A d' ((j, some keep) :: flat r) = true := by
      clear h ht
      simp only [flat] at hc
      generalize flat r = fr at hc ⊢
      clear hk hn hc1
      induction s generalizing done with
      | nil => exact ⟨_, hc⟩
      | cons i s ih =>
        simp only [List.map_cons, List.cons_append, chk, Bool.and_eq_true] at hc
        exact ih _ hc.2
    obtain ⟨d', hc'⟩ := hcr
    have hlt : j < l.length := by
      simp only [chk, Bool.and_eq_true, decide_eq_true_eq] at hc'
      simpa using hc'.1.1.1.1.1
    have hcr : chk l.toArray A (j :: d') (flat r) = true := by
      simp only [chk, Bool.and_eq_true] at hc'
      exact hc'.2
    refine plan_of_tr s _ a w a' w' hk.1 (segAt_of s hk.1) ht hc1 ?_
    have hj : l.toArray[j]? = some (nth l j) := by simp only [List.getElem?_toArray]; exact nth_some l j hlt
    refine wpOpIn_mono ?_ (wpOp_of_list hnd hj hn)
    rintro a'' w'' ⟨h1, h2⟩
    exact ⟨h1, plan_of_segs hnd r _ a'' w'' hk.2 hcr h2⟩
/-- A region that draws its order, by a plan. -/
theorem wp_region_plan {l : List Oper} {id : Nat} {a : Act} {w : World} (A : List (List Nat)) (p : Plan) (hm : P.follows .mixedOrders = true) (hok : planOk l A p = true)
    (hQ : ∀ c a t w, Q (.panic c) { a with tmps := t } w → Q (.panic c) a w) (h : wpSegs ro P l Q p a w.drew) : (Code.region id l.toArray true).wpIn (FW ro) 0 P Q a w := by
  simp only [planOk, Bool.and_eq_true] at hok
  obtain ⟨⟨⟨⟨⟨⟨h0, h1⟩, h2⟩, h3⟩, h4⟩, h5⟩, h6⟩ := hok
  refine wpIn_region_any hm ?_
  refine wpAny_of_plan h0 h1 h2 h3 h4 hQ _ (flat p) _ [] [] a w.drew ?_ ?_ h5 (plan_of_segs h0 p [] a w.drew h6 h5 h)
  · unfold left
    refine Nat.le_trans (List.length_filter_le _ _) ?_
    simp
  · have hrep : ∀ i, (Array.replicate l.toArray.size false).getD i false = false := by
      intro i
      rw [Array.getD_eq_getD_getElem?, Array.getElem?_replicate]
      split <;> rfl
    refine ⟨by simp, ?_, ?_, ?_, by simp, ?_⟩
    · intro j hj
      rw [hrep] at hj
      cases hj
    · intro i
      rw [hrep]
      simp
    · intro i hi
      cases hi
    · intro V1 i v V2 hV
      cases V1 <;> cases hV
/-- A region that draws no order. -/
theorem wpL_of_ops {l : List Oper} (hnd : noDefer l.toArray = true) : ∀ (k : List Oper) (i : Nat) (a : Act) (w : World), (∀ j, k[j]? = l[i + j]?) → wpL ro P l.toArray Q k a w → wpOpsIn (FW ro) 0 P l.toArray Q (List.range' i k.length) a w
  | [], i, a, w, _, h => h
  | o :: k, i, a, w, hk, h => by
    have h0 : l[i]? = some o := by have := hk 0; simpa using this.symm
    have hk' : ∀ j, k[j]? = l[i + 1 + j]? := fun j => by have := hk (j + 1); simpa [Nat.add_assoc, Nat.add_comm 1 j] using this
    simp only [List.length_cons, List.range'_succ, wpOpsIn, List.getElem?_toArray, h0]
    unfold wpL at h
    split
    · rename_i hw
      rw [if_pos hw] at h
      refine ⟨fun _ _ => trivial, ?_⟩
      rw [noDefer_spec hnd (j := i) (by simpa using h0)]
      generalize (execOp a.eval o).run P w = rs at *
      have ih := wpL_of_ops hnd k (i + 1)
      cases rs with
      | ok n w' =>
        cases n <;> simp only [Oper.uponIn] at h ⊢ <;> first
          | exact ih _ _ hk' h
          | exact h
          | exact ⟨h.1, CallsIn.mono h.2 (fun e w'' he => by cases e <;> first | exact ih _ _ hk' he | exact he)⟩
          | exact ⟨h.1, RowsIn.mono h.2 (fun _ _ he => ih _ _ hk' he)⟩
          | exact ⟨h.1, RoundIn.mono h.2 (fun e w'' he => by cases e <;> first | exact ih _ _ hk' he | exact he)⟩
      | halt x w' => cases x <;> simp only [Oper.uponIn] at h ⊢ <;> exact h
    · rename_i hw
      rw [if_neg hw] at h
      exact ⟨fun _ _ => trivial, wpL_of_ops hnd k (i + 1) _ _ hk' h⟩
theorem wp_region_text {l : List Oper} {id : Nat} {a : Act} {w : World} (hnd : noDefer l.toArray = true) (h : wpL ro P l.toArray Q l a w) : (Code.region id l.toArray false).wpIn (FW ro) 0 P Q a w :=
  wpIn_region (by
    rw [List.range_eq_range']
    have := wpL_of_ops hnd l 0 a w (fun j => by simp) h
    simpa using this)
end
end Go.Plan
