/- Joined texts: Run, Ta, Unr, Agg, Tb, TabP, BksW, TabF, Tc, Td, Del, TabD. -/
import Derived.Test.YtalhmegjomfbaaaProg
import Derived.LoopNIn
import Derived.Laws.StructEq
import Derived.Deep.DeepAppendRoom
import Derived.Test.YtalhmegjomfbaaaMq1
section
namespace Go.V
open Go.Plan (FW wpL)
open Go.RowKit Go.Base
set_option linter.unusedVariables false
set_option linter.unusedSimpArgs false

theorem t_same (x : Int) : Value.bool (x == x) = .bool true := by simp
theorem t_nsame (x : Int) : Value.bool (x != x) = .bool false := by simp
theorem t_ssame (x : ByteArray) : Value.bool (x.toList == x.toList) = .bool true := by simp
abbrev Env := List (Nat × Value)
def lk : Env → Nat → Option Value
  | [], _ => none
  | (k, v) :: l, t => bif Nat.beq k t then some v else lk l t
def Ev (a : Act) (R : Env) : Prop := ∀ t v, lk R t = some v → a.eval (.tmp t) = v
structure En (n : Nat) (ds : List Deferred) (a : Act) (R : Env) : Prop where
  sd : Sd n ds a
  ev : Ev a R
section
variable {n : Nat} {ds : List Deferred} {a : Act} {R : Env}
theorem En.e (h : En n ds a R) {t : Nat} {v : Value} (hk : lk R t = some v := by kernel_rfl) : a.eval (.tmp t) = v := h.ev t v hk
theorem lk_cons_ne {k t : Nat} {v : Value} (h : Nat.beq k t = false) : lk ((k, v) :: R) t = lk R t := by simp [lk, h]
theorem lk_cons_eq {t : Nat} {v : Value} : lk ((t, v) :: R) t = some v := by simp [lk]
theorem Ev.put (h : Ev a R) {d : Nat} (hd : d < a.tmps.size) (v : Value) : Ev (a.put (some d) v) ((d, v) :: R) := by
  intro t u hu
  cases hk : Nat.beq d t with
  | true =>
    have := Nat.eq_of_beq_eq_true hk
    subst this
    rw [lk_cons_eq] at hu
    injection hu with hu
    subst hu
    simp [Act.eval, Act.put, hd]
  | false =>
    rw [lk_cons_ne hk] at hu
    exact at_other hk _ (h t u hu)
theorem En.put (h : En n ds a R) {d : Nat} (hd : Nat.ble (d + 1) n = true) (v : Value) : En n ds (a.put (some d) v) ((d, v) :: R) :=
  ⟨h.sd.put _ _, h.ev.put (by rw [h.sd.size]; exact Nat.le_of_ble_eq_true hd) v⟩
theorem En.kt (h : En n ds a R) (t : Nat) {p : Prop} [Decidable p] (hp : p) (hk : lk R t = some (.bool (decide p)) := by kernel_rfl) : En n ds a ((t, .bool true) :: R) :=
  ⟨h.sd, fun u v hu => by
    cases hb : Nat.beq t u with
    | true =>
      have := Nat.eq_of_beq_eq_true hb
      subst this
      rw [lk_cons_eq] at hu
      injection hu with hu
      rw [← hu, h.ev _ _ hk, decide_eq_true hp]
    | false => rw [lk_cons_ne hb] at hu; exact h.ev _ _ hu⟩
theorem En.kf (h : En n ds a R) (t : Nat) {p : Prop} [Decidable p] (hp : ¬ p) (hk : lk R t = some (.bool (decide p)) := by kernel_rfl) : En n ds a ((t, .bool false) :: R) :=
  ⟨h.sd, fun u v hu => by
    cases hb : Nat.beq t u with
    | true =>
      have := Nat.eq_of_beq_eq_true hb
      subst this
      rw [lk_cons_eq] at hu
      injection hu with hu
      rw [← hu, h.ev _ _ hk, decide_eq_false hp]
    | false => rw [lk_cons_ne hb] at hu; exact h.ev _ _ hu⟩
/-- Another word for a value. -/
theorem En.eq (h : En n ds a R) (t : Nat) {v u : Value} (hvu : v = u) (hk : lk R t = some v := by kernel_rfl) : En n ds a ((t, u) :: R) :=
  ⟨h.sd, fun s x hu => by
    cases hb : Nat.beq t s with
    | true =>
      have := Nat.eq_of_beq_eq_true hb
      subst this
      rw [lk_cons_eq] at hu
      injection hu with hu
      rw [← hu, h.ev _ _ hk, hvu]
    | false => rw [lk_cons_ne hb] at hu; exact h.ev _ _ hu⟩
theorem lk_mem : ∀ {R : Env} {t : Nat} {v : Value}, lk R t = some v → (t, v) ∈ R
  | [], _, _, h => by simp [lk] at h
  | (k, u) :: l, t, v, h => by
    simp only [lk] at h
    cases hk : Nat.beq k t with
    | true =>
      rw [hk] at h
      have := Nat.eq_of_beq_eq_true hk
      subst this
      simp only [cond_true, Option.some.injEq] at h
      subst h
      exact List.mem_cons_self ..
    | false =>
      rw [hk] at h
      exact List.mem_cons_of_mem _ (lk_mem h)
/-- All that is needed, and no more. -/
theorem En.only (h : En n ds a R) (W : Env) (hk : W.map (fun p => lk R p.1) = W.map (fun p => some p.2) := by kernel_rfl) : En n ds a W :=
  ⟨h.sd, fun t v hv => by
    have hm := lk_mem hv
    refine h.ev t v ?_
    have := List.map_inj_left.1 hk (t, v) hm
    exact this⟩
theorem En.nil (h : Sd n ds a) : En n ds a [] := ⟨h, fun t v hv => by simp [lk] at hv⟩
theorem En.add (h : En n ds a R) {t : Nat} {v : Value} (hv : a.eval (.tmp t) = v) : En n ds a ((t, v) :: R) :=
  ⟨h.sd, fun s x hu => by
    cases hb : Nat.beq t s with
    | true =>
      have := Nat.eq_of_beq_eq_true hb
      subst this
      rw [lk_cons_eq] at hu
      injection hu with hu
      rw [← hu, hv]
    | false => rw [lk_cons_ne hb] at hu; exact h.ev _ _ hu⟩
end
def keep (lo hi : Nat) (W R : Env) : Env := R.filter fun p => !((Nat.ble lo p.1 && Nat.ble p.1 hi) || (lk W p.1).isSome)
theorem lk_filter (f : Nat → Bool) : ∀ (R : Env) (t : Nat) (v : Value), lk (R.filter fun p => f p.1) t = some v → f t = true ∧ lk R t = some v
  | [], t, v, h => by simp [lk] at h
  | (k, u) :: l, t, v, h => by
    by_cases hf : f k = true
    · rw [List.filter_cons_of_pos (by simpa using hf)] at h
      simp only [lk] at h ⊢
      cases hk : Nat.beq k t with
      | true =>
        have := Nat.eq_of_beq_eq_true hk
        subst this
        rw [hk] at h
        exact ⟨hf, h⟩
      | false =>
        rw [hk] at h
        have := lk_filter f l t v h
        exact ⟨this.1, by simpa using this.2⟩
    · rw [List.filter_cons_of_neg (by simpa using hf)] at h
      have := lk_filter f l t v h
      refine ⟨this.1, ?_⟩
      cases hk : Nat.beq k t with
      | true =>
        have hkt := Nat.eq_of_beq_eq_true hk
        subst hkt
        exact absurd this.1 hf
      | false => simp [lk, hk, this.2]
theorem lk_append : ∀ (W F : Env) (t : Nat) (v : Value), lk (W ++ F) t = some v → lk W t = some v ∨ (lk W t = none ∧ lk F t = some v)
  | [], F, t, v, h => .inr ⟨rfl, h⟩
  | (k, u) :: W, F, t, v, h => by
    simp only [List.cons_append, lk] at h ⊢
    cases hk : Nat.beq k t with
    | true => rw [hk] at h; exact .inl (by simpa using h)
    | false => rw [hk] at h; simpa using lk_append W F t v (by simpa using h)

/-! ### What is looked at -/
inductive Chk where
  | bad
  | run (b : Bool) (r : Result Next)
  | vs (l : List (Option Value)) (b : Bool)
def opv (R : Env) : Operand → Option Value
  | .tmp t => lk R t
  | .const v => some v
  | .global g => some (.pointer (some ⟨g, 0, none⟩))
  | .func f => some (.func (.func f) #[] #[])
def envK (R : Env) : Operand → Value
  | .tmp t => (lk R t).getD undef
  | .const v => v
  | .global g => .pointer (some ⟨g, 0, none⟩)
  | .func f => .func (.func f) #[] #[]
theorem opv_eval {a : Act} {R : Env} (h : Ev a R) {x : Operand} {v : Value} (hx : opv R x = some v) : a.eval x = v := by
  cases x with
  | tmp t => exact h t v hx
  | const u => simp only [opv, Option.some.injEq] at hx; rw [← hx]; rfl
  | global g => simp only [opv, Option.some.injEq] at hx; rw [← hx]; rfl
  | func f => simp only [opv, Option.some.injEq] at hx; rw [← hx]; rfl
def knows (R : Env) (o : Oper) : Bool := (match o.op with | .select .. => false | _ => true) && o.op.operands.all fun
  | .tmp t => (lk R t).isSome
  | _ => true
theorem exec_envK {a : Act} {o : Oper} {R : Env} (he : Ev a R) (hk : knows R o = true) : execOp a.eval o = execOp (envK R) o := by
  unfold knows at hk
  simp only [Bool.and_eq_true] at hk
  refine execOp_congr o (fun cs b h => by have := hk.1; rw [h] at this; cases this) fun x hx => ?_
  have := Array.all_eq_true_iff_forall_mem.1 hk.2 x hx
  cases x with
  | tmp t =>
    simp only at this
    obtain ⟨v, hv⟩ := Option.isSome_iff_exists.1 this
    simp only [envK, hv, Option.getD_some]
    exact he t v hv
  | _ => rfl
/-- What one operation that leaves the world comes to: what is looked at, what is wanted there, the value, why. -/
structure It (P : Program) (w : World) where
  c : Env → Oper → Chk
  want : Chk
  x : Value
  h : ∀ (a : Act) (R : Env) (o : Oper), Ev a R → c R o = want → (execOp a.eval o).run P w = .ok (.value x) w
section
variable {P : Program} {w : World}
def It.cr (P : Program) (w : World) (R : Env) (o : Oper) : Chk := .run (knows R o) ((execOp (envK R) o).run P w)
theorem It.cr_spec {a : Act} {R : Env} {o : Oper} {x : Value} (he : Ev a R) (h : It.cr P w R o = .run true (.ok (.value x) w)) : (execOp a.eval o).run P w = .ok (.value x) w := by
  unfold It.cr at h
  injection h with h1 h2
  rw [exec_envK he h1, h2]
def valOf : Result Next → Value
  | .ok (.value v) _ => v
  | _ => undef
/-- Computed, and told in another word. -/
def It.q {x' : Value} (x : Value) (h : x' = x) : It P w where
  c := It.cr P w
  want := .run true (.ok (.value x') w)
  x := x
  h := fun _ _ _ he hc => by rw [It.cr_spec he hc, h]
abbrev It.v (x : Value) : It P w := .q x rfl
abbrev It.i (x : Int) (h : -9223372036854775808 ≤ x ∧ x ≤ 9223372036854775807 := by omega) : It P w := .q (.int .i64 x) (w_i64 h.1 h.2)
abbrev It.eq (x y : Int) : It P w := .q (.bool (decide (x = y))) t_eql
abbrev It.ne (x y : Int) : It P w := .q (.bool (decide (¬ x = y))) t_neq
abbrev It.seq (x y : ByteArray) : It P w := .q (.bool (decide (x = y))) t_seql
/-- A load of one cell. -/
def It.l (ad : Addr) (v : Value) (hc : w.cell? ad = some v) : It P w where
  c R o := match o.op with
    | .load t x => .vs [opv R x] (scalar P t)
    | _ => .bad
  want := .vs [some (.pointer (some ad))] true
  x := v
  h := fun a R o he hk => by
    obtain ⟨d, op, ty, pos, aft, g⟩ := o
    cases op <;> simp only [reduceCtorEq] at hk
    case load t x =>
      injection hk with h1 h2
      injection h1 with h1 _
      have hx := opv_eval he h1
      simp only [execOp, hx, Instr.loadAt, Instr.sureAddr, Sem.run_bind, Sem.run_pure, Result.andThen_ok, run_loadVar_scalar h2 hc]
abbrev It.b {b : Nat} {cs : List Value} {t : TypeId} (hB : Blk w b cs t) (i : Nat) {v : Value} (h : cs[i]? = some v := by exact rfl) : It P w := .l ⟨b, i, none⟩ v (hB.at i h)
/-- A load of a struct, of an array. -/
def It.ls (ad : Addr) (cs : List Value) (hc : ∀ j u, cs[j]? = some u → w.cell? (ad.add j) = some u) : It P w where
  c R o := match o.op with
    | .load t x => .vs [opv R x] (aggSize P t == some cs.length)
    | _ => .bad
  want := .vs [some (.pointer (some ad))] true
  x := .agg cs.toArray
  h := fun a R o he hk => by
    obtain ⟨d, op, ty, pos, aft, g⟩ := o
    cases op <;> simp only [reduceCtorEq] at hk
    case load t x =>
      injection hk with h1 h2
      injection h1 with h1 _
      have hx := opv_eval he h1
      have ht : aggSize P t = some cs.length := by simpa using h2
      simp only [execOp, hx, Instr.loadAt, Instr.sureAddr, Sem.run_bind, Sem.run_pure, Result.andThen_ok, run_loadVar_agg ht hc]
abbrev It.bs {b : Nat} {cs0 : List Value} {t : TypeId} (hB : Blk w b cs0 t) (off : Nat) (cs : List Value) (hcs : (cs0.drop off).take cs.length = cs := by rfl) : It P w := .ls ⟨b, off, none⟩ cs (blk_cells hB off cs hcs)
def eqSz (P : Program) (t : TypeId) (sz : Nat) : Bool := match (match P.underlying t with | some (.slice e) => (P.info? e).map (·.size) | _ => none) with
  | some n => Nat.beq n sz
  | none => false
theorem eqSz_spec {t : TypeId} {sz : Nat} (h : eqSz P t sz = true) : (match P.underlying t with | some (.slice e) => (P.info? e).map (·.size) | _ => none) = some sz := by
  unfold eqSz at h
  split at h
  · rename_i k hk; rw [hk, Nat.eq_of_beq_eq_true h]
  · cases h
/-- The address of a slice's element. -/
def It.ix (g0 o0 n c : Nat) (kk : IntKind) (iv : Int) (sz : Nat) {A : Option Addr} (hA : A = some ⟨g0, o0, none⟩) (h01 : 0 ≤ iv ∧ iv < n := by omega) : It P w where
  c R o := match o.op with
    | .indexAddr t x i => .vs [opv R x, opv R i] (eqSz P t sz)
    | _ => .bad
  want := .vs [some (.slice A n c), some (.int kk iv)] true
  x := .pointer (some ⟨g0, o0 + iv.toNat * sz, none⟩)
  h := fun a R o he hk => by
    obtain ⟨d, op, ty, pos, aft, g⟩ := o
    cases op <;> simp only [reduceCtorEq] at hk
    case indexAddr t x i =>
      injection hk with h1 h2
      injection h1 with h1 h3
      injection h3 with h3 _
      have hx := opv_eval he h1
      have hi := opv_eval he h3
      subst hA
      have ht := eqSz_spec h2
      split at ht
      · rename_i e he'
        obtain ⟨inf, hinf, rfl⟩ := Option.map_eq_some_iff.1 ht
        have ha : (⟨g0, o0, none⟩ : Addr).add (iv.toNat * inf.size) = ⟨g0, o0 + iv.toNat * inf.size, none⟩ := by unfold Addr.add; split <;> simp_all
        simp only [execOp, hx, hi, Instr.indexAt, asIntOf, Sem.run_bind, Sem.run_pure, Result.andThen_ok, run_underlying he', h01.1, h01.2, and_self, if_true, sizeOf, typeInfo, run_program, hinf, ha]
      · cases ht
/-- A string's byte. -/
def It.ixs (s : ByteArray) (kk : IntKind) (iv : Int) (h01 : 0 ≤ iv ∧ iv < s.size := by omega) : It P w where
  c R o := match o.op with
    | .index t x i => .vs [opv R x, opv R i] (match P.underlying t with | some .string => true | _ => false)
    | _ => .bad
  want := .vs [some (.string s), some (.int kk iv)] true
  x := .int .u8 (bi s iv)
  h := fun a R o he hk => by
    obtain ⟨d, op, ty, pos, aft, g⟩ := o
    cases op <;> simp only [reduceCtorEq] at hk
    case index t x i =>
      injection hk with h1 h2
      injection h1 with h1 h3
      injection h3 with h3 _
      have hx := opv_eval he h1
      have hi := opv_eval he h3
      have ht : P.underlying t = some .string := by
        split at h2
        · assumption
        · cases h2
      have hlt : iv.toNat < s.size := by omega
      have hg : s[iv.toNat]? = some (byt s iv) := by
        unfold byt
        have hlt' : iv.toNat < s.data.size := hlt
        simp only [Array.getD_eq_getD_getElem?]
        rw [show s[iv.toNat]? = s.data[iv.toNat]? from by simp [getElem?_def, hlt, hlt']; rfl, Array.getElem?_eq_getElem hlt']
        rfl
      simp only [execOp, hx, hi, Instr.index, asIntOf, Sem.run_bind, Sem.run_pure, Result.andThen_ok, run_underlying ht, h01.1, if_true, hg, bi]
/-- A cut of a string. -/
def It.sl (s : ByteArray) (l h : Int) (h0 : 0 ≤ l ∧ l ≤ h ∧ h ≤ s.size := by omega) : It P w where
  c R o := match o.op with
    | .slice t x lo hi none => .vs [opv R x, match lo with | some q => opv R q | none => some (.int .i64 0), match hi with | some q => opv R q | none => some (.int .i64 s.size)] (match P.underlying t with | some .string => true | _ => false)
    | _ => .bad
  want := .vs [some (.string s), some (.int .i64 l), some (.int .i64 h)] true
  x := .string (s.extract l.toNat h.toNat)
  h := fun a R o he hk => by
    obtain ⟨d, op, ty, pos, aft, g⟩ := o
    cases op <;> simp only [reduceCtorEq] at hk
    case slice t x lo hi mx =>
      cases mx with
      | some _ => cases hk
      | none =>
        injection hk with h1 h2
        injection h1 with h1 h3
        injection h3 with h3 h4
        injection h4 with h4 _
        have hx := opv_eval he h1
        have ht : P.underlying t = some .string := by
          split at h2
          · assumption
          · cases h2
        obtain ⟨ha, hb, hc⟩ := h0
        have hb : (Instr.sliceBounds false s.size s.size (lo.map a.eval) (hi.map a.eval) none).run P w = .ok (l.toNat, h.toNat, s.size) w := by
          have h5 : 0 ≤ h := by omega
          unfold Instr.sliceBounds
          cases hi with
          | none =>
            simp only [Option.some.injEq, Value.int.injEq, true_and] at h4
            subst h4
            cases lo with
            | none =>
              simp only [Option.some.injEq, Value.int.injEq, true_and] at h3
              subst h3
              simp [Sem.run_bind]
            | some q =>
              have hq := opv_eval he h3
              simp [Sem.run_bind, hq, Instr.sliceBound, asIntOf, ha, hb]
          | some p =>
            have hp := opv_eval he h4
            cases lo with
            | none =>
              simp only [Option.some.injEq, Value.int.injEq, true_and] at h3
              subst h3
              simp [Sem.run_bind, hp, Instr.sliceBound, asIntOf, h5, hc]
            | some q =>
              have hq := opv_eval he h3
              simp [Sem.run_bind, hp, hq, Instr.sliceBound, asIntOf, h5, hc, ha]
              intro hlt
              omega
        simp only [execOp, hx, Instr.sliceAt, Instr.slice, Sem.run_bind, Sem.run_pure, Result.andThen_ok, run_underlying ht, Option.map_none, Option.isSome_none, Bool.false_eq_true, if_false, hb]
/-- A remainder, a quotient of numbers that are not below 0. -/
def It.rem (k : IntKind) (x y : Int) (h01 : 0 ≤ x ∧ 0 < y := by omega) : It P w where
  c R o := match o.op with
    | .binOp .rem _ p q _ => .vs [opv R p, opv R q] true
    | _ => .bad
  want := .vs [some (.int k x), some (.int k y)] true
  x := .int k (x % y)
  h := fun a R o he hk => by
    obtain ⟨d, op, ty, pos, aft, g⟩ := o
    cases op <;> simp only [reduceCtorEq] at hk
    case binOp b t p q t' =>
      cases b <;> simp only [reduceCtorEq] at hk
      case rem =>
        injection hk with h1 _
        injection h1 with h1 h3
        injection h3 with h3 _
        have hx := opv_eval he h1
        have hy := opv_eval he h3
        have hne : ¬ y = 0 := by omega
        simp only [execOp, hx, hy, eqGuard, binOp, Op.intDiv, ne_eq, not_true_eq_false, if_false, hne, Int.tmod_eq_emod_of_nonneg h01.1]
        rfl
def It.quo (k : IntKind) (x y : Int) (h01 : 0 ≤ x ∧ 0 < y := by omega) (hr : Value.int k (k.wrap (x / y)) = .int k (x / y)) : It P w where
  c R o := match o.op with
    | .binOp .quo _ p q _ => .vs [opv R p, opv R q] true
    | _ => .bad
  want := .vs [some (.int k x), some (.int k y)] true
  x := .int k (x / y)
  h := fun a R o he hk => by
    obtain ⟨d, op, ty, pos, aft, g⟩ := o
    cases op <;> simp only [reduceCtorEq] at hk
    case binOp b t p q t' =>
      cases b <;> simp only [reduceCtorEq] at hk
      case quo =>
        injection hk with h1 _
        injection h1 with h1 h3
        injection h3 with h3 _
        have hx := opv_eval he h1
        have hy := opv_eval he h3
        have hne : ¬ y = 0 := by omega
        rw [← hr]
        simp only [execOp, hx, hy, eqGuard, binOp, Op.intDiv, ne_eq, not_true_eq_false, if_false, hne, Int.tdiv_eq_ediv_of_nonneg h01.1]
        rfl
abbrev It.remN (k : IntKind) (n m : Nat) (hm : 0 < m := by omega) : It P w := .rem k (n : Int) (m : Int) ⟨by omega, by omega⟩
theorem w_div {x y : Int} (h : 0 ≤ x ∧ 0 < y ∧ x ≤ 9223372036854775807) : Value.int .i64 (IntKind.i64.wrap (x / y)) = .int .i64 (x / y) := by
  have h3 : x / y ≤ x := Int.ediv_le_self y h.1
  have h4 : 0 ≤ x / y := Int.ediv_nonneg h.1 (by omega)
  exact w_i64 (by omega) (by omega)
abbrev It.quoN (n m : Nat) (h : 0 < m ∧ n ≤ 9223372036854775807 := by omega) : It P w := .quo .i64 (n : Int) (m : Int) ⟨by omega, by omega⟩ (w_div ⟨by omega, by omega, by omega⟩)
theorem w_mulN {n m : Nat} (h : n * m ≤ 9223372036854775807) : Value.int .i64 (IntKind.i64.wrap ((n : Int) * (m : Int))) = .int .i64 ((n * m : Nat) : Int) := by
  rw [← Int.natCast_mul]
  exact w_i64 (by omega) (by omega)
end
/-! ### A run -/
def grd (ops : Array Oper) (R : Env) (o : Oper) : Option Bool := match o.guard with
  | none => some true
  | some (j, want) => match (ops[j]?).bind (·.dst) with
    | none => none
    | some t => match lk R t with
      | some (.bool b) => some (b == want)
      | some (.tuple l) => match l.toList with
        | [] => some false
        | _ => none
      | _ => none
structure Sim where
  lhs : List Chk
  rhs : List Chk
  env : Env
def putE (R : Env) (d : Option Tmp) (v : Value) : Env := match d with
  | none => R
  | some d => (d, v) :: R
def inN (n : Nat) (d : Option Tmp) : Bool := match d with
  | none => true
  | some d => Nat.ble (d + 1) n
def sim (P : Program) (w : World) (n : Nat) (ops : Array Oper) : List Oper → Nat → List (Nat × It P w) → Env → Sim
  | [], _, _, R => ⟨[], [], R⟩
  | _ :: _, 0, _, R => ⟨[], [], R⟩
  | o :: l, k + 1, its, R => match inN n o.dst with
    | false => ⟨[.bad], [], R⟩
    | true => match grd ops R o with
      | none => ⟨[.bad], [], R⟩
      | some false => sim P w n ops l k its (putE R o.dst undef)
      | some true => match its with
        | (0, it) :: its => let s := sim P w n ops l k its (putE R o.dst it.x); ⟨it.c R o :: s.lhs, it.want :: s.rhs, s.env⟩
        | (j + 1, it) :: its => let r := (execOp (envK R) o).run P w; let s := sim P w n ops l k ((j, it) :: its) (putE R o.dst (valOf r)); ⟨.run (knows R o) r :: s.lhs, .run true (.ok (.value (valOf r)) w) :: s.rhs, s.env⟩
        | [] => let r := (execOp (envK R) o).run P w; let s := sim P w n ops l k [] (putE R o.dst (valOf r)); ⟨.run (knows R o) r :: s.lhs, .run true (.ok (.value (valOf r)) w) :: s.rhs, s.env⟩
section
variable {ro : Option Nat} {P : Program} {Q : Exit → Act → World → Prop} {w : World} {ops : Array Oper} {n : Nat} {ds : List Deferred}
theorem En.putE {a : Act} {R : Env} (h : En n ds a R) {d : Option Tmp} (hd : inN n d = true) (v : Value) : En n ds (a.put d v) (putE R d v) := by
  cases d with
  | none => exact h
  | some d => exact h.put hd v
theorem step_on {a : Act} {R : Env} {o : Oper} {rest : List Oper} (h : Ev a R) (hg : grd ops R o = some true) {x : Value} (hx : (execOp a.eval o).run P w = .ok (.value x) w) (k : L ro P ops Q rest (a.put o.dst x) w) : L ro P ops Q (o :: rest) a w := by
  obtain ⟨d, op, ty, pos, aft, g⟩ := o
  cases g with
  | none => exact go (St.val hx k)
  | some g =>
    obtain ⟨j, want⟩ := g
    unfold grd at hg
    simp only at hg
    split at hg
    · cases hg
    · rename_i t ht
      split at hg
      · rename_i b hb
        simp only [Option.some.injEq] at hg
        have := eq_of_beq hg
        subst this
        exact go_on t ht (h _ _ hb) (St.val hx k)
      · split at hg <;> cases hg
      · cases hg
theorem step_off {a : Act} {R : Env} {o : Oper} {rest : List Oper} (h : Ev a R) (hg : grd ops R o = some false) (k : L ro P ops Q rest (a.put o.dst undef) w) : L ro P ops Q (o :: rest) a w := by
  obtain ⟨d, op, ty, pos, aft, g⟩ := o
  cases g with
  | none => cases hg
  | some g =>
    obtain ⟨j, want⟩ := g
    unfold grd at hg
    simp only at hg
    split at hg
    · cases hg
    · rename_i t ht
      split at hg
      · rename_i b hb
        simp only [Option.some.injEq] at hg
        exact go_off t ht (h _ _ hb) hg k
      · rename_i l hl
        split at hg
        · rename_i he
          have : l = #[] := by cases l; simp_all
          subst this
          exact go_none t ht (h _ _ hl) k
        · cases hg
      · cases hg
def inD (l : List Oper) (t : Nat) : Prop := ∃ o ∈ l, o.dst = some t
theorem put_not {a : Act} {d : Option Tmp} {v : Value} {t : Nat} (h : d ≠ some t) : (a.put d v).eval (.tmp t) = a.eval (.tmp t) := by
  cases d with
  | none => rfl
  | some d =>
    have : d ≠ t := fun e => h (by rw [e])
    exact at_other (by cases hq : Nat.beq d t with | false => rfl | true => exact absurd (Nat.eq_of_beq_eq_true hq) this) v rfl
theorem sim_run : ∀ (l : List Oper) (k : Nat) (its : List (Nat × It P w)) (R : Env) (a : Act), En n ds a R → (sim P w n ops l k its R).lhs = (sim P w n ops l k its R).rhs →
    (∀ a1, En n ds a1 (sim P w n ops l k its R).env → (∀ t, ¬ inD (l.take k) t → a1.eval (.tmp t) = a.eval (.tmp t)) → L ro P ops Q (l.drop k) a1 w) → L ro P ops Q l a w
  | [], k, its, R, a, he, _, K => by
    have := K a he (fun _ _ => rfl)
    rwa [List.drop_nil] at this
  | o :: l, 0, its, R, a, he, _, K => K a he (fun _ _ => rfl)
  | o :: l, k + 1, its, R, a, he, hk, K => by
    have hstep : ∀ x, (∀ a1, En n ds a1 (sim P w n ops (o :: l) (k + 1) its R).env → (∀ t, ¬ inD (l.take k) t → a1.eval (.tmp t) = (a.put o.dst x).eval (.tmp t)) → L ro P ops Q (l.drop k) a1 w) := by
      intro x a1 h1 h2
      refine K a1 h1 fun t ht => ?_
      rw [List.take_succ_cons] at ht
      have hno : o.dst ≠ some t := fun e => ht ⟨o, List.mem_cons_self .., e⟩
      rw [h2 t (fun ⟨q, hq, e⟩ => ht ⟨q, List.mem_cons_of_mem _ hq, e⟩), put_not hno]
    revert hk hstep
    unfold sim
    cases hin : inN n o.dst with
    | false => intro hk; cases hk
    | true =>
      cases hg : grd ops R o with
      | none => intro hk; cases hk
      | some b =>
        cases b with
        | false =>
          intro hk hstep
          exact step_off he.ev hg (sim_run l k its _ _ (he.putE hin _) hk (hstep undef))
        | true =>
          have comp : ∀ its', (Chk.run (knows R o) ((execOp (envK R) o).run P w) :: (sim P w n ops l k its' (putE R o.dst (valOf ((execOp (envK R) o).run P w)))).lhs = Chk.run true (.ok (.value (valOf ((execOp (envK R) o).run P w))) w) :: (sim P w n ops l k its' (putE R o.dst (valOf ((execOp (envK R) o).run P w)))).rhs) →
              (∀ a1, En n ds a1 (sim P w n ops l k its' (putE R o.dst (valOf ((execOp (envK R) o).run P w)))).env → (∀ t, ¬ inD (l.take k) t → a1.eval (.tmp t) = (a.put o.dst (valOf ((execOp (envK R) o).run P w))).eval (.tmp t)) → L ro P ops Q (l.drop k) a1 w) → L ro P ops Q (o :: l) a w := by
            intro its' hk hs
            injection hk with h1 h2
            exact step_on he.ev hg (It.cr_spec he.ev h1) (sim_run l k its' _ _ (he.putE hin _) h2 hs)
          cases its with
          | nil => intro hk hstep; exact comp [] hk (hstep _)
          | cons p its =>
            obtain ⟨j, it⟩ := p
            cases j with
            | zero =>
              intro hk hstep
              injection hk with h1 h2
              exact step_on he.ev hg (it.h a R o he.ev h1) (sim_run l k its _ _ (he.putE hin _) h2 (hstep _))
            | succ j => intro hk hstep; exact comp _ hk (hstep _)
structure Fin where
  lhs : List Chk
  look : List (Option Value)
  ok : Bool
def dOk (lo hi : Nat) (W : Env) (l : List Oper) : Bool := l.all fun o => match o.dst with
  | none => true
  | some d => (Nat.ble lo d && Nat.ble d hi) || (lk W d).isSome
theorem dOk_spec {lo hi : Nat} {W : Env} {l : List Oper} (h : dOk lo hi W l = true) {t : Nat} (ht : inD l t) : ((Nat.ble lo t && Nat.ble t hi) || (lk W t).isSome) = true := by
  obtain ⟨o, ho, e⟩ := ht
  have := List.all_eq_true.1 h o ho
  rw [e] at this
  exact this
theorem En.fin {a a1 : Act} {R E W : Env} {l : List Oper} (h : En n ds a R) (h1 : En n ds a1 E) (hs : ∀ t, ¬ inD l t → a1.eval (.tmp t) = a.eval (.tmp t)) {lo hi : Nat} (hW : W.map (fun p => lk E p.1) = W.map (fun p => some p.2)) (hd : dOk lo hi W l = true) :
    En n ds a1 (W ++ keep lo hi W R) := ⟨h1.sd, fun t v hv => by
  rcases lk_append W _ t v hv with h2 | ⟨h2, h3⟩
  · exact (h1.only W hW).ev t v h2
  · unfold keep at h3
    have h4 := lk_filter (fun q => !((Nat.ble lo q && Nat.ble q hi) || (lk W q).isSome)) R t v h3
    have h5 := h4.1
    rw [hs t (fun hin => by rw [dOk_spec hd hin] at h5; cases h5)]
    exact h.ev t v h4.2⟩
/-- A run of so many operations. -/
theorem run {l : List Oper} {a : Act} {R : Env} (h : En n ds a R) (its : List (Nat × It P w)) (k lo hi : Nat) (W : Env) (K : ∀ a1, En n ds a1 (W ++ keep lo hi W R) → L ro P ops Q (l.drop k) a1 w)
    (hk : Fin.mk (sim P w n ops l k its R).lhs (W.map fun p => lk (sim P w n ops l k its R).env p.1) (dOk lo hi W (l.take k)) = Fin.mk (sim P w n ops l k its R).rhs (W.map fun p => some p.2) true := by kernel_rfl) : L ro P ops Q l a w := by
  injection hk with h1 h2 h3
  exact sim_run l k its R a h h1 fun a1 he hs => K a1 (h.fin he hs h2 h3)
/-- A run to the end. -/
theorem re {l : List Oper} {a : Act} {R : Env} (h : En n ds a R) (its : List (Nat × It P w)) (lo hi : Nat) (W : Env) (K : ∀ a1, En n ds a1 (W ++ keep lo hi W R) → Q .normal a1 w)
    (hk : Fin.mk (sim P w n ops l l.length its R).lhs (W.map fun p => lk (sim P w n ops l l.length its R).env p.1) (dOk lo hi W l) = Fin.mk (sim P w n ops l l.length its R).rhs (W.map fun p => some p.2) true := by kernel_rfl) : L ro P ops Q l a w := by
  injection hk with h1 h2 h3
  refine sim_run l l.length its R a h h1 fun a1 he hs => ?_
  rw [List.drop_length]
  exact nil (K a1 (h.fin he (by simpa using hs) h2 h3))
/-- A region that is one run. -/
theorem rr {l : List Oper} {id : Nat} {a : Act} {R : Env} (h : En n ds a R) (its : List (Nat × It P w)) (lo hi : Nat) (W : Env) (K : ∀ a1, En n ds a1 (W ++ keep lo hi W R) → Q .normal a1 w)
    (hk : Fin.mk (sim P w n l.toArray l l.length its R).lhs (W.map fun p => lk (sim P w n l.toArray l l.length its R).env p.1) (Plan.noDefer l.toArray && dOk lo hi W l) = Fin.mk (sim P w n l.toArray l l.length its R).rhs (W.map fun p => some p.2) true := by kernel_rfl) : Wp ro P (.region id l.toArray false) Q a w := by
  injection hk with h1 h2 h3
  rw [Bool.and_eq_true] at h3
  refine region h3.1 (sim_run l l.length its R a h h1 fun a1 he hs => ?_)
  rw [List.drop_length]
  exact nil (K a1 (h.fin he (by simpa using hs) h2 h3.2))
/-- A statement that is one run, and what is behind it. -/
theorem sr {l : List Oper} {id : Nat} {y : Code} {a : Act} {R : Env} (h : En n ds a R) (its : List (Nat × It P w)) (lo hi : Nat) (W : Env) (K : ∀ a1, En n ds a1 (W ++ keep lo hi W R) → Wp ro P y Q a1 w)
    (hk : Fin.mk (sim P w n l.toArray l l.length its R).lhs (W.map fun p => lk (sim P w n l.toArray l l.length its R).env p.1) (Plan.noDefer l.toArray && dOk lo hi W l) = Fin.mk (sim P w n l.toArray l l.length its R).rhs (W.map fun p => some p.2) true := by kernel_rfl) : Wp ro P (.seq (.region id l.toArray false) y) Q a w :=
  seqd (rr (Q := Exit.then (Wp ro P y Q) Q) h its lo hi W K hk)
/-- A statement that is no single run: its operations, one by one. -/
theorem sg {l : List Oper} {id : Nat} {y : Code} {a : Act} (k : ∀ K : Act → World → Prop, (∀ a w, Wp ro P y Q a w → K a w) → L ro P l.toArray (Exit.then K Q) l a w) (hnd : Plan.noDefer l.toArray = true := by kernel_rfl) : Wp ro P (.seq (.region id l.toArray false) y) Q a w :=
  seq fun K hK => region hnd (k K hK)
theorem nt {K : Act → World → Prop} {a : Act} (h : K a w) : L ro P ops (Exit.then K Q) [] a w := nil h
/-- What an operation gave. -/
theorem pt {rest : List Oper} {a : Act} {R : Env} (h : En n ds a R) {t : Nat} {v : Value} (k : ∀ a1, En n ds a1 ((t, v) :: R) → L ro P ops Q rest a1 w) (hd : Nat.ble (t + 1) n = true := by rfl) : L ro P ops Q rest (a.put (some t) v) w := k _ (h.put hd v)
def fnOf (R : Env) (f : Operand) (args : Array Operand) : Option (FuncId × List (Option Value)) := match opv R f with
  | some (.func (.func g) ⟨[]⟩ cap) => some (g, args.toList.map (opv R) ++ cap.toList.map some)
  | _ => none
theorem map_opv {a : Act} {R : Env} (h : Ev a R) : ∀ (l : List Operand) (vs : List Value), l.map (opv R) = vs.map some → l.map a.eval = vs
  | [], [], _ => rfl
  | x :: l, v :: vs, e => by
    simp only [List.map_cons, List.cons.injEq] at e
    simp only [List.map_cons, opv_eval h e.1, map_opv h l vs e.2]
  | [], _ :: _, e => by simp at e
  | _ :: _, [], e => by simp at e
/-- A call of a function whose contract is known. -/
theorem cl {a : Act} {R : Env} (h : En n ds a R) {rest : List Oper} {d : Option Tmp} {f : Operand} {args : Array Operand} {ts : Array TypeId} {ty : TypeId} {pos : String} {aft : Array Edge} {gn : FuncId} {av : Array Value}
    (he : ∀ args w, (callFunc gn args).run P w = .ok (.enter gn args) w) {S : Ending → World → Prop} (hc : Calls P gn av w S) (k : ∀ e w1, S e w1 → ∃ v, e = .returned v ∧ ∀ a1, En n ds a1 (putE R d v) → L ro P ops Q rest a1 w1)
    (hk : (fnOf R f args, inN n d) = (some (gn, av.toList.map some), true) := by kernel_rfl) : L ro P ops Q (⟨d, .call ⟨.value f, args, ts⟩, ty, pos, aft, none⟩ :: rest) a w := by
  have hk1 := congrArg Prod.fst hk
  have hk2 : inN n d = true := congrArg Prod.snd hk
  simp only at hk1
  unfold fnOf at hk1
  split at hk1
  · rename_i g cap hf
    simp only [Option.some.injEq, Prod.mk.injEq] at hk1
    obtain ⟨rfl, hav⟩ := hk1
    have hf' := opv_eval h.ev hf
    have hm : args.map a.eval ++ cap = av := by
      have h1 : (args.toList.map (opv R) ++ cap.toList.map (opv R ∘ Operand.const)) = av.toList.map some := by rw [← hav]; rfl
      have h2 := map_opv h.ev (args.toList ++ cap.toList.map Operand.const) av.toList (by rw [List.map_append, List.map_map]; exact h1)
      apply Array.ext'
      rw [← h2]
      simp [Act.eval, Function.comp_def]
    subst hm
    exact go (call g cap (args.map a.eval) hf' rfl he hc fun e w1 hS => by
      obtain ⟨v, hv, hL⟩ := k e w1 hS
      exact ⟨v, hv, hL _ (h.putE hk2 v)⟩)
  · cases hk1
/-- The same, in a test. -/
theorem clg {a : Act} {R : Env} (h : En n ds a R) {rest : List Oper} {d : Option Tmp} {f : Operand} {args : Array Operand} {ts : Array TypeId} {ty : TypeId} {pos : String} {aft : Array Edge} {gn : FuncId} {av : Array Value} {j : Nat} {want : Bool}
    (he : ∀ args w, (callFunc gn args).run P w = .ok (.enter gn args) w) {S : Ending → World → Prop} (hc : Calls P gn av w S) (k : ∀ e w1, S e w1 → ∃ v, e = .returned v ∧ ∀ a1, En n ds a1 (putE R d v) → L ro P ops Q rest a1 w1)
    (hk : (fnOf R f args, inN n d, ((ops[j]?).bind (·.dst)).bind (lk R)) = (some (gn, av.toList.map some), true, some (.bool want)) := by kernel_rfl) : L ro P ops Q (⟨d, .call ⟨.value f, args, ts⟩, ty, pos, aft, some (j, want)⟩ :: rest) a w := by
  have hk1 := congrArg Prod.fst hk
  have hk2 : inN n d = true := congrArg (fun p => p.2.1) hk
  have hk3 : ((ops[j]?).bind (·.dst)).bind (lk R) = some (.bool want) := congrArg (fun p => p.2.2) hk
  obtain ⟨t, ht, htv⟩ := Option.bind_eq_some_iff.1 hk3
  simp only at hk1
  unfold fnOf at hk1
  split at hk1
  · rename_i g cap hf
    simp only [Option.some.injEq, Prod.mk.injEq] at hk1
    obtain ⟨rfl, hav⟩ := hk1
    have hf' := opv_eval h.ev hf
    have hm : args.map a.eval ++ cap = av := by
      have h1 : (args.toList.map (opv R) ++ cap.toList.map (opv R ∘ Operand.const)) = av.toList.map some := by rw [← hav]; rfl
      have h2 := map_opv h.ev (args.toList ++ cap.toList.map Operand.const) av.toList (by rw [List.map_append, List.map_map]; exact h1)
      apply Array.ext'
      rw [← h2]
      simp [Act.eval, Function.comp_def]
    subst hm
    exact go_on t ht (h.ev _ _ htv) (call g cap (args.map a.eval) hf' rfl he hc fun e w1 hS => by
      obtain ⟨v, hv, hL⟩ := k e w1 hS
      exact ⟨v, hv, hL _ (h.putE hk2 v)⟩)
  · cases hk1
/-- An operation in a test that is met. -/
theorem gon {a : Act} {R : Env} (h : En n ds a R) {rest : List Oper} {d : Option Tmp} {op : Op} {ty : TypeId} {pos : String} {aft : Array Edge} {j : Nat} {want : Bool} (k : St ro P ops Q rest ⟨d, op, ty, pos, aft, some (j, want)⟩ a w)
    (hk : ((ops[j]?).bind (·.dst)).bind (lk R) = some (.bool want) := by kernel_rfl) : L ro P ops Q (⟨d, op, ty, pos, aft, some (j, want)⟩ :: rest) a w := by
  obtain ⟨t, ht, htv⟩ := Option.bind_eq_some_iff.1 hk
  exact go_on t ht (h.ev _ _ htv) k
end
/-! ### A call's beginning and end -/
def argE : Nat → List Value → Env
  | _, [] => []
  | i, v :: l => (i, v) :: argE (i + 1) l
theorem lk_argE : ∀ (l : List Value) (i t : Nat) (v : Value), lk (argE i l) t = some v → i ≤ t ∧ l[t - i]? = some v
  | [], _, _, _, h => by simp [argE, lk] at h
  | u :: l, i, t, v, h => by
    simp only [argE, lk] at h
    cases hk : Nat.beq i t with
    | true =>
      rw [hk] at h
      have := Nat.eq_of_beq_eq_true hk
      subst this
      simp only [cond_true, Option.some.injEq] at h
      exact ⟨Nat.le_refl _, by simp [h]⟩
    | false =>
      rw [hk] at h
      obtain ⟨h1, h2⟩ := lk_argE l (i + 1) t v h
      refine ⟨by omega, ?_⟩
      have : t - i = (t - (i + 1)) + 1 := by omega
      rw [this, List.getElem?_cons_succ]
      exact h2
section
variable {P : Program} {fn : Func} {S : Ending → World → Prop} {a : Act} {w : World} {n : Nat} {R : Env}
theorem en {f : FuncId} {c : Code} {l : List Value} (N : Nat) (hf : P.funcs[f]? = some fn) (h : ∀ a, En N [] a (argE 0 l) → Wp none P c (bodyPost P fn S) a w) (hb : fn.body = some c := by rfl) (hn : l.length + (fn.ntmps - l.length) = N := by rfl) : Calls P f l.toArray w S :=
  enter N hf hb hn fun a hz ha => h a ⟨hz, fun t v hv => by
    have := lk_argE l 0 t v hv
    exact ha t v (by simpa using this.2)⟩
def resV (R : Env) : List ResultVar → List (Option Value)
  | [] => []
  | .tmp t :: l => lk R t :: resV R l
  | _ :: l => none :: resV R l
theorem r0 (h : En n [] a R) (hR : S (.returned (.tuple #[])) w) (hf : fn.results = #[] := by rfl) : bodyPost P fn S .ret a w := ret0 h.sd hf hR
theorem e0 (h : En n [] a R) (hR : S (.returned (.tuple #[])) w) (hf : fn.results = #[] := by rfl) : bodyPost P fn S .normal a w := end0 h.sd hf hR
theorem resV_cons {l : List ResultVar} {v : Value} {vs : List (Option Value)} (h : resV R l = some v :: vs) : ∃ t l', l = .tmp t :: l' ∧ lk R t = some v ∧ resV R l' = vs := by
  cases l with
  | nil => cases h
  | cons x l =>
    cases x with
    | tmp t => simp only [resV, List.cons.injEq] at h; exact ⟨t, l, rfl, h.1, h.2⟩
    | cell s t => simp [resV] at h
theorem resV_nil {l : List ResultVar} (h : resV R l = []) : l = [] := by
  cases l with
  | nil => rfl
  | cons x l => cases x <;> simp [resV] at h
theorem r1 (h : En n [] a R) (v : Value) (hR : S (.returned v) w) (hk : resV R fn.results.toList = [some v] := by kernel_rfl) : bodyPost P fn S .ret a w := by
  obtain ⟨t, l, e, ht, hk⟩ := resV_cons hk
  rw [resV_nil hk] at e
  exact ret1 h.sd (t := t) (Array.ext' e) (h.ev _ _ ht) hR
theorem r2 (h : En n [] a R) (v v' : Value) (hR : S (.returned (.tuple #[v, v'])) w) (hk : resV R fn.results.toList = [some v, some v'] := by kernel_rfl) : bodyPost P fn S .ret a w := by
  obtain ⟨t, l, e, ht, hk⟩ := resV_cons hk
  obtain ⟨u, l, e1, hu, hk⟩ := resV_cons hk
  rw [e1, resV_nil hk] at e
  exact ret2 h.sd (t := t) (u := u) (Array.ext' e) (h.ev _ _ ht) (h.ev _ _ hu) hR
theorem r3 (h : En n [] a R) (v v' v'' : Value) (hR : S (.returned (.tuple #[v, v', v''])) w) (hk : resV R fn.results.toList = [some v, some v', some v''] := by kernel_rfl) : bodyPost P fn S .ret a w := by
  obtain ⟨t, l, e, ht, hk⟩ := resV_cons hk
  obtain ⟨u, l, e1, hu, hk⟩ := resV_cons hk
  obtain ⟨s, l, e2, hs, hk⟩ := resV_cons hk
  rw [e1, e2, resV_nil hk] at e
  exact ret3 h.sd (t := t) (u := u) (s := s) (Array.ext' e) (h.ev _ _ ht) (h.ev _ _ hu) (h.ev _ _ hs) hR
end
section
variable {ro : Option Nat} {P : Program} {Q : Exit → Act → World → Prop} {w : World} {n : Nat} {ds : List Deferred} {a : Act} {R : Env}
theorem cp (h : En n ds a R) (p : Prop) [Decidable p] {c : Operand} {x y : Code} (h1 : p → Wp ro P x Q a w) (h2 : ¬ p → Wp ro P y Q a w) (hk : opv R c = some (.bool (decide p)) := by kernel_rfl) : Wp ro P (.cond c x y) Q a w := condP (opv_eval h.ev hk) h1 h2
theorem cb (h : En n ds a R) (t : Bool) {c : Operand} {x y : Code} (h1 : t = true → Wp ro P x Q a w) (h2 : ¬ t = true → Wp ro P y Q a w) (hk : opv R c = some (.bool t) := by kernel_rfl) : Wp ro P (.cond c x y) Q a w :=
  cond (opv_eval h.ev hk) h1 (fun hf => h2 (by rw [hf]; simp))
theorem ct (h : En n ds a R) {c : Operand} {x y : Code} (h1 : Wp ro P x Q a w) (hk : opv R c = some (.bool true) := by kernel_rfl) : Wp ro P (.cond c x y) Q a w := cond_t (opv_eval h.ev hk) h1
theorem cf (h : En n ds a R) {c : Operand} {x y : Code} (h1 : Wp ro P y Q a w) (hk : opv R c = some (.bool false) := by kernel_rfl) : Wp ro P (.cond c x y) Q a w := cond_f (opv_eval h.ev hk) h1
end
/-! ### Regions that draw their order -/
def insN (x : Nat) (l : List Nat) : List Nat := bif l.any (Nat.beq x) then l else x :: l
def ancs (ops : Array Oper) : List (List Nat) := (List.range ops.size).foldl (fun A j => A ++ [(Plan.deps ops j).foldl (fun r d => insN d ((A.getD d []).foldl (fun r x => insN x r) r)) []]) []
def hasK (R : Env) (ops : Array Oper) (o : Oper) : Bool := match o.guard with
  | none => true
  | some (j, _) => match (ops[j]?).bind (·.dst) with
    | none => true
    | some t => (lk R t).isSome
def chkK (P : Program) (R : Env) (ops : Array Oper) (os : List Oper) : Bool := os.all fun o => Plan.isL o || ((Plan.asks o).all (fun t => (lk R t).isSome) && Plan.okP P (envK R) o) || (hasK R ops o && Plan.offE ops (envK R) o)
theorem envK_eval {a : Act} {R : Env} (h : Ev a R) {t : Nat} (ht : (lk R t).isSome = true) : a.eval (.tmp t) = envK R (.tmp t) := by
  obtain ⟨v, hv⟩ := Option.isSome_iff_exists.1 ht
  simp only [envK, hv, Option.getD_some]
  exact h t v hv
theorem chkK_spec {P : Program} {a : Act} {R : Env} {ops : Array Oper} {os : List Oper} (he : Ev a R) (hk : chkK P R ops os = true) : Plan.segChk P ops a os = true := by
  unfold Plan.segChk
  unfold chkK at hk
  rw [List.all_eq_true] at hk ⊢
  intro o ho
  have h := hk o ho
  simp only [Bool.or_eq_true, Bool.and_eq_true] at h ⊢
  rcases h with (h | ⟨h1, h2⟩) | ⟨h1, h2⟩
  · exact .inl (.inl h)
  · refine .inl (.inr ?_)
    rw [← h2]
    refine Plan.okP_congr fun x hx => ?_
    cases x with
    | tmp t => exact envK_eval he (List.all_eq_true.1 h1 t (hx t rfl))
    | _ => rfl
  · refine .inr ?_
    rw [← h2]
    refine Plan.offE_congr fun j w t hg hd => ?_
    unfold hasK at h1
    rw [hg] at h1
    simp only [hd] at h1
    exact envK_eval he h1
section
variable {ro : Option Nat} {P : Program} {Q : Exit → Act → World → Prop} {w : World} {n : Nat} {ds : List Deferred} {a : Act} {R : Env} {l : List Oper}
theorem segrun {os : List Oper} (h : En n ds a R) (its : List (Nat × It P w)) (lo hi : Nat) (W : Env) {K : Act → World → Prop} (hK : ∀ a1, En n ds a1 (W ++ keep lo hi W R) → K a1 w)
    (hk : Fin.mk (sim P w n l.toArray os os.length its R).lhs (W.map fun p => lk (sim P w n l.toArray os os.length its R).env p.1) (dOk lo hi W os && chkK P (sim P w n l.toArray os os.length its R).env l.toArray os) = Fin.mk (sim P w n l.toArray os os.length its R).rhs (W.map fun p => some p.2) true) :
    L ro P l.toArray (Plan.segPost fun a' w' => Plan.segChk P l.toArray a' os = true ∧ K a' w') os a w := by
  injection hk with h1 h2 h3
  rw [Bool.and_eq_true] at h3
  refine sim_run os os.length its R a h h1 fun a1 he hs => ?_
  rw [List.drop_length]
  exact nil ⟨chkK_spec he.ev h3.2, hK a1 (h.fin he (by simpa using hs) h2 h3.1)⟩
def segC (P : Program) (w : World) (n : Nat) (l os : List Oper) (its : List (Nat × It P w)) (lo hi : Nat) (W R : Env) : Fin :=
  ⟨(sim P w n l.toArray os os.length its R).lhs, W.map fun p => lk (sim P w n l.toArray os os.length its R).env p.1, dOk lo hi W os && chkK P (sim P w n l.toArray os os.length its R).env l.toArray os⟩
theorem pz (h : En n ds a R) (its : List (Nat × It P w)) (lo hi : Nat) (W : Env) {s : List Nat} (hK : ∀ a1, En n ds a1 (W ++ keep lo hi W R) → Q .normal a1 w)
    (hk : segC P w n l (Plan.pickAll l s) its lo hi W R = Fin.mk (sim P w n l.toArray (Plan.pickAll l s) (Plan.pickAll l s).length its R).rhs (W.map fun p => some p.2) true := by kernel_rfl) : Plan.wpSegs ro P l Q [(s, none)] a w := by
  have := segrun (ro := ro) h its lo hi W hK hk
  unfold L at this
  exact this
theorem pe (h : En n ds a R) (its : List (Nat × It P w)) (lo hi : Nat) (W : Env) {s : List Nat} {j : Nat} {kp : List Nat} {r : Plan.Plan}
    (hK : ∀ a1, En n ds a1 (W ++ keep lo hi W R) → L ro P l.toArray (Plan.effPost Q fun a'' w'' => Plan.Held P l.toArray kp a1 w w'' ∧ Plan.wpSegs ro P l Q r a'' w'') [Plan.nth l j] a1 w)
    (hk : segC P w n l (Plan.pickAll l s) its lo hi W R = Fin.mk (sim P w n l.toArray (Plan.pickAll l s) (Plan.pickAll l s).length its R).rhs (W.map fun p => some p.2) true := by kernel_rfl) : Plan.wpSegs ro P l Q ((s, some (j, kp)) :: r) a w := by
  have := segrun (ro := ro) (K := fun a' w' => L ro P l.toArray (Plan.effPost Q fun a'' w'' => Plan.Held P l.toArray kp a' w' w'' ∧ Plan.wpSegs ro P l Q r a'' w'') [Plan.nth l j] a' w') h its lo hi W hK hk
  unfold L at this
  exact this
/-! a stretch with an operation that is no part of a run -/
theorem pz0 {s : List Nat} (h : L ro P l.toArray (Plan.segPost fun a' w' => Plan.segChk P l.toArray a' (Plan.pickAll l s) = true ∧ Q .normal a' w') (Plan.pickAll l s) a w) : Plan.wpSegs ro P l Q [(s, none)] a w := by
  unfold L at h
  exact h
theorem pe0 {s : List Nat} {j : Nat} {kp : List Nat} {r : Plan.Plan}
    (h : L ro P l.toArray (Plan.segPost fun a' w' => Plan.segChk P l.toArray a' (Plan.pickAll l s) = true ∧ L ro P l.toArray (Plan.effPost Q fun a'' w'' => Plan.Held P l.toArray kp a' w' w'' ∧ Plan.wpSegs ro P l Q r a'' w'') [Plan.nth l j] a' w') (Plan.pickAll l s) a w) : Plan.wpSegs ro P l Q ((s, some (j, kp)) :: r) a w := by
  unfold L at h
  exact h
theorem se {os rest : List Oper} (h : En n ds a R) (its : List (Nat × It P w)) (lo hi : Nat) (W : Env) {K : Act → World → Prop} (hK : ∀ a1, En n ds a1 (W ++ keep lo hi W R) → K a1 w)
    (hk : Fin.mk (sim P w n l.toArray rest rest.length its R).lhs (W.map fun p => lk (sim P w n l.toArray rest rest.length its R).env p.1) (dOk lo hi W rest && chkK P (sim P w n l.toArray rest rest.length its R).env l.toArray os) = Fin.mk (sim P w n l.toArray rest rest.length its R).rhs (W.map fun p => some p.2) true := by kernel_rfl) :
    L ro P l.toArray (Plan.segPost fun a' w' => Plan.segChk P l.toArray a' os = true ∧ K a' w') rest a w := by
  injection hk with h1 h2 h3
  rw [Bool.and_eq_true] at h3
  refine sim_run rest rest.length its R a h h1 fun a1 he hs => ?_
  rw [List.drop_length]
  exact nil ⟨chkK_spec he.ev h3.2, hK a1 (h.fin he (by simpa using hs) h2 h3.1)⟩
theorem eh {ops : Array Oper} {kp : Act → World → Prop} {k2 : Act → World → Prop} (h : kp a w) (k : k2 a w) : L ro P ops (Plan.effPost Q fun a'' w'' => kp a'' w'' ∧ k2 a'' w'') [] a w := nil ⟨h, k⟩
theorem pl {id : Nat} (p : Plan.Plan) (k : ∀ w1, Fr [] w w1 → w1.heap.size = w.heap.size → Plan.wpSegs ro P l Q p a w1)
    (hok : Plan.planOk l (ancs l.toArray) p = true := by kernel_rfl) (hm : P.follows .mixedOrders = true := by kernel_rfl) (hQ : ∀ c a t w, Q (.panic c) { a with tmps := t } w → Q (.panic c) a w := by exact fun _ _ _ _ h => h) : Wp ro P (.region id l.toArray true) Q a w :=
  plan _ p hm hok hQ (k _ (Fr.drew _ _) rfl)
end
end Go.V
end
section
namespace Go.Proofs.Ytalhmegjomfbaaa
open Go.V Go.Base
open Go.RowKit (Below)
attribute [local irreducible] Act.put Act.eval
set_option linter.unusedVariables false
set_option linter.unusedSimpArgs false
set_option maxHeartbeats 4000000
set_option maxRecDepth 20000
/-- What the laws look at of a key: at most 100 bytes. -/
def keyS (s : ByteArray) : ByteArray := if s.size > 100 then s.extract 0 100 else s
theorem keyS_le (s : ByteArray) : (keyS s).size ≤ 100 := by
  unfold keyS; split
  · rw [ByteArray.size_extract]; omega
  · omega
theorem hash_any (w : World) (seed : Nat) (s : ByteArray) (hsd : seed < 18446744073709551616) (hs : s.size ≤ 9223372036854775807) : Calls Try.prog 11 #[.int .u64 (seed : Int), .string s] w (fun e w' => e = .returned (.int .u64 ((hashN seed s : Nat) : Int)) ∧ Fr [] w w') := by
 have hF := Fr.refl [] w
 refine V.en 23 Try.func11 fun a h1 => ?_
 refine V.sr h1 [] 4 4 [] fun a h4 => ?_
 refine V.sr h4 [(1, .q (.int .u64 ((hseed seed : Nat) : Int)) (V.b_xor_u64 14695981039346656037 seed (by omega) hsd))] 7 8 [(5, .int .u64 ((hseed seed : Nat) : Int))] fun a h7 => ?_
 refine V.seq fun K8 k9 => ?_
 refine V.sr h7 [] 9 9 [(10, .int .i64 (s.size : Int)), (11, .int .i64 0)] fun a h12 => ?_
 refine V.block ?_
 refine V.loop2 (fun (k : Nat) (h : Nat) a_ w_ => En 23 [] a_ [(1, .string s), (5, .int .u64 (h : Int)), (10, .int .i64 (s.size : Int)), (11, .int .i64 (k : Int))] ∧ Fr [] w w_ ∧ (k ≤ s.size) ∧ (hashI (hseed seed) ((ints s).take k) = h) ∧ (h < 18446744073709551616)) (fun (k : Nat) (h : Nat) => s.size - k) 0 (hseed seed) ?_ ?_
 ·
  refine ⟨((h12.eq 5 (v := (.int .u64 ((hseed seed : Nat) : Int))) (u := (.int .u64 ((hseed seed) : Int))) (V.int_eq (by omega))).eq 11 (v := (.int .i64 0)) (u := (.int .i64 (0 : Int))) (V.int_eq (by omega))).only _, hF, (by omega), rfl, (hseed_lt hsd)⟩
 ·
  rintro k h a13 w14 ⟨h15, hF_16, hk, hh, hlt⟩
  have hfs17 := hF_16.size
  have hbl : (byt s (k : Int)).toNat < 256 := (byt s (k : Int)).toNat_lt
  refine V.sr h15 [] 1 0 [(12, .bool (decide ((k : Int) < (s.size : Int))))] fun a h20 => ?_
  refine V.seq fun K21 k22 => ?_
  refine V.cp h20 ((k : Int) < (s.size : Int)) (fun ht23 => ?_) (fun ht23 => ?_)
  ·
   refine V.skip ?_
   refine V.then_n (k22 _ _ ?_)
   refine V.seq fun K24 k25 => ?_
   refine V.block ?_
   refine V.sr h20 [] 13 13 [(6, .int .i64 (k : Int))] fun a h28 => ?_
   have hb29 := byt_lt s (k : Int)
   refine V.rr h28 [(3, .ixs s .i64 (k : Int)), (0, .q (.int .u64 (bi s (k : Int))) (V.w_u64 (by omega) (by omega))), (0, .q (.int .u64 ((h ^^^ (byt s (k : Int)).toNat : Nat) : Int)) (V.b_xor_u64 h (byt s (k : Int)).toNat hlt (by omega))), (0, .q (.int .u64 ((hstep h (byt s (k : Int)).toNat : Nat) : Int)) (V.b_mul_u64 (h ^^^ (byt s (k : Int)).toNat) 1099511628211))] 14 20 [(5, .int .u64 ((hstep h (byt s (k : Int)).toNat : Nat) : Int))] fun a h30 => ?_
   refine V.blk_n ?_
   refine V.then_n (k25 _ _ ?_)
   refine V.rr h30 [(0, .i ((k : Int) + 1))] 21 21 [(11, .int .i64 ((k : Int) + 1))] fun a h31 => ?_
   refine V.then_n ?_
   refine ⟨k + 1, hstep h (byt s (k : Int)).toNat, by omega, ?_⟩
   refine ⟨((h31.eq 5 (v := (.int .u64 ((hstep h (byt s (k : Int)).toNat : Nat) : Int))) (u := (.int .u64 ((hstep h (byt s (k : Int)).toNat) : Int))) (V.int_eq (by omega))).eq 11 (v := (.int .i64 ((k : Int) + 1))) (u := (.int .i64 ((k + 1) : Int))) (V.int_eq (by omega))).only _, hF_16, (by omega), (wd_hash_step (by omega) hh), (hstep_lt _ _)⟩
  ·
   refine V.exit (V.then_e (V.then_e (V.blk_hit ?_)))
   refine V.then_n (k9 _ _ ?_)
   refine V.sr h20 [] 22 22 [(4, .int .u64 (h : Int))] fun a h34 => ?_
   refine V.ret ?_
   refine V.r1 h34 (.int .u64 (h : Int)) ?_
   exact ⟨congrArg Ending.returned (int_eq (by rw [hash_end (by omega) hh]; rfl)), hF_16⟩
theorem rhash_any (w : World) (seed : Nat) (s : ByteArray) (hsd : seed < 18446744073709551616) (hs : s.size ≤ 9223372036854775807) : Calls Try.prog 12 #[.int .u64 (seed : Int), .string s] w (fun e w' => e = .returned (.int .u64 ((hashN seed s : Nat) : Int)) ∧ Fr [] w w') := by
 have hF := Fr.refl [] w
 refine V.en 24 Try.func12 fun a h1 => ?_
 refine V.sr h1 [] 4 4 [] fun a h4 => ?_
 refine V.sr h4 [(1, .q (.int .u64 ((hseed seed : Nat) : Int)) (V.b_xor_u64 14695981039346656037 seed (by omega) hsd))] 7 8 [(5, .int .u64 ((hseed seed : Nat) : Int))] fun a h7 => ?_
 refine V.seq fun K8 k9 => ?_
 refine V.sr h7 [] 1 0 [(6, .int .i64 0)] fun a h12 => ?_
 refine V.block ?_
 refine V.loop2 (fun (k : Nat) (h : Nat) a_ w_ => En 24 [] a_ [(1, .string s), (5, .int .u64 (h : Int)), (6, .int .i64 (k : Int))] ∧ Fr [] w w_ ∧ (k ≤ s.size) ∧ (hashI (hseed seed) ((ints s).take k) = h) ∧ (h < 18446744073709551616)) (fun (k : Nat) (h : Nat) => s.size - k) 0 (hseed seed) ?_ ?_
 ·
  refine ⟨((h12.eq 5 (v := (.int .u64 ((hseed seed : Nat) : Int))) (u := (.int .u64 ((hseed seed) : Int))) (V.int_eq (by omega))).eq 6 (v := (.int .i64 0)) (u := (.int .i64 (0 : Int))) (V.int_eq (by omega))).only _, hF, (by omega), rfl, (hseed_lt hsd)⟩
 ·
  rintro k h a13 w14 ⟨h15, hF_16, hk, hh, hlt⟩
  have hfs17 := hF_16.size
  have hbl : (byt s (k : Int)).toNat < 256 := (byt s (k : Int)).toNat_lt
  refine V.seq fun K18 k19 => ?_
  refine V.sr h15 [] 9 11 [(12, .bool (decide ((k : Int) < (s.size : Int))))] fun a h22 => ?_
  refine V.cp h22 ((k : Int) < (s.size : Int)) (fun ht23 => ?_) (fun ht23 => ?_)
  ·
   refine V.skip ?_
   refine V.then_n (k19 _ _ ?_)
   refine V.seq fun K24 k25 => ?_
   refine V.block ?_
   have hb28 := byt_lt s (k : Int)
   refine V.sr h22 [(3, .ixs s .i64 (k : Int)), (0, .q (.int .u64 (bi s (k : Int))) (V.w_u64 (by omega) (by omega))), (0, .q (.int .u64 ((h ^^^ (byt s (k : Int)).toNat : Nat) : Int)) (V.b_xor_u64 h (byt s (k : Int)).toNat hlt (by omega)))] 15 20 [(5, .int .u64 ((h ^^^ (byt s (k : Int)).toNat : Nat) : Int))] fun a h29 => ?_
   refine V.rr h29 [(1, .q (.int .u64 ((hstep h (byt s (k : Int)).toNat : Nat) : Int)) (V.b_mul_u64 (h ^^^ (byt s (k : Int)).toNat) 1099511628211))] 21 22 [(5, .int .u64 ((hstep h (byt s (k : Int)).toNat : Nat) : Int))] fun a h30 => ?_
   refine V.blk_n ?_
   refine V.then_n (k25 _ _ ?_)
   refine V.rr h30 [(1, .i ((k : Int) + 1))] 13 14 [(6, .int .i64 ((k : Int) + 1))] fun a h31 => ?_
   refine V.then_n ?_
   refine ⟨k + 1, hstep h (byt s (k : Int)).toNat, by omega, ?_⟩
   refine ⟨((h31.eq 5 (v := (.int .u64 ((hstep h (byt s (k : Int)).toNat : Nat) : Int))) (u := (.int .u64 ((hstep h (byt s (k : Int)).toNat) : Int))) (V.int_eq (by omega))).eq 6 (v := (.int .i64 ((k : Int) + 1))) (u := (.int .i64 ((k + 1) : Int))) (V.int_eq (by omega))).only _, hF_16, (by omega), (wd_hash_step (by omega) hh), (hstep_lt _ _)⟩
  ·
   refine V.exit (V.then_e (V.then_e (V.blk_hit ?_)))
   refine V.then_n (k9 _ _ ?_)
   refine V.sr h22 [] 23 23 [(4, .int .u64 (h : Int))] fun a h34 => ?_
   refine V.ret ?_
   refine V.r1 h34 (.int .u64 (h : Int)) ?_
   exact ⟨congrArg Ending.returned (int_eq (by rw [hash_end (by omega) hh]; rfl)), hF_16⟩
theorem key_any (w : World) (s : ByteArray) : Calls Try.prog 10 #[.string s] w (fun e w' => e = .returned (.string (keyS s)) ∧ Fr [] w w') := by
 have hF := Fr.refl [] w
 refine V.en 9 Try.func10 fun a h1 => ?_
 refine V.sr h1 [] 2 2 [] fun a h4 => ?_
 refine V.seq fun K5 k6 => ?_
 refine V.sr h4 [] 3 4 [(5, .bool (decide ((s.size : Int) > 100)))] fun a h9 => ?_
 refine V.cp h9 ((s.size : Int) > 100) (fun ht10 => ?_) (fun ht10 => ?_)
 ·
  refine V.sr h9 [(1, .sl s 0 100)] 6 7 [(2, .string (s.extract (0 : Int).toNat (100 : Int).toNat))] fun a h13 => ?_
  refine V.ret (V.then_r ?_)
  refine V.r1 h13 (.string (s.extract (0 : Int).toNat (100 : Int).toNat)) ?_
  refine ⟨congrArg Ending.returned (congrArg Value.string ?_), hF⟩
  unfold keyS; rw [if_pos (by omega)]; rfl
 ·
  refine V.skip ?_
  refine V.then_n (k6 _ _ ?_)
  refine V.sr h9 [] 8 8 [(2, .string s)] fun a h16 => ?_
  refine V.ret ?_
  refine V.r1 h16 (.string s) ?_
  refine ⟨congrArg Ending.returned (congrArg Value.string ?_), hF⟩
  unfold keyS; rw [if_neg (by omega)]
end Go.Proofs.Ytalhmegjomfbaaa
end
section
namespace Go.V
open Go.Plan (FW)
def Rnds (ro : Option Nat) (P : Program) (c : Code) (Q : Exit → Act → World → Prop) (m : Nat) (a : Act) (w : World) : Prop := Code.roundsIn (FW ro) 0 P c Q m a w
theorem loopR {ro : Option Nat} {P : Program} {c : Code} {Q : Exit → Act → World → Prop} {a : Act} {w : World} (m : Nat) (h : Rnds ro P c Q m a w) : Wp ro P (.loop c) Q a w := by unfold Wp; exact wpIn_loop_rounds m h
theorem rnd {ro : Option Nat} {P : Program} {c : Code} {Q : Exit → Act → World → Prop} {a : Act} {w : World} {m : Nat} (h : Wp ro P c (Exit.then (Rnds ro P c Q m) Q) a w) : Rnds ro P c Q (m + 1) a w := by unfold Wp at h; exact h
end Go.V
end
section
namespace Go.V
open Go.Plan (wpL)
open Go.RowKit Go.Base
set_option linter.unusedVariables false
section
variable {P : Program}
section
variable {ro : Option Nat} {Q : Exit → Act → World → Prop} {a : Act} {w : World} {ops : Array Oper} {rest : List Oper} {d : Option Tmp} {ty : TypeId} {pos : String} {aft : Array Edge} {g : Option (Nat × Bool)}
end
end
end Go.V
end
section
namespace Go.Proofs.Ytalhmegjomfbaaa
open Go.V Go.Base
open Go.RowKit (Below)
attribute [local irreducible] Act.put Act.eval
set_option linter.unusedVariables false
set_option linter.unusedSimpArgs false
set_option maxHeartbeats 4000000
set_option maxRecDepth 20000
theorem info86 : (Try.prog.info? 86).map (fun i => (i.zero, i.size, i.bytes)) = some (some (.agg #[.string ⟨#[]⟩, .int .i64 0]), 2, 24) := by kernel_rfl
theorem info87 : (Try.prog.info? 87).map (fun i => (i.zero, i.size, i.bytes)) = some (some (.slice none 0 0), 1, 24) := by kernel_rfl
def itI : Rp (ByteArray × Int) := Rp.flat (⟨#[]⟩, 0) 2 (fun x => [.string x.1, .int .i64 x.2]) (fun _ => rfl) (fun x u hu => by simp at hu; rcases hu with rfl | rfl <;> rfl)
theorem bkt_lt (seed : Nat) (k : ByteArray) {n : Nat} (h : 0 < n) : bkt seed n k < n := Nat.mod_lt _ h
theorem miss_step {α : Type} (R : Rp (ByteArray × α)) {l : List (ByteArray × α)} {k : ByteArray} {i : Nat} (h : ∀ (j : Nat) (x : ByteArray × α), j < i → l[j]? = some x → x.1 ≠ k) (hi : i < l.length) (hn : ¬ (at_ R l (i : Int)).1 = k) : ∀ (j : Nat) (x : ByteArray × α), j < i + 1 → l[j]? = some x → x.1 ≠ k := by
  intro j x hj hx
  by_cases hji : j = i
  · subst hji
    have := at_some R (xs := l) (i := (j : Int)) (by omega) (by omega)
    rw [Int.toNat_natCast, hx] at this
    injection this with this
    rw [this]; exact hn
  · exact h j x (by omega) hx
theorem miss_end {α : Type} {l : List (ByteArray × α)} {k : ByteArray} {i : Nat} (h : ∀ (j : Nat) (x : ByteArray × α), j < i → l[j]? = some x → x.1 ≠ k) (hi : l.length ≤ i) : ixI l k = -1 :=
  ixI_miss fun j x hx => h j x (by have := (List.getElem?_eq_some_iff.1 hx).1; omega) hx
theorem hit_end {α : Type} (R : Rp (ByteArray × α)) {l : List (ByteArray × α)} {k : ByteArray} {i : Nat} (h : ∀ (j : Nat) (x : ByteArray × α), j < i → l[j]? = some x → x.1 ≠ k) (hi : i < l.length) (hk : (at_ R l (i : Int)).1 = k) : ixI l k = (i : Int) :=
  ixI_hit hi h (at_some R (xs := l) (i := (i : Int)) (by omega) (by omega)) hk
theorem made_N (w : World) (t : Nat) (seed n0 n1 c1 gA gB : Nat) (m1 m2 : Value) (hB : Blk w t [.int .u64 (seed : Int), .slice (some ⟨gA, 0, none⟩) n0 n0, .slice none 0 0, m1, m2] 67) : Calls Try.prog 51 #[.pointer (some ⟨t, 0, none⟩)] w (fun e w' => e = .returned (.bool true) ∧ Fr [] w w') := by
 have hF := Fr.refl [] w
 refine V.en 13 Try.func51 fun a h1 => ?_
 refine V.sr h1 [] 2 2 [] fun a h4 => ?_
 refine V.sr h4 [(7, .b hB 1)] 3 12 [(2, .bool true)] fun a h7 => ?_
 refine V.ret ?_
 refine V.r1 h7 (.bool true) ?_
 exact ⟨rfl, hF⟩
theorem made_M (w : World) (t : Nat) (seed n0 n1 c1 gA gB : Nat) (m1 m2 : Value) (hB : Blk w t [.int .u64 (seed : Int), .slice (some ⟨gA, 0, none⟩) n0 n0, .slice (some ⟨gB, 0, none⟩) n1 n1, m1, m2] 67) : Calls Try.prog 51 #[.pointer (some ⟨t, 0, none⟩)] w (fun e w' => e = .returned (.bool true) ∧ Fr [] w w') := by
 have hF := Fr.refl [] w
 refine V.en 13 Try.func51 fun a h1 => ?_
 refine V.sr h1 [] 2 2 [] fun a h4 => ?_
 refine V.sr h4 [(7, .b hB 1)] 3 12 [(2, .bool true)] fun a h7 => ?_
 refine V.ret ?_
 refine V.r1 h7 (.bool true) ?_
 exact ⟨rfl, hF⟩
theorem moves_N (w : World) (t : Nat) (seed n0 n1 c1 gA gB : Nat) (m1 m2 : Value) (hB : Blk w t [.int .u64 (seed : Int), .slice (some ⟨gA, 0, none⟩) n0 n0, .slice none 0 0, m1, m2] 67) : Calls Try.prog 65 #[.pointer (some ⟨t, 0, none⟩)] w (fun e w' => e = .returned (.bool false) ∧ Fr [] w w') := by
 have hF := Fr.refl [] w
 refine V.en 9 Try.func65 fun a h1 => ?_
 refine V.sr h1 [] 2 2 [] fun a h4 => ?_
 refine V.sr h4 [(4, .b hB 2)] 3 8 [(2, .bool false)] fun a h7 => ?_
 refine V.ret ?_
 refine V.r1 h7 (.bool false) ?_
 exact ⟨rfl, hF⟩
theorem moves_M (w : World) (t : Nat) (seed n0 n1 c1 gA gB : Nat) (m1 m2 : Value) (hB : Blk w t [.int .u64 (seed : Int), .slice (some ⟨gA, 0, none⟩) n0 n0, .slice (some ⟨gB, 0, none⟩) n1 n1, m1, m2] 67) : Calls Try.prog 65 #[.pointer (some ⟨t, 0, none⟩)] w (fun e w' => e = .returned (.bool true) ∧ Fr [] w w') := by
 have hF := Fr.refl [] w
 refine V.en 9 Try.func65 fun a h1 => ?_
 refine V.sr h1 [] 2 2 [] fun a h4 => ?_
 refine V.sr h4 [(4, .b hB 2)] 3 8 [(2, .bool true)] fun a h7 => ?_
 refine V.ret ?_
 refine V.r1 h7 (.bool true) ?_
 exact ⟨rfl, hF⟩
theorem bucket_N0 (w : World) (t : Nat) (seed n0 n1 c1 gA gB : Nat) (m1 m2 : Value) (hB : Blk w t [.int .u64 (seed : Int), .slice (some ⟨gA, 0, none⟩) n0 n0, .slice none 0 0, m1, m2] 67) (k : ByteArray) (hsd : seed < 18446744073709551616) (hk : k.size ≤ 9223372036854775807) (hn : 0 < n0) (hn2 : n0 ≤ 4398046511104) : Calls Try.prog 66 #[.pointer (some ⟨t, 0, none⟩), .int .i64 0, .string k] w (fun e w' => e = .returned (.int .i64 ((bkt seed n0 k : Nat) : Int)) ∧ Fr [] w w') := by
 have hF := Fr.refl [] w
 have hbk := bkt_lt seed k hn
 refine V.en 23 Try.func66 fun a h1 => ?_
 refine V.sr h1 [] 6 6 [] fun a h4 => ?_
 refine V.seq fun K5 k6 => ?_
 refine V.pl [([0,1,2,3,4,6,7,8,9,10,11,12,13],some (5,[11])),([14,15,16],none)] fun w7 hF8 hsw7 => ?_
 have hF_9 := hF.new hF8
 have hB_10 := hB.fr0 hF8
 refine V.pe h4 [(3, .b hB_10 0), (6, .b hB_10 1), (1, .q (.int .u64 ((n0 : Nat) : Int)) (V.w_u64 (by omega) (by omega)))] 7 19 [(10, .int .u64 (seed : Int)), (11, .string k), (17, .pointer (some ⟨t, 1, none⟩)), (20, .int .u64 ((n0 : Nat) : Int))] fun a h11 => ?_
 refine V.cl h11 (Go.Proofs.enters_of Try.func11 (by kernel_rfl) rfl) (hash_any w7 seed k (by omega) (by omega)) ?_
 rintro _ w13 ⟨rfl, hF12⟩
 refine ⟨_, rfl, fun a h14 => ?_⟩
 have hsw13 := hF12.size
 have hF_15 := hF_9.new hF12
 have hB_16 := hB_10.fr0 hF12
 have hhl12 := hashN_lt (seed := seed) (by omega) k
 refine V.eh (fun _ => held_blk (n := 1) (hx := (h11.e (v := (.pointer (some ⟨t, 1, none⟩))))) hB_10 hB_16 (by kernel_rfl) rfl (by simp only [List.length]; omega)) ?_
 refine V.pz h14 [(0, .remN .u64 (hashN seed k) n0), (0, .q (.int .i64 ((bkt seed n0 k : Nat) : Int)) (V.w_i64 (by omega) (by omega)))] 21 22 [(6, .int .i64 ((bkt seed n0 k : Nat) : Int))] fun a h17 => k6 _ _ ?_
 refine V.ret ?_
 refine V.r1 h17 (.int .i64 ((bkt seed n0 k : Nat) : Int)) ?_
 exact ⟨rfl, hF_15⟩
theorem bucket_M0 (w : World) (t : Nat) (seed n0 n1 c1 gA gB : Nat) (m1 m2 : Value) (hB : Blk w t [.int .u64 (seed : Int), .slice (some ⟨gA, 0, none⟩) n0 n0, .slice (some ⟨gB, 0, none⟩) n1 n1, m1, m2] 67) (k : ByteArray) (hsd : seed < 18446744073709551616) (hk : k.size ≤ 9223372036854775807) (hn : 0 < n0) (hn2 : n0 ≤ 4398046511104) : Calls Try.prog 66 #[.pointer (some ⟨t, 0, none⟩), .int .i64 0, .string k] w (fun e w' => e = .returned (.int .i64 ((bkt seed n0 k : Nat) : Int)) ∧ Fr [] w w') := by
 have hF := Fr.refl [] w
 have hbk := bkt_lt seed k hn
 refine V.en 23 Try.func66 fun a h1 => ?_
 refine V.sr h1 [] 6 6 [] fun a h4 => ?_
 refine V.seq fun K5 k6 => ?_
 refine V.pl [([0,1,2,3,4,6,7,8,9,10,11,12,13],some (5,[11])),([14,15,16],none)] fun w7 hF8 hsw7 => ?_
 have hF_9 := hF.new hF8
 have hB_10 := hB.fr0 hF8
 refine V.pe h4 [(3, .b hB_10 0), (6, .b hB_10 1), (1, .q (.int .u64 ((n0 : Nat) : Int)) (V.w_u64 (by omega) (by omega)))] 7 19 [(10, .int .u64 (seed : Int)), (11, .string k), (17, .pointer (some ⟨t, 1, none⟩)), (20, .int .u64 ((n0 : Nat) : Int))] fun a h11 => ?_
 refine V.cl h11 (Go.Proofs.enters_of Try.func11 (by kernel_rfl) rfl) (hash_any w7 seed k (by omega) (by omega)) ?_
 rintro _ w13 ⟨rfl, hF12⟩
 refine ⟨_, rfl, fun a h14 => ?_⟩
 have hsw13 := hF12.size
 have hF_15 := hF_9.new hF12
 have hB_16 := hB_10.fr0 hF12
 have hhl12 := hashN_lt (seed := seed) (by omega) k
 refine V.eh (fun _ => held_blk (n := 1) (hx := (h11.e (v := (.pointer (some ⟨t, 1, none⟩))))) hB_10 hB_16 (by kernel_rfl) rfl (by simp only [List.length]; omega)) ?_
 refine V.pz h14 [(0, .remN .u64 (hashN seed k) n0), (0, .q (.int .i64 ((bkt seed n0 k : Nat) : Int)) (V.w_i64 (by omega) (by omega)))] 21 22 [(6, .int .i64 ((bkt seed n0 k : Nat) : Int))] fun a h17 => k6 _ _ ?_
 refine V.ret ?_
 refine V.r1 h17 (.int .i64 ((bkt seed n0 k : Nat) : Int)) ?_
 exact ⟨rfl, hF_15⟩
theorem bucket_M1 (w : World) (t : Nat) (seed n0 n1 c1 gA gB : Nat) (m1 m2 : Value) (hB : Blk w t [.int .u64 (seed : Int), .slice (some ⟨gA, 0, none⟩) n0 n0, .slice (some ⟨gB, 0, none⟩) n1 n1, m1, m2] 67) (k : ByteArray) (hsd : seed < 18446744073709551616) (hk : k.size ≤ 9223372036854775807) (hn : 0 < n1) (hn2 : n1 ≤ 4398046511104) : Calls Try.prog 66 #[.pointer (some ⟨t, 0, none⟩), .int .i64 1, .string k] w (fun e w' => e = .returned (.int .i64 ((bkt seed n1 k : Nat) : Int)) ∧ Fr [] w w') := by
 have hF := Fr.refl [] w
 have hbk := bkt_lt seed k hn
 refine V.en 23 Try.func66 fun a h1 => ?_
 refine V.sr h1 [] 6 6 [] fun a h4 => ?_
 refine V.seq fun K5 k6 => ?_
 refine V.pl [([0,1,2,3,4,6,7,8,9,10,11,12,13],some (5,[11])),([14,15,16],none)] fun w7 hF8 hsw7 => ?_
 have hF_9 := hF.new hF8
 have hB_10 := hB.fr0 hF8
 refine V.pe h4 [(3, .b hB_10 0), (6, .b hB_10 2), (1, .q (.int .u64 ((n1 : Nat) : Int)) (V.w_u64 (by omega) (by omega)))] 7 19 [(10, .int .u64 (seed : Int)), (11, .string k), (17, .pointer (some ⟨t, 2, none⟩)), (20, .int .u64 ((n1 : Nat) : Int))] fun a h11 => ?_
 refine V.cl h11 (Go.Proofs.enters_of Try.func11 (by kernel_rfl) rfl) (hash_any w7 seed k (by omega) (by omega)) ?_
 rintro _ w13 ⟨rfl, hF12⟩
 refine ⟨_, rfl, fun a h14 => ?_⟩
 have hsw13 := hF12.size
 have hF_15 := hF_9.new hF12
 have hB_16 := hB_10.fr0 hF12
 have hhl12 := hashN_lt (seed := seed) (by omega) k
 refine V.eh (fun _ => held_blk (n := 1) (hx := (h11.e (v := (.pointer (some ⟨t, 2, none⟩))))) hB_10 hB_16 (by kernel_rfl) rfl (by simp only [List.length]; omega)) ?_
 refine V.pz h14 [(0, .remN .u64 (hashN seed k) n1), (0, .q (.int .i64 ((bkt seed n1 k : Nat) : Int)) (V.w_i64 (by omega) (by omega)))] 21 22 [(6, .int .i64 ((bkt seed n1 k : Nat) : Int))] fun a h17 => k6 _ _ ?_
 refine V.ret ?_
 refine V.r1 h17 (.int .i64 ((bkt seed n1 k : Nat) : Int)) ?_
 exact ⟨rfl, hF_15⟩
theorem find1_any (w : World) (kb : Nat) (x : ByteArray) (v : Int) (k : ByteArray) (hB : Blk w kb [.string k] 9) : Calls Try.prog 75 #[.agg #[.string x, .int .i64 v], .pointer (some ⟨kb, 0, none⟩)] w (fun e w' => e = .returned (.bool (decide (x = k))) ∧ Fr [] w w') := by
 have hF := Fr.refl [] w
 refine V.en 8 Try.func75 fun a h1 => ?_
 refine V.sg fun K2 k3 => ?_
 refine V.go (V.mk [(0, .agg #[.string x, .int .i64 v])] ⟨h1.e, trivial⟩ (by kernel_rfl) [.string x, .int .i64 v] 86 (fun b => .pointer (some ⟨b, 0, none⟩)) (by kernel_rfl) ?_)
 intro w5 b4 heb4 hB6 hF7 hsb4
 have hF_8 := hF.new hF7
 have hB_9 := hB.fr0 hF7
 refine V.pt h1 fun a h10 => ?_
 refine V.re h10 [] 3 3 [] fun a h11 => k3 _ _ ?_
 refine V.sr h11 [(1, .b hB6 0), (0, .b hB_9 0), (0, .seq x k)] 4 7 [(3, .bool (decide (x = k)))] fun a h14 => ?_
 refine V.ret ?_
 refine V.r1 h14 (.bool (decide (x = k))) ?_
 exact ⟨congrArg Ending.returned (congrArg Value.bool rfl), hF_8⟩
theorem ixf_any (w : World) (Z : Nat → Prop) (A0 : Option Addr) (c0 kb : Nat) (l : List (ByteArray × Int)) (k : ByteArray) (hS : SlR itI Z w (.slice A0 l.length c0) l) (hB : Blk w kb [.string k] 9) : Calls Try.prog 74 #[.slice A0 l.length c0, .func (.func 75) #[] #[.pointer (some ⟨kb, 0, none⟩)]] w (fun e w' => e = .returned (.int .i64 (ixI l k)) ∧ Fr [] w w') := by
 have hF := Fr.refl [] w
 have hlen0 := hS.len_le
 refine V.en 19 Try.func74 fun a h1 => ?_
 refine V.sr h1 [] 4 4 [] fun a h4 => ?_
 refine V.seq fun K5 k6 => ?_
 refine V.sr h4 [] 6 6 [(7, .int .i64 ((l.length : Nat) : Int)), (8, .int .i64 0)] fun a h9 => ?_
 refine V.block ?_
 refine V.loop1 (fun (i : Nat) a_ w_ => En 19 [] a_ [(0, .slice A0 l.length c0), (1, .func (.func 75) #[] #[.pointer (some ⟨kb, 0, none⟩)]), (7, .int .i64 ((l.length : Nat) : Int)), (8, .int .i64 (i : Int))] ∧ Fr [] w w_ ∧ SlR itI Z w_ (.slice A0 l.length c0) l ∧ Blk w_ kb [.string k] 9 ∧ (i ≤ l.length) ∧ (∀ (j : Nat) (x : ByteArray × Int), j < i → l[j]? = some x → x.1 ≠ k)) (fun (i : Nat) => l.length - i) 0 ?_ ?_
 ·
  refine ⟨(h9.eq 8 (v := (.int .i64 0)) (u := (.int .i64 (0 : Int))) (V.int_eq (by omega))).only _, hF, hS, hB, (by omega), (fun j x hj => by omega)⟩
 ·
  rintro i a10 w11 ⟨h12, hF_13, hS_14, hB_15, hi, hmiss⟩
  have hfs16 := hF_13.size
  have hlt17 := hB_15.lt
  refine V.sr h12 [] 1 0 [(9, .bool (decide ((i : Int) < ((l.length : Nat) : Int))))] fun a h20 => ?_
  refine V.seq fun K21 k22 => ?_
  refine V.cp h20 ((i : Int) < ((l.length : Nat) : Int)) (fun ht23 => ?_) (fun ht23 => ?_)
  ·
   refine V.skip ?_
   refine V.then_n (k22 _ _ ?_)
   refine V.seq fun K24 k25 => ?_
   refine V.block ?_
   refine V.sr h20 [] 10 10 [(5, .int .i64 (i : Int))] fun a h28 => ?_
   obtain ⟨g31, o32, hA33, hA33l, hA33z⟩ := hS_14.addr (by omega)
   obtain ⟨cs34, hok35, hE36⟩ := hS_14.els hA33 (i : Int) (by omega) (by omega)
   refine V.sg fun K29 k30 => ?_
   refine V.run h28 [(3, .ix g31 o32 l.length c0 .i64 (i : Int) 2 hA33)] 4 12 13 [(11, .func (.func 75) #[] #[.pointer (some ⟨kb, 0, none⟩)]), (14, .pointer (some ⟨g31, o32 + (i : Int).toNat * 2, none⟩))] fun a h37 => ?_
   obtain rfl : cs34 = [.string (at_ itI l (i : Int)).1, .int .i64 (at_ itI l (i : Int)).2] := hok35
   refine V.run h37 [(0, .ls ⟨g31, o32 + (i : Int).toNat * 2, none⟩ [.string ((at_ itI l (i : Int)).1), .int .i64 ((at_ itI l (i : Int)).2)] (hE36.cells 0 _ rfl))] 1 1 0 [(15, .agg #[.string ((at_ itI l (i : Int)).1), .int .i64 ((at_ itI l (i : Int)).2)])] fun a h38 => ?_
   refine V.cl h38 (Go.Proofs.enters_of Try.func75 (by kernel_rfl) rfl) (find1_any w11 kb ((at_ itI l (i : Int)).1) ((at_ itI l (i : Int)).2) k hB_15) ?_
   rintro _ w40 ⟨rfl, hF39⟩
   refine ⟨_, rfl, fun a h41 => ?_⟩
   have hsw40 := hF39.size
   have hF_42 := hF_13.new hF39
   have hS_43 := hS_14.fr0 hF39
   have hB_44 := hB_15.fr0 hF39
   refine V.nt (k30 _ _ ?_)
   refine V.cp h41 (((at_ itI l (i : Int)).1) = k) (fun ht46 => ?_) (fun ht46 => ?_)
   ·
    refine V.sr h41 [] 17 17 [(4, .int .i64 (i : Int))] fun a h49 => ?_
    refine V.ret (V.blk_r (V.then_r (V.then_r (V.blk_r (V.then_r ?_)))))
    refine V.r1 h49 (.int .i64 (i : Int)) ?_
    exact ⟨congrArg Ending.returned (int_eq (hit_end itI hmiss (by omega) ht46).symm), hF_42⟩
   ·
    refine V.skip (V.blk_n ?_)
    refine V.then_n (k25 _ _ ?_)
    refine V.rr h41 [(0, .i ((i : Int) + 1))] 18 18 [(8, .int .i64 ((i : Int) + 1))] fun a h50 => ?_
    refine V.then_n ?_
    refine ⟨i + 1, by omega, ?_⟩
    refine ⟨(h50.eq 8 (v := (.int .i64 ((i : Int) + 1))) (u := (.int .i64 ((i + 1) : Int))) (V.int_eq (by omega))).only _, hF_42, hS_43, hB_44, (by omega), (miss_step itI hmiss (by omega) ht46)⟩
  ·
   refine V.exit (V.then_e (V.then_e (V.blk_hit ?_)))
   refine V.then_n (k6 _ _ ?_)
   refine V.sr h20 [] 1 0 [(4, .int .i64 (-1))] fun a h53 => ?_
   refine V.ret ?_
   refine V.r1 h53 (.int .i64 (-1)) ?_
   exact ⟨congrArg Ending.returned (int_eq (miss_end hmiss (by omega)).symm), hF_13⟩
theorem find_N (w : World) (H : Nat → Prop) (av : List Nat) (t gA : Nat) (vsA : List Value) (T : Tb Int) (hok : T.Ok) (hT : TabN 67 87 86 itI w H av t gA vsA T) (k : ByteArray) (hk : k.size ≤ 9223372036854775807) (hb : T.b.length = 0) : Calls Try.prog 53 #[.pointer (some ⟨t, 0, none⟩), .string k] w (fun e w' => e = .returned (.tuple #[.agg #[.int .i64 (findT T k).1.1, .int .i64 (findT T k).1.2.1, .int .i64 (findT T k).1.2.2], .bool (findT T k).2]) ∧ Fr [] w w') := by
 have hF := Fr.refl [] w
 obtain ⟨hsd, hpa, hla, hlb, hmv, hmz, hnn, hcn, hks⟩ := hok
 obtain ⟨hB, hRA, hlA, hK, hne, hpt, hpg⟩ := hT
 have hltt := hB.lt
 have hltg := hRA.lt
 refine V.en 42 Try.func53 fun a h1 => ?_
 refine V.sg fun K2 k3 => ?_
 refine V.go (V.mk [(1, .string k)] ⟨h1.e, trivial⟩ (by kernel_rfl) [.string k] 9 (fun b => .pointer (some ⟨b, 0, none⟩)) (by kernel_rfl) ?_)
 intro w5 b4 heb4 hB6 hF7 hsb4
 have hF_8 := hF.new hF7
 have hB_9 := hB.fr0 hF7
 have hRA_10 := hRA.fr0 hF7
 have hK_11 := hK.alloc hF7 heb4 (by omega)
 refine V.pt h1 fun a h12 => ?_
 refine V.go (V.mk [] trivial (by kernel_rfl) [.int .i64 0, .int .i64 0, .int .i64 0] 82 (fun b => .pointer (some ⟨b, 0, none⟩)) (by kernel_rfl) ?_)
 intro w14 b13 heb13 hB15 hF16 hsb13
 have hF_17 := hF_8.new hF16
 have hB_18 := hB_9.fr0 hF16
 have hRA_19 := hRA_10.fr0 hF16
 have hK_20 := hK_11.alloc hF16 heb13 (by omega)
 have hB6_21 := hB6.fr0 hF16
 refine V.pt h12 fun a h22 => ?_
 refine V.re h22 [] 5 5 [] fun a h23 => k3 _ _ ?_
 refine V.seq fun K24 k25 => ?_
 refine V.sr h23 [] 1 0 [(9, .int .i64 0)] fun a h28 => ?_
 refine V.block ?_
 refine V.loopR 3 ?_
 refine V.rnd ?_
 refine V.sr h28 [] 1 0 [(10, .bool true)] fun a h31 => ?_
 refine V.seq fun K32 k33 => ?_
 refine V.ct h31 ?_
 refine V.skip ?_
 refine V.then_n (k33 _ _ ?_)
 refine V.seq fun K34 k35 => ?_
 refine V.block ?_
 refine V.sr h31 [] 11 11 [(6, .int .i64 0)] fun a h38 => ?_
 refine V.seq fun K39 k40 => ?_
 refine V.sr h38 [(5, .b hB_18 1)] 12 17 [(18, .bool false)] fun a h43 => ?_
 refine V.cf h43 ?_
 refine V.skip ?_
 refine V.then_n (k40 _ _ ?_)
 refine V.sg fun K44 k45 => ?_
 refine V.run h43 [(2, .b hB6_21 0)] 3 1 0 [(19, .pointer (some ⟨t, 0, none⟩)), (20, .int .i64 0), (21, .string k)] fun a h46 => ?_
 refine V.cl h46 (Go.Proofs.enters_of Try.func66 (by kernel_rfl) rfl) (bucket_N0 w14 t T.seed T.a.length 0 0 gA 0 (.int .i64 (T.moved : Int)) (.int .i64 (T.n : Int)) hB_18 k (by omega) (by omega) (by omega) (by omega)) ?_
 rintro _ w48 ⟨rfl, hF47⟩
 refine ⟨_, rfl, fun a h49 => ?_⟩
 have hsw48 := hF47.size
 have hF_50 := hF_17.new hF47
 have hB_51 := hB_18.fr0 hF47
 have hRA_52 := hRA_19.fr0 hF47
 have hK_53 := hK_20.fr0 hF47
 have hB6_54 := hB6_21.fr0 hF47
 have hB15_55 := hB15.fr0 hF47
 have hbl47 := bkt_lt T.seed k (n := T.a.length) (by omega)
 refine V.re h49 [] 1 0 [(7, .int .i64 ((bkt T.seed T.a.length k : Nat) : Int))] fun a h56 => k45 _ _ ?_
 obtain ⟨A59, c60, hv61⟩ := hK_53.getA hlA (i := (bkt T.seed T.a.length k)) (by omega) nilS
 have hS62 := hK_53.slA hlA (i := (bkt T.seed T.a.length k)) (by omega) hv61
 refine V.sg fun K57 k58 => ?_
 refine V.run h56 [(5, .b hB_51 1), (1, .ix gA 0 T.a.length T.a.length .i64 ((bkt T.seed T.a.length k : Nat) : Int) 1 rfl), (0, .l ⟨gA, 0 + ((bkt T.seed T.a.length k : Nat) : Int).toNat * 1, none⟩ (.slice A59 ((T.a.getD (bkt T.seed T.a.length k) []).length) c60) ((hRA_52.at (bkt T.seed T.a.length k) nilS (by omega)).trans (congrArg some hv61)))] 10 23 30 [(31, .slice A59 ((T.a.getD (bkt T.seed T.a.length k) []).length) c60), (32, .func (.func 75) #[] #[.pointer (some ⟨b4, 0, none⟩)])] fun a h63 => ?_
 refine V.cl h63 (Go.Proofs.enters_of Try.func74 (by kernel_rfl) rfl) (ixf_any w48 _ A59 c60 b4 (T.a.getD (bkt T.seed T.a.length k) []) k hS62 hB6_54) ?_
 rintro _ w65 ⟨rfl, hF64⟩
 refine ⟨_, rfl, fun a h66 => ?_⟩
 have hsw65 := hF64.size
 have hF_67 := hF_50.new hF64
 have hB_68 := hB_51.fr0 hF64
 have hB15_72 := hB15_55.fr0 hF64
 have hix64 := ixI_lt (T.a.getD (bkt T.seed T.a.length k) []) k
 refine V.re h66 [] 1 0 [(8, .int .i64 (ixI (T.a.getD (bkt T.seed T.a.length k) []) k))] fun a h74 => k58 _ _ ?_
 refine V.sr h74 [] 34 34 [(35, .bool (decide ((ixI (T.a.getD (bkt T.seed T.a.length k) []) k) ≥ 0)))] fun a h77 => ?_
 refine V.cp h77 ((ixI (T.a.getD (bkt T.seed T.a.length k) []) k) ≥ 0) (fun ht78 => ?_) (fun ht78 => ?_)
 ·
  refine V.sg fun K79 k80 => ?_
  refine V.run h77 [] 4 36 38 [(39, .agg #[.int .i64 0, .int .i64 ((bkt T.seed T.a.length k : Nat) : Int), .int .i64 (ixI (T.a.getD (bkt T.seed T.a.length k) []) k)])] fun a h84 => ?_
  refine V.go (V.stn b13 0 (.agg #[.int .i64 0, .int .i64 ((bkt T.seed T.a.length k : Nat) : Int), .int .i64 (ixI (T.a.getD (bkt T.seed T.a.length k) []) k)]) [.int .i64 0, .int .i64 ((bkt T.seed T.a.length k : Nat) : Int), .int .i64 (ixI (T.a.getD (bkt T.seed T.a.length k) []) k)] h84.e h84.e rfl rfl (by kernel_rfl) hB15_72 (by simp) [.int .i64 0, .int .i64 ((bkt T.seed T.a.length k : Nat) : Int), .int .i64 (ixI (T.a.getD (bkt T.seed T.a.length k) []) k)] rfl ?_)
  intro w81 hB82 hF83 hsw81
  have hF_85 := hF_67.own hF83 (by simp <;> omega)
  refine V.re h84 [] 1 0 [(5, .bool true)] fun a h90 => k80 _ _ ?_
  refine V.ret (V.blk_r (V.then_r (V.then_r (V.blk_r (V.then_r ?_)))))
  refine V.retCT h90.sd rfl _ (h90.e (v := (.pointer (some ⟨b13, 0, none⟩)))) (V.run_loadVar_agg (cs := [.int .i64 0, .int .i64 ((bkt T.seed T.a.length k : Nat) : Int), .int .i64 (ixI (T.a.getD (bkt T.seed T.a.length k) []) k)]) (by kernel_rfl) (blk_cells hB82 0 _ rfl)) (h90.e (v := (.bool true))) ?_
  refine ⟨?_, hF_85⟩
  unfold findT
  rw [if_pos (by omega)]
 ·
  refine V.skip (V.blk_n ?_)
  refine V.then_n (k35 _ _ ?_)
  refine V.rr h77 [] 40 40 [(9, .int .i64 1)] fun a h91 => ?_
  refine V.then_n ?_
  refine V.rnd ?_
  have h92 := h91.only [(0, .pointer (some ⟨t, 0, none⟩)), (3, .pointer (some ⟨b4, 0, none⟩)), (4, .pointer (some ⟨b13, 0, none⟩)), (9, .int .i64 1)]
  refine V.sr h92 [] 1 0 [(10, .bool true)] fun a h95 => ?_
  refine V.seq fun K96 k97 => ?_
  refine V.ct h95 ?_
  refine V.skip ?_
  refine V.then_n (k97 _ _ ?_)
  refine V.seq fun K98 k99 => ?_
  refine V.block ?_
  refine V.sr h95 [] 11 11 [(6, .int .i64 1)] fun a h102 => ?_
  refine V.seq fun K103 k104 => ?_
  refine V.sr h102 [(5, .b hB_68 2)] 12 17 [(18, .bool true)] fun a h107 => ?_
  refine V.ct h107 ?_
  refine V.exit (V.then_e (V.blk_hit ?_))
  refine V.then_n (k99 _ _ ?_)
  refine V.rr h107 [] 40 40 [(9, .int .i64 2)] fun a h108 => ?_
  refine V.then_n ?_
  refine V.rnd ?_
  refine V.sr h108 [] 1 0 [(10, .bool false)] fun a h111 => ?_
  refine V.seq fun K112 k113 => ?_
  refine V.cf h111 ?_
  refine V.exit (V.then_e (V.then_e (V.blk_hit ?_)))
  refine V.then_n (k25 _ _ ?_)
  refine V.sg fun K114 k115 => ?_
  refine V.run h111 [] 1 1 0 [(41, .agg #[.int .i64 0, .int .i64 0, .int .i64 0])] fun a h119 => ?_
  refine V.go (V.stn b13 0 (.agg #[.int .i64 0, .int .i64 0, .int .i64 0]) [.int .i64 0, .int .i64 0, .int .i64 0] h119.e h119.e rfl rfl (by kernel_rfl) hB15_72 (by simp) [.int .i64 0, .int .i64 0, .int .i64 0] rfl ?_)
  intro w116 hB117 hF118 hsw116
  have hF_120 := hF_67.own hF118 (by simp <;> omega)
  refine V.re h119 [] 1 0 [(5, .bool false)] fun a h125 => k115 _ _ ?_
  refine V.ret ?_
  refine V.retCT h125.sd rfl _ (h125.e (v := (.pointer (some ⟨b13, 0, none⟩)))) (V.run_loadVar_agg (cs := [.int .i64 0, .int .i64 0, .int .i64 0]) (by kernel_rfl) (blk_cells hB117 0 _ rfl)) (h125.e (v := (.bool false))) ?_
  refine ⟨?_, hF_120⟩
  unfold findT
  rw [if_neg (by omega), if_neg (by omega)]
theorem find_M (w : World) (H : Nat → Prop) (av : List Nat) (t gA gB : Nat) (vsA vsB : List Value) (T : Tb Int) (hok : T.Ok) (hT : TabM 67 87 86 itI w H av t gA gB vsA vsB T) (k : ByteArray) (hk : k.size ≤ 9223372036854775807) (hb : T.b.length ≠ 0) : Calls Try.prog 53 #[.pointer (some ⟨t, 0, none⟩), .string k] w (fun e w' => e = .returned (.tuple #[.agg #[.int .i64 (findT T k).1.1, .int .i64 (findT T k).1.2.1, .int .i64 (findT T k).1.2.2], .bool (findT T k).2]) ∧ Fr [] w w') := by
 have hF := Fr.refl [] w
 obtain ⟨hsd, hpa, hla, hlb, hmv, hmz, hnn, hcn, hks⟩ := hok
 obtain ⟨hB, hRA, hRB, hlA, hlB, hK, hne, hne2, hne3, hpt, hpg, hph⟩ := hT
 have hltg2 := hRB.lt
 have hltt := hB.lt
 have hltg := hRA.lt
 refine V.en 42 Try.func53 fun a h1 => ?_
 refine V.sg fun K2 k3 => ?_
 refine V.go (V.mk [(1, .string k)] ⟨h1.e, trivial⟩ (by kernel_rfl) [.string k] 9 (fun b => .pointer (some ⟨b, 0, none⟩)) (by kernel_rfl) ?_)
 intro w5 b4 heb4 hB6 hF7 hsb4
 have hF_8 := hF.new hF7
 have hB_9 := hB.fr0 hF7
 have hRA_10 := hRA.fr0 hF7
 have hRB_11 := hRB.fr0 hF7
 have hK_12 := hK.alloc hF7 heb4 (by omega)
 refine V.pt h1 fun a h13 => ?_
 refine V.go (V.mk [] trivial (by kernel_rfl) [.int .i64 0, .int .i64 0, .int .i64 0] 82 (fun b => .pointer (some ⟨b, 0, none⟩)) (by kernel_rfl) ?_)
 intro w15 b14 heb14 hB16 hF17 hsb14
 have hF_18 := hF_8.new hF17
 have hB_19 := hB_9.fr0 hF17
 have hRA_20 := hRA_10.fr0 hF17
 have hRB_21 := hRB_11.fr0 hF17
 have hK_22 := hK_12.alloc hF17 heb14 (by omega)
 have hB6_23 := hB6.fr0 hF17
 refine V.pt h13 fun a h24 => ?_
 refine V.re h24 [] 5 5 [] fun a h25 => k3 _ _ ?_
 refine V.seq fun K26 k27 => ?_
 refine V.sr h25 [] 1 0 [(9, .int .i64 0)] fun a h30 => ?_
 refine V.block ?_
 refine V.loopR 3 ?_
 refine V.rnd ?_
 refine V.sr h30 [] 1 0 [(10, .bool true)] fun a h33 => ?_
 refine V.seq fun K34 k35 => ?_
 refine V.ct h33 ?_
 refine V.skip ?_
 refine V.then_n (k35 _ _ ?_)
 refine V.seq fun K36 k37 => ?_
 refine V.block ?_
 refine V.sr h33 [] 11 11 [(6, .int .i64 0)] fun a h40 => ?_
 refine V.seq fun K41 k42 => ?_
 refine V.sr h40 [(5, .b hB_19 1)] 12 17 [(18, .bool false)] fun a h45 => ?_
 refine V.cf h45 ?_
 refine V.skip ?_
 refine V.then_n (k42 _ _ ?_)
 refine V.sg fun K46 k47 => ?_
 refine V.run h45 [(2, .b hB6_23 0)] 3 1 0 [(19, .pointer (some ⟨t, 0, none⟩)), (20, .int .i64 0), (21, .string k)] fun a h48 => ?_
 refine V.cl h48 (Go.Proofs.enters_of Try.func66 (by kernel_rfl) rfl) (bucket_M0 w15 t T.seed T.a.length T.b.length 0 gA gB (.int .i64 (T.moved : Int)) (.int .i64 (T.n : Int)) hB_19 k (by omega) (by omega) (by omega) (by omega)) ?_
 rintro _ w50 ⟨rfl, hF49⟩
 refine ⟨_, rfl, fun a h51 => ?_⟩
 have hsw50 := hF49.size
 have hF_52 := hF_18.new hF49
 have hB_53 := hB_19.fr0 hF49
 have hRA_54 := hRA_20.fr0 hF49
 have hRB_55 := hRB_21.fr0 hF49
 have hK_56 := hK_22.fr0 hF49
 have hB6_57 := hB6_23.fr0 hF49
 have hB16_58 := hB16.fr0 hF49
 have hbl49 := bkt_lt T.seed k (n := T.a.length) (by omega)
 refine V.re h51 [] 1 0 [(7, .int .i64 ((bkt T.seed T.a.length k : Nat) : Int))] fun a h59 => k47 _ _ ?_
 obtain ⟨A62, c63, hv64⟩ := hK_56.getA hlA (i := (bkt T.seed T.a.length k)) (by omega) nilS
 have hS65 := hK_56.slA hlA (i := (bkt T.seed T.a.length k)) (by omega) hv64
 refine V.sg fun K60 k61 => ?_
 refine V.run h59 [(5, .b hB_53 1), (1, .ix gA 0 T.a.length T.a.length .i64 ((bkt T.seed T.a.length k : Nat) : Int) 1 rfl), (0, .l ⟨gA, 0 + ((bkt T.seed T.a.length k : Nat) : Int).toNat * 1, none⟩ (.slice A62 ((T.a.getD (bkt T.seed T.a.length k) []).length) c63) ((hRA_54.at (bkt T.seed T.a.length k) nilS (by omega)).trans (congrArg some hv64)))] 10 23 30 [(31, .slice A62 ((T.a.getD (bkt T.seed T.a.length k) []).length) c63), (32, .func (.func 75) #[] #[.pointer (some ⟨b4, 0, none⟩)])] fun a h66 => ?_
 refine V.cl h66 (Go.Proofs.enters_of Try.func74 (by kernel_rfl) rfl) (ixf_any w50 _ A62 c63 b4 (T.a.getD (bkt T.seed T.a.length k) []) k hS65 hB6_57) ?_
 rintro _ w68 ⟨rfl, hF67⟩
 refine ⟨_, rfl, fun a h69 => ?_⟩
 have hsw68 := hF67.size
 have hF_70 := hF_52.new hF67
 have hB_71 := hB_53.fr0 hF67
 have hRB_73 := hRB_55.fr0 hF67
 have hK_74 := hK_56.fr0 hF67
 have hB6_75 := hB6_57.fr0 hF67
 have hB16_76 := hB16_58.fr0 hF67
 have hix67 := ixI_lt (T.a.getD (bkt T.seed T.a.length k) []) k
 refine V.re h69 [] 1 0 [(8, .int .i64 (ixI (T.a.getD (bkt T.seed T.a.length k) []) k))] fun a h78 => k61 _ _ ?_
 refine V.sr h78 [] 34 34 [(35, .bool (decide ((ixI (T.a.getD (bkt T.seed T.a.length k) []) k) ≥ 0)))] fun a h81 => ?_
 refine V.cp h81 ((ixI (T.a.getD (bkt T.seed T.a.length k) []) k) ≥ 0) (fun ht82 => ?_) (fun ht82 => ?_)
 ·
  refine V.sg fun K83 k84 => ?_
  refine V.run h81 [] 4 36 38 [(39, .agg #[.int .i64 0, .int .i64 ((bkt T.seed T.a.length k : Nat) : Int), .int .i64 (ixI (T.a.getD (bkt T.seed T.a.length k) []) k)])] fun a h88 => ?_
  refine V.go (V.stn b14 0 (.agg #[.int .i64 0, .int .i64 ((bkt T.seed T.a.length k : Nat) : Int), .int .i64 (ixI (T.a.getD (bkt T.seed T.a.length k) []) k)]) [.int .i64 0, .int .i64 ((bkt T.seed T.a.length k : Nat) : Int), .int .i64 (ixI (T.a.getD (bkt T.seed T.a.length k) []) k)] h88.e h88.e rfl rfl (by kernel_rfl) hB16_76 (by simp) [.int .i64 0, .int .i64 ((bkt T.seed T.a.length k : Nat) : Int), .int .i64 (ixI (T.a.getD (bkt T.seed T.a.length k) []) k)] rfl ?_)
  intro w85 hB86 hF87 hsw85
  have hF_89 := hF_70.own hF87 (by simp <;> omega)
  refine V.re h88 [] 1 0 [(5, .bool true)] fun a h95 => k84 _ _ ?_
  refine V.ret (V.blk_r (V.then_r (V.then_r (V.blk_r (V.then_r ?_)))))
  refine V.retCT h95.sd rfl _ (h95.e (v := (.pointer (some ⟨b14, 0, none⟩)))) (V.run_loadVar_agg (cs := [.int .i64 0, .int .i64 ((bkt T.seed T.a.length k : Nat) : Int), .int .i64 (ixI (T.a.getD (bkt T.seed T.a.length k) []) k)]) (by kernel_rfl) (blk_cells hB86 0 _ rfl)) (h95.e (v := (.bool true))) ?_
  refine ⟨?_, hF_89⟩
  unfold findT
  rw [if_pos (by omega)]
 ·
  refine V.skip (V.blk_n ?_)
  refine V.then_n (k37 _ _ ?_)
  refine V.rr h81 [] 40 40 [(9, .int .i64 1)] fun a h96 => ?_
  refine V.then_n ?_
  refine V.rnd ?_
  have h97 := h96.only [(0, .pointer (some ⟨t, 0, none⟩)), (3, .pointer (some ⟨b4, 0, none⟩)), (4, .pointer (some ⟨b14, 0, none⟩)), (9, .int .i64 1)]
  refine V.sr h97 [] 1 0 [(10, .bool true)] fun a h100 => ?_
  refine V.seq fun K101 k102 => ?_
  refine V.ct h100 ?_
  refine V.skip ?_
  refine V.then_n (k102 _ _ ?_)
  refine V.seq fun K103 k104 => ?_
  refine V.block ?_
  refine V.sr h100 [] 11 11 [(6, .int .i64 1)] fun a h107 => ?_
  refine V.seq fun K108 k109 => ?_
  refine V.sr h107 [(5, .b hB_71 2)] 12 17 [(18, .bool false)] fun a h112 => ?_
  refine V.cf h112 ?_
  refine V.skip ?_
  refine V.then_n (k109 _ _ ?_)
  refine V.sg fun K113 k114 => ?_
  refine V.run h112 [(2, .b hB6_75 0)] 3 1 0 [(19, .pointer (some ⟨t, 0, none⟩)), (20, .int .i64 1), (21, .string k)] fun a h115 => ?_
  refine V.cl h115 (Go.Proofs.enters_of Try.func66 (by kernel_rfl) rfl) (bucket_M1 w68 t T.seed T.a.length T.b.length 0 gA gB (.int .i64 (T.moved : Int)) (.int .i64 (T.n : Int)) hB_71 k (by omega) (by omega) (by omega) (by omega)) ?_
  rintro _ w117 ⟨rfl, hF116⟩
  refine ⟨_, rfl, fun a h118 => ?_⟩
  have hsw117 := hF116.size
  have hF_119 := hF_70.new hF116
  have hB_120 := hB_71.fr0 hF116
  have hRB_122 := hRB_73.fr0 hF116
  have hK_123 := hK_74.fr0 hF116
  have hB6_124 := hB6_75.fr0 hF116
  have hB16_125 := hB16_76.fr0 hF116
  have hbl116 := bkt_lt T.seed k (n := T.b.length) (by omega)
  refine V.re h118 [] 1 0 [(7, .int .i64 ((bkt T.seed T.b.length k : Nat) : Int))] fun a h127 => k114 _ _ ?_
  obtain ⟨A130, c131, hv132⟩ := hK_123.getB hlA (i := (bkt T.seed T.b.length k)) (by omega) nilS
  have hS133 := hK_123.slB hlA (i := (bkt T.seed T.b.length k)) (by omega) hv132
  refine V.sg fun K128 k129 => ?_
  refine V.run h127 [(5, .b hB_120 2), (1, .ix gB 0 T.b.length T.b.length .i64 ((bkt T.seed T.b.length k : Nat) : Int) 1 rfl), (0, .l ⟨gB, 0 + ((bkt T.seed T.b.length k : Nat) : Int).toNat * 1, none⟩ (.slice A130 ((T.b.getD (bkt T.seed T.b.length k) []).length) c131) ((hRB_122.at (bkt T.seed T.b.length k) nilS (by omega)).trans (congrArg some hv132)))] 10 23 30 [(31, .slice A130 ((T.b.getD (bkt T.seed T.b.length k) []).length) c131), (32, .func (.func 75) #[] #[.pointer (some ⟨b4, 0, none⟩)])] fun a h134 => ?_
  refine V.cl h134 (Go.Proofs.enters_of Try.func74 (by kernel_rfl) rfl) (ixf_any w117 _ A130 c131 b4 (T.b.getD (bkt T.seed T.b.length k) []) k hS133 hB6_124) ?_
  rintro _ w136 ⟨rfl, hF135⟩
  refine ⟨_, rfl, fun a h137 => ?_⟩
  have hsw136 := hF135.size
  have hF_138 := hF_119.new hF135
  have hB16_144 := hB16_125.fr0 hF135
  have hix135 := ixI_lt (T.b.getD (bkt T.seed T.b.length k) []) k
  refine V.re h137 [] 1 0 [(8, .int .i64 (ixI (T.b.getD (bkt T.seed T.b.length k) []) k))] fun a h147 => k129 _ _ ?_
  refine V.sr h147 [] 34 34 [(35, .bool (decide ((ixI (T.b.getD (bkt T.seed T.b.length k) []) k) ≥ 0)))] fun a h150 => ?_
  refine V.cp h150 ((ixI (T.b.getD (bkt T.seed T.b.length k) []) k) ≥ 0) (fun ht151 => ?_) (fun ht151 => ?_)
  ·
   refine V.sg fun K152 k153 => ?_
   refine V.run h150 [] 4 36 38 [(39, .agg #[.int .i64 1, .int .i64 ((bkt T.seed T.b.length k : Nat) : Int), .int .i64 (ixI (T.b.getD (bkt T.seed T.b.length k) []) k)])] fun a h157 => ?_
   refine V.go (V.stn b14 0 (.agg #[.int .i64 1, .int .i64 ((bkt T.seed T.b.length k : Nat) : Int), .int .i64 (ixI (T.b.getD (bkt T.seed T.b.length k) []) k)]) [.int .i64 1, .int .i64 ((bkt T.seed T.b.length k : Nat) : Int), .int .i64 (ixI (T.b.getD (bkt T.seed T.b.length k) []) k)] h157.e h157.e rfl rfl (by kernel_rfl) hB16_144 (by simp) [.int .i64 1, .int .i64 ((bkt T.seed T.b.length k : Nat) : Int), .int .i64 (ixI (T.b.getD (bkt T.seed T.b.length k) []) k)] rfl ?_)
   intro w154 hB155 hF156 hsw154
   have hF_158 := hF_138.own hF156 (by simp <;> omega)
   refine V.re h157 [] 1 0 [(5, .bool true)] fun a h164 => k153 _ _ ?_
   refine V.ret (V.blk_r (V.then_r (V.then_r (V.blk_r (V.then_r ?_)))))
   refine V.retCT h164.sd rfl _ (h164.e (v := (.pointer (some ⟨b14, 0, none⟩)))) (V.run_loadVar_agg (cs := [.int .i64 1, .int .i64 ((bkt T.seed T.b.length k : Nat) : Int), .int .i64 (ixI (T.b.getD (bkt T.seed T.b.length k) []) k)]) (by kernel_rfl) (blk_cells hB155 0 _ rfl)) (h164.e (v := (.bool true))) ?_
   refine ⟨?_, hF_158⟩
   unfold findT
   rw [if_neg (by omega), if_pos ⟨by omega, by omega⟩]
  ·
   refine V.skip (V.blk_n ?_)
   refine V.then_n (k104 _ _ ?_)
   refine V.rr h150 [] 40 40 [(9, .int .i64 2)] fun a h165 => ?_
   refine V.then_n ?_
   refine V.rnd ?_
   have h166 := h165.only [(0, .pointer (some ⟨t, 0, none⟩)), (3, .pointer (some ⟨b4, 0, none⟩)), (4, .pointer (some ⟨b14, 0, none⟩)), (9, .int .i64 2)]
   refine V.sr h166 [] 1 0 [(10, .bool false)] fun a h169 => ?_
   refine V.seq fun K170 k171 => ?_
   refine V.cf h169 ?_
   refine V.exit (V.then_e (V.then_e (V.blk_hit ?_)))
   refine V.then_n (k27 _ _ ?_)
   refine V.sg fun K172 k173 => ?_
   refine V.run h169 [] 1 1 0 [(41, .agg #[.int .i64 0, .int .i64 0, .int .i64 0])] fun a h177 => ?_
   refine V.go (V.stn b14 0 (.agg #[.int .i64 0, .int .i64 0, .int .i64 0]) [.int .i64 0, .int .i64 0, .int .i64 0] h177.e h177.e rfl rfl (by kernel_rfl) hB16_144 (by simp) [.int .i64 0, .int .i64 0, .int .i64 0] rfl ?_)
   intro w174 hB175 hF176 hsw174
   have hF_178 := hF_138.own hF176 (by simp <;> omega)
   refine V.re h177 [] 1 0 [(5, .bool false)] fun a h184 => k173 _ _ ?_
   refine V.ret ?_
   refine V.retCT h184.sd rfl _ (h184.e (v := (.pointer (some ⟨b14, 0, none⟩)))) (V.run_loadVar_agg (cs := [.int .i64 0, .int .i64 0, .int .i64 0]) (by kernel_rfl) (blk_cells hB175 0 _ rfl)) (h184.e (v := (.bool false))) ?_
   refine ⟨?_, hF_178⟩
   unfold findT
   rw [if_neg (by omega), if_neg (by omega)]
end Go.Proofs.Ytalhmegjomfbaaa
end
section
namespace Go.V
set_option linter.unusedVariables false
set_option linter.unusedSimpArgs false
section
variable {α : Type}
def startT (T : Tb α) (n : Nat) : Tb α := { T with b := List.replicate n [], moved := 0 }
def putB (seed : Nat) (b : List (List (ByteArray × α))) (x : ByteArray × α) : List (List (ByteArray × α)) := b.set (bkt seed b.length x.1) (b.getD (bkt seed b.length x.1) [] ++ [x])
def movedT (T : Tb α) : Tb α := { T with a := T.a.set T.moved [], b := (T.a.getD T.moved []).foldl (putB T.seed) T.b, moved := T.moved + 1 }
def swapT (T : Tb α) : Tb α := { T with a := T.b, b := [], moved := 0 }
def tbStep (T : Tb α) : Tb α :=
  if T.b.length = 0 then T
  else if T.moved + 1 < T.a.length then movedT T
  else if T.n > (movedT T).b.length then startT (swapT (movedT T)) (2 * (movedT T).b.length) else swapT (movedT T)
/-- A value anew, at a place. -/
def setV (l : List (List (ByteArray × α))) (i j : Nat) (v : α) : List (List (ByteArray × α)) := l.set i ((l.getD i []).modify j fun x => (x.1, v))
def insT (T : Tb α) (k : ByteArray) (v : α) : Tb α :=
  if T.b.length = 0 then
    if T.n + 1 > T.a.length then startT { T with a := putB T.seed T.a (k, v), n := T.n + 1 } (2 * T.a.length) else { T with a := putB T.seed T.a (k, v), n := T.n + 1 }
  else { T with b := putB T.seed T.b (k, v), n := T.n + 1 }
def updT (T : Tb α) (k : ByteArray) (v : α) : Tb α :=
  if (findT T k).1.1 = 0 then { T with a := setV T.a (findT T k).1.2.1.toNat (findT T k).1.2.2.toNat v } else { T with b := setV T.b (findT T k).1.2.1.toNat (findT T k).1.2.2.toNat v }
def put1T (T : Tb α) (k : ByteArray) (v : α) : Tb α := if (findT T k).2 = true then updT T k v else insT T k v
def putT (T : Tb α) (k : ByteArray) (v : α) : Tb α := put1T (tbStep T) k v
theorem putB_length (seed : Nat) (b : List (List (ByteArray × α))) (x : ByteArray × α) : (putB seed b x).length = b.length := by simp [putB]
theorem putBs_length (seed : Nat) : ∀ (l : List (ByteArray × α)) (b : List (List (ByteArray × α))), (l.foldl (putB seed) b).length = b.length
  | [], b => rfl
  | x :: l, b => by rw [List.foldl_cons, putBs_length seed l, putB_length]
theorem movedT_b (T : Tb α) : (movedT T).b.length = T.b.length := putBs_length _ _ _
theorem movedT_a (T : Tb α) : (movedT T).a.length = T.a.length := by simp [movedT]
/-! how many -/
theorem flat_set {β : Type} : ∀ (l : List (List β)) (i : Nat) (y : List β), i < l.length → (l.set i y).flatten.length + (l.getD i []).length = l.flatten.length + y.length
  | [], i, y, h => by simp at h
  | x :: l, 0, y, h => by simp; omega
  | x :: l, i + 1, y, h => by
    have := flat_set l i y (by simpa using h)
    simp at this ⊢
    omega
theorem flat_getD {β : Type} (l : List (List β)) (i : Nat) : (l.getD i []).length ≤ l.flatten.length := by
  rcases Nat.lt_or_ge i l.length with h | h
  · have := flat_set l i [] h
    simp at this ⊢; omega
  · rw [List.getD_eq_getElem?_getD, List.getElem?_eq_none h]; simp
theorem flat_nil {β : Type} (n : Nat) : (List.replicate n ([] : List β)).flatten.length = 0 := by simp
theorem putB_flat {seed : Nat} {b : List (List (ByteArray × α))} (h : 0 < b.length) (x : ByteArray × α) : (putB seed b x).flatten.length = b.flatten.length + 1 := by
  have := flat_set b (bkt seed b.length x.1) (b.getD (bkt seed b.length x.1) [] ++ [x]) (Nat.mod_lt _ h)
  unfold putB
  rw [List.length_append] at this
  simp at this ⊢; omega
theorem putBs_flat {seed : Nat} : ∀ (l : List (ByteArray × α)) (b : List (List (ByteArray × α))), 0 < b.length → (l.foldl (putB seed) b).flatten.length = b.flatten.length + l.length
  | [], b, h => rfl
  | x :: l, b, h => by rw [List.foldl_cons, putBs_flat l _ (by rw [putB_length]; exact h), putB_flat h, List.length_cons]; omega
theorem setV_length (l : List (List (ByteArray × α))) (i j : Nat) (v : α) : (setV l i j v).length = l.length := by simp [setV]
theorem setV_flat (l : List (List (ByteArray × α))) (i j : Nat) (v : α) : (setV l i j v).flatten.length = l.flatten.length := by
  unfold setV
  rcases Nat.lt_or_ge i l.length with h | h
  · have := flat_set l i ((l.getD i []).modify j fun x => (x.1, v)) h
    rw [List.length_modify] at this
    omega
  · rw [List.set_eq_of_length_le h]
theorem Tb.Ok.sum {T : Tb α} (h : T.Ok) : T.a.flatten.length + T.b.flatten.length = T.n := by
  have := h.cn
  rwa [List.flatten_append, List.length_append] at this
theorem Tb.Ok.bl {T : Tb α} (h : T.Ok) (i : Nat) : (T.a.getD i []).length ≤ T.n ∧ (T.b.getD i []).length ≤ T.n := by
  have := h.sum
  have := flat_getD T.a i
  have := flat_getD T.b i
  omega
theorem Tb.Ok.moved {T : Tb α} (h : T.Ok) (hb : T.b.length ≠ 0) : (movedT T).a.flatten.length + (movedT T).b.flatten.length = T.n ∧ ((movedT T).a.getD T.moved []) = [] := by
  have h1 := h.sum
  have h2 := flat_set T.a T.moved [] (h.mv hb)
  have h3 := putBs_flat (seed := T.seed) (T.a.getD T.moved []) T.b (by omega)
  refine ⟨?_, getD_set_self (h.mv hb) _ _⟩
  show (T.a.set T.moved []).flatten.length + ((T.a.getD T.moved []).foldl (putB T.seed) T.b).flatten.length = T.n
  rw [List.length_nil] at h2
  omega
/-- All keys of a row are of a length that there is. -/
def KsR (l : List (List (ByteArray × α))) : Prop := ∀ (i : Nat), ∀ x ∈ l.getD i [], x.1.size ≤ 9223372036854775807
theorem getD_nil {β : Type} {l : List (List β)} {i : Nat} (h : l.length ≤ i) : l.getD i [] = [] := by rw [List.getD_eq_getElem?_getD, List.getElem?_eq_none h]; rfl
theorem KsR.set {l : List (List (ByteArray × α))} (h : KsR l) (i : Nat) {y : List (ByteArray × α)} (hy : ∀ x ∈ y, x.1.size ≤ 9223372036854775807) : KsR (l.set i y) := by
  intro j x hx
  by_cases hj : i = j
  · subst hj
    rcases Nat.lt_or_ge i l.length with hl | hl
    · rw [getD_set_self hl] at hx; exact hy x hx
    · rw [List.set_eq_of_length_le hl] at hx; exact h i x hx
  · rw [getD_set_ne hj] at hx; exact h j x hx
theorem KsR.put {seed : Nat} {b : List (List (ByteArray × α))} (h : KsR b) {x : ByteArray × α} (hx : x.1.size ≤ 9223372036854775807) : KsR (putB seed b x) :=
  KsR.set h _ fun y hy => by
    rcases List.mem_append.1 hy with hy | hy
    · exact h _ y hy
    · rw [List.mem_singleton.1 hy]; exact hx
theorem KsR.puts {seed : Nat} : ∀ (l : List (ByteArray × α)) {b : List (List (ByteArray × α))}, KsR b → (∀ x ∈ l, x.1.size ≤ 9223372036854775807) → KsR (l.foldl (putB seed) b)
  | [], b, h, _ => h
  | x :: l, b, h, hl => KsR.puts l (h.put (hl x (List.mem_cons_self ..))) fun y hy => hl y (List.mem_cons_of_mem _ hy)
theorem KsR.nils (n : Nat) : KsR (List.replicate n ([] : List (ByteArray × α))) := by
  intro i x hx
  have : (List.replicate n ([] : List (ByteArray × α))).getD i [] = [] := by
    rw [List.getD_eq_getElem?_getD, List.getElem?_replicate]; split <;> rfl
  rw [this] at hx; cases hx
theorem KsR.setV {l : List (List (ByteArray × α))} (h : KsR l) (i j : Nat) (v : α) : KsR (setV l i j v) :=
  KsR.set h _ fun y hy => by
    obtain ⟨q, hq⟩ := List.mem_iff_getElem?.1 hy
    rw [List.getElem?_modify] at hq
    obtain ⟨z, hz, rfl⟩ := Option.map_eq_some_iff.1 hq
    have := h i z (List.mem_of_getElem? hz)
    split <;> exact this
theorem ks_at {R : Rp (ByteArray × α)} {l : List (ByteArray × α)} (h : ∀ x ∈ l, x.1.size ≤ 9223372036854775807) {i : Int} (h0 : 0 ≤ i) (h1 : i < l.length) : (at_ R l i).1.size ≤ 9223372036854775807 := h _ (List.mem_of_getElem? (at_some R h0 h1))
theorem startT_ok {T : Tb α} (h : T.Ok) (hb : T.b = []) {n : Nat} (hn : 0 < n) (hn2 : n ≤ 4398046511104) : (startT T n).Ok :=
  ⟨h.sd, h.pa, h.la, by simp [startT]; exact hn2, fun _ => h.pa, fun _ => rfl, h.nn, by
    have := h.sum
    rw [List.flatten_append, List.length_append]
    show T.a.flatten.length + (List.replicate n []).flatten.length = T.n
    rw [flat_nil]
    rw [hb] at this
    exact this, h.ks.1, KsR.nils n⟩
/-- While it moves: the buckets that were moved hold nothing. -/
def Tb.Mv (T : Tb α) : Prop := ∀ i, i < T.moved → T.a.getD i [] = []
theorem flat_zero {β : Type} : ∀ (l : List (List β)), (∀ i, l.getD i [] = []) → l.flatten.length = 0
  | [], _ => rfl
  | x :: l, h => by
    have h0 := h 0
    have := flat_zero l (fun i => by simpa using h (i + 1))
    simp at h0 ⊢
    simp at this
    exact ⟨h0, this⟩
theorem tbStep_ok {T : Tb α} (h : T.Ok) (hm : T.Mv) : (tbStep T).Ok ∧ (tbStep T).Mv := by
  unfold tbStep
  by_cases hb : T.b.length = 0
  · rw [if_pos hb]; exact ⟨h, hm⟩
  rw [if_neg hb]
  obtain ⟨h1, h2⟩ := h.moved hb
  have hmv := h.mv hb
  have hmm : ∀ i, i < T.moved + 1 → (movedT T).a.getD i [] = [] := by
    intro i hi
    by_cases he : i = T.moved
    · subst he; exact h2
    · show (T.a.set T.moved []).getD i [] = []
      rw [getD_set_ne (fun e => he e.symm)]; exact hm i (by omega)
  by_cases hl : T.moved + 1 < T.a.length
  · rw [if_pos hl]
    exact ⟨⟨h.sd, by rw [movedT_a]; exact h.pa, by rw [movedT_a]; exact h.la, by rw [movedT_b]; exact h.lb, fun _ => by rw [movedT_a]; exact hl, fun h0 => absurd (by rw [movedT_b] at h0; exact h0) hb, h.nn, by rw [List.flatten_append, List.length_append]; exact h1, KsR.set h.ks.1 _ (fun x hx => by cases hx), KsR.puts _ h.ks.2 (h.ks.1 T.moved)⟩, hmm⟩
  · rw [if_neg hl]
    have hz : (movedT T).a.flatten.length = 0 := flat_zero _ fun i => by
      rcases Nat.lt_or_ge i T.a.length with hi | hi
      · exact hmm i (by omega)
      · rw [List.getD_eq_getElem?_getD, List.getElem?_eq_none (by rw [movedT_a]; exact hi)]; rfl
    have hs : (swapT (movedT T)).Ok := ⟨h.sd, by show 0 < (movedT T).b.length; rw [movedT_b]; omega, by show (movedT T).b.length ≤ _; rw [movedT_b]; exact h.lb, by show 0 ≤ _; omega, fun h0 => absurd rfl h0, fun _ => rfl, h.nn, by
      show ((movedT T).b ++ []).flatten.length = T.n
      rw [List.append_nil]; omega, KsR.puts _ h.ks.2 (h.ks.1 T.moved), fun i x hx => by rw [getD_nil (Nat.zero_le _)] at hx; cases hx⟩
    by_cases hn : T.n > (movedT T).b.length
    · rw [if_pos hn]
      have := h.nn
      exact ⟨startT_ok hs rfl (by rw [movedT_b]; omega) (by omega), fun i hi => absurd hi (by show ¬ i < 0; omega)⟩
    · rw [if_neg hn]; exact ⟨hs, fun i hi => absurd hi (by show ¬ i < 0; omega)⟩
theorem findT_cases {T : Tb α} (h : T.Ok) (k : ByteArray) :
    (findT T k = ((0, 0, 0), false)) ∨ (∃ j : Nat, findT T k = ((0, (bkt T.seed T.a.length k : Int), (j : Int)), true) ∧ j < (T.a.getD (bkt T.seed T.a.length k) []).length) ∨
      (T.b.length ≠ 0 ∧ ∃ j : Nat, findT T k = ((1, (bkt T.seed T.b.length k : Int), (j : Int)), true) ∧ j < (T.b.getD (bkt T.seed T.b.length k) []).length) := by
  unfold findT
  have h1 := ixI_lt (T.a.getD (bkt T.seed T.a.length k) []) k
  have h2 := ixI_lt (T.b.getD (bkt T.seed T.b.length k) []) k
  split
  · refine .inr (.inl ⟨(ixI (T.a.getD (bkt T.seed T.a.length k) []) k).toNat, ?_, by omega⟩)
    rw [show (((ixI (T.a.getD (bkt T.seed T.a.length k) []) k).toNat : Nat) : Int) = ixI (T.a.getD (bkt T.seed T.a.length k) []) k by omega]
  · split
    · rename_i hb
      refine .inr (.inr ⟨hb.1, (ixI (T.b.getD (bkt T.seed T.b.length k) []) k).toNat, ?_, by omega⟩)
      rw [show (((ixI (T.b.getD (bkt T.seed T.b.length k) []) k).toNat : Nat) : Int) = ixI (T.b.getD (bkt T.seed T.b.length k) []) k by omega]
    · exact .inl rfl
theorem insT_ok {T : Tb α} (h : T.Ok) (hm : T.Mv) (hn : T.n < 1099511627776) (k : ByteArray) (hk : k.size ≤ 9223372036854775807) (v : α) : (insT T k v).Ok ∧ (insT T k v).Mv := by
  have hs := h.sum
  unfold insT
  by_cases hb : T.b.length = 0
  · rw [if_pos hb]
    have hb' : T.b = [] := List.eq_nil_of_length_eq_zero hb
    have ho : ({ T with a := putB T.seed T.a (k, v), n := T.n + 1 } : Tb α).Ok := ⟨h.sd, by show 0 < (putB _ _ _).length; rw [putB_length]; exact h.pa, by show (putB _ _ _).length ≤ _; rw [putB_length]; exact h.la, h.lb, fun h0 => absurd hb h0, fun _ => h.mz hb, by show T.n + 1 ≤ _; omega, by
      show (putB T.seed T.a (k, v) ++ T.b).flatten.length = T.n + 1
      rw [List.flatten_append, List.length_append, putB_flat h.pa]; omega, KsR.put h.ks.1 hk, h.ks.2⟩
    have hm0 := h.mz hb
    by_cases hg : T.n + 1 > T.a.length
    · rw [if_pos hg]
      exact ⟨startT_ok ho hb' (by have := h.pa; omega) (by omega), fun i hi => absurd hi (by show ¬ i < 0; omega)⟩
    · rw [if_neg hg]; exact ⟨ho, fun i hi => absurd hi (by show ¬ i < T.moved; omega)⟩
  · rw [if_neg hb]
    refine ⟨⟨h.sd, h.pa, h.la, by show (putB _ _ _).length ≤ _; rw [putB_length]; exact h.lb, fun _ => h.mv hb, fun h0 => absurd (by have h1 : (putB T.seed T.b (k, v)).length = 0 := h0; rwa [putB_length] at h1) hb, by show T.n + 1 ≤ _; omega, ?_, h.ks.1, KsR.put h.ks.2 hk⟩, hm⟩
    show (T.a ++ putB T.seed T.b (k, v)).flatten.length = T.n + 1
    rw [List.flatten_append, List.length_append, putB_flat (by omega)]; omega
theorem updT_ok {T : Tb α} (h : T.Ok) (hm : T.Mv) (k : ByteArray) (v : α) : (updT T k v).Ok ∧ (updT T k v).Mv := by
  have hs := h.sum
  unfold updT
  split
  · refine ⟨⟨h.sd, by show 0 < (setV ..).length; rw [setV_length]; exact h.pa, by show (setV ..).length ≤ _; rw [setV_length]; exact h.la, h.lb, fun h0 => by show _ < (setV ..).length; rw [setV_length]; exact h.mv h0, h.mz, h.nn, by
      show (setV .. ++ T.b).flatten.length = T.n
      rw [List.flatten_append, List.length_append, setV_flat]; omega, KsR.setV h.ks.1 _ _ v, h.ks.2⟩, fun i hi => ?_⟩
    show (setV ..).getD i [] = []
    have h0 := hm i hi
    unfold setV
    by_cases he : (findT T k).1.2.1.toNat = i
    · rcases Nat.lt_or_ge i T.a.length with hl | hl
      · rw [he, getD_set_self hl, h0]; simp
      · rw [List.getD_eq_getElem?_getD, List.getElem?_eq_none (by simpa using hl)]; rfl
    · rw [getD_set_ne he]; exact h0
  · refine ⟨⟨h.sd, h.pa, h.la, by show (setV ..).length ≤ _; rw [setV_length]; exact h.lb, fun h0 => h.mv (by have h1 : (setV ..).length ≠ 0 := h0; rwa [setV_length] at h1), fun h0 => h.mz (by have h1 : (setV ..).length = 0 := h0; rwa [setV_length] at h1), h.nn, by
      show (T.a ++ setV ..).flatten.length = T.n
      rw [List.flatten_append, List.length_append, setV_flat]; omega, h.ks.1, KsR.setV h.ks.2 _ _ v⟩, hm⟩
theorem put1T_ok {T : Tb α} (h : T.Ok) (hm : T.Mv) (hn : T.n < 1099511627776) (k : ByteArray) (hk : k.size ≤ 9223372036854775807) (v : α) : (put1T T k v).Ok ∧ (put1T T k v).Mv := by
  unfold put1T
  split
  · exact updT_ok h hm k v
  · exact insT_ok h hm hn k hk v
end
end Go.V
end
section
namespace Go.V
open Go.Base Go.RowKit
set_option linter.unusedVariables false
section
variable {α : Type} {R : Rp α} {w w1 : World}
theorem Cells.setc (hs : w.heap.size ≤ w1.heap.size) {f : Nat} {u : Value} (hf : f < R.sz) {y : α} : ∀ {xs : List α} {cs : List Value} {j : Nat} {x : α}, Cells R NoZ w xs cs → xs[j]? = some x → (∀ c, R.ok NoZ w x c → R.ok NoZ w1 y (c.set f u)) → Cells R NoZ w1 (xs.set j y) (cs.set (j * R.sz + f) u)
  | [], cs, j, x, _, hj, _ => by simp at hj
  | z :: xs, cs, 0, x, ⟨c, r, e, h1, h2⟩, hj, hok => by
    simp at hj; subst hj; subst e
    refine ⟨c.set f u, r, ?_, hok c h1, h2.mono (fun b hb hz => hz.elim) hs⟩
    rw [Nat.zero_mul, Nat.zero_add, List.set_append_left _ _ (by rw [R.len h1]; exact hf)]
  | z :: xs, cs, j + 1, x, ⟨c, r, e, h1, h2⟩, hj, hok => by
    subst e
    refine ⟨c, r.set (j * R.sz + f) u, ?_, R.mono (fun b hb hz => hz.elim) hs h1, Cells.setc hs hf h2 (by simpa using hj) hok⟩
    have hl := R.len h1
    rw [List.set_append_right _ _ (by rw [hl, Nat.add_mul]; omega)]
    congr 2
    rw [hl, Nat.add_mul]; omega
theorem own_set {base g o n c : Nat} {e : TypeId} {xs : List α} (ho : OwR R NoZ w base e (.slice (some ⟨g, o, none⟩) n c) xs) {j f : Nat} {x : α} (hx : xs[j]? = some x) (hf : f < R.sz) {u : Value} {y : α} :
    ∃ cur : List Value, o = 0 ∧ Blk w g cur e ∧ j * R.sz + f < cur.length ∧ ∀ w1, Blk w1 g (cur.set (j * R.sz + f) u) e → w.heap.size ≤ w1.heap.size → (∀ c, R.ok NoZ w x c → R.ok NoZ w1 y (c.set f u)) → OwR R NoZ w1 base e (.slice (some ⟨g, o, none⟩) n c) (xs.set j y) := by
  obtain ⟨cs, h1, h2, h3⟩ := ho
  have hj : j < xs.length := (List.getElem?_eq_some_iff.1 hx).1
  rcases h1.2 with ⟨h, _⟩ | ⟨g', cap, cur, he, hb, hh, hnc, hcm, hsz, htk⟩
  · cases h
  · injection he with e1 e2 e3
    injection e1 with e1
    injection e1 with e1 e4
    subst e1; subst e4; subst e2; subst e3
    have hjs : j * R.sz + f < xs.length * R.sz := Nat.lt_of_lt_of_le (show j * R.sz + f < (j + 1) * R.sz by rw [Nat.add_mul]; omega) (Nat.mul_le_mul_right _ hj)
    have hcl : xs.length * R.sz ≤ cur.size := by rw [hsz]; exact Nat.mul_le_mul_right _ hnc
    refine ⟨cur.toList, rfl, by unfold Blk; rw [hh], by rw [Array.length_toList]; omega, fun w1 hB1 hs hok => ?_⟩
    refine ⟨cs.set (j * R.sz + f) u, ⟨by rw [List.length_set, List.length_set]; exact h1.1, .inr ⟨g, c, (cur.toList.set (j * R.sz + f) u).toArray, by rw [List.length_set], hb, hB1, by rw [List.length_set]; exact hnc, hcm, by simp [hsz], ?_⟩⟩, Cells.setc hs hf h2 hx hok, fun b hb' hz => hz.elim⟩
    rw [List.length_set, List.toList_toArray, List.take_set, htk]
end
section
variable {α : Type} {R : Rp α} {w : World} {e : TypeId} {H : Nat → Prop} {av : List Nat} {vs vsA vsB : List Value} {xs xa xb : List (List α)} {i j f : Nat} {d v : Value}
variable {ro : Option Nat} {P : Program} {Q : Exit → Act → World → Prop} {a : Act} {ops : Array Oper} {rest : List Oper} {ty : TypeId} {pos : String} {aft : Array Edge} {g : Option (Nat × Bool)}
theorem Bks.setE {w1 : World} {g o n c : Nat} (h : Bks R w e H av vs xs) (hi : i < xs.length) (hv : vs[i]? = some (.slice (some ⟨g, o, none⟩) n c)) {x' : List α} (f : Fr [g] w w1) (ho : OwR R NoZ w1 0 e (.slice (some ⟨g, o, none⟩) n c) x') : Bks R w1 e H av vs (xs.set i x') := by
  have hil : i < vs.length := by rw [h.len]; exact hi
  refine ⟨by simp [h.len], fun k u hu => ?_, h.nd, h.hom, fun k hk => Nat.lt_of_lt_of_le (h.avl k hk) f.size⟩
  by_cases hk : k = i
  · subst hk
    rw [hv] at hu; injection hu with hu; subst hu
    rw [getD_set_self hi]; exact ho
  · rw [getD_set_ne (fun e => hk e.symm)]
    exact (h.own k u hu).fr f (fun b _ hz => hz.elim) fun b hb hm => by
      simp at hm; subst hm
      exact hk (h.nd k i u _ b hu hv hb rfl)
theorem stB {t : TypeId} {x y : Operand} {g0 o0 n c : Nat} (h : Bks R w e H av vs xs) (hi : i < xs.length) (hv : vs[i]? = some (.slice (some ⟨g0, o0, none⟩) n c)) (hj : j < (xs.getD i []).length) (hf : f < R.sz) (u : Value) (fy : α → α)
    (hx : a.eval x = .pointer (some ⟨g0, o0 + j * R.sz + f, none⟩)) (hy : a.eval y = u) (hu : u.cells = #[u]) (h1 : u.oneCell' = true) (ht : (P.info? t).map (·.size) = some 1) (hok : ∀ w1 x c, R.ok NoZ w x c → R.ok NoZ w1 (fy x) (c.set f u))
    (k : ∀ w1, Bks R w1 e H av vs (xs.set i ((xs.getD i []).modify j fy)) → Fr [g0] w w1 → w1.heap.size = w.heap.size → (∀ k ∈ [g0], k ∉ av ∧ H k) → L ro P ops Q rest a w1) : St ro P ops Q rest ⟨none, .store t x y, ty, pos, aft, g⟩ a w := by
  have hxj : (xs.getD i [])[j]? = some (xs.getD i [])[j] := List.getElem?_eq_getElem hj
  obtain ⟨cur, rfl, hB, hlt, hset⟩ := own_set (R := R) (u := u) (y := fy (xs.getD i [])[j]) (h.own i _ hv) hxj hf
  rw [Nat.zero_add] at hx
  refine stn g0 (j * R.sz + f) u [u] hx hy hu (by simp [h1]) ht hB (by simp; omega) (cur.set (j * R.sz + f) u) ?_ fun w1 hB1 hF hs => ?_
  · rfl
  · have ho := hset w1 hB1 (by omega) (hok w1 _)
    have hmod : (xs.getD i []).modify j fy = (xs.getD i []).set j (fy (xs.getD i [])[j]) := by
      apply List.ext_getElem?
      intro q
      rw [List.getElem?_modify, List.getElem?_set]
      by_cases hq : j = q
      · subst hq; rw [hxj]; simp only [if_true, if_pos hj]; rfl
      · simp [hq]
    refine k w1 (by rw [hmod]; exact h.setE hi hv hF ho) hF hs fun q hq => ?_
    simp at hq; subst hq
    exact h.hom i _ q hv rfl
theorem stRA {t : TypeId} {x y : Operand} {g0 o0 n c : Nat} {A : Option Addr} (h : Bks R w e H av (vsA ++ vsB) (xa ++ xb)) (hl : vsA.length = xa.length) (hi : i < xa.length) (hv : vsA.getD i d = .slice A n c) (hA : A = some ⟨g0, o0, none⟩) (hj : j < (xa.getD i []).length) (hf : f < R.sz) (u : Value) (fy : α → α)
    (hx : a.eval x = .pointer (some ⟨g0, o0 + j * R.sz + f, none⟩)) (hy : a.eval y = u) (hu : u.cells = #[u]) (h1 : u.oneCell' = true) (ht : (P.info? t).map (·.size) = some 1) (hok : ∀ w1 x c, R.ok NoZ w x c → R.ok NoZ w1 (fy x) (c.set f u))
    (k : ∀ w1, Bks R w1 e H av (vsA ++ vsB) (xa.set i ((xa.getD i []).modify j fy) ++ xb) → Fr [g0] w w1 → w1.heap.size = w.heap.size → (∀ k ∈ [g0], k ∉ av ∧ H k) → L ro P ops Q rest a w1) : St ro P ops Q rest ⟨none, .store t x y, ty, pos, aft, g⟩ a w := by
  subst hA
  refine stB h (i := i) (by simp; omega) (h.atA hl hi hv) (by rw [appA_get hi]; exact hj) hf u fy hx hy hu h1 ht hok fun w1 hk hF hs hh => k w1 ?_ hF hs hh
  rw [appA_get hi, List.set_append_left _ _ hi] at hk
  exact hk
theorem stRB {t : TypeId} {x y : Operand} {g0 o0 n c : Nat} {A : Option Addr} (h : Bks R w e H av (vsA ++ vsB) (xa ++ xb)) (hl : vsA.length = xa.length) (hi : i < xb.length) (hv : vsB.getD i d = .slice A n c) (hA : A = some ⟨g0, o0, none⟩) (hj : j < (xb.getD i []).length) (hf : f < R.sz) (u : Value) (fy : α → α)
    (hx : a.eval x = .pointer (some ⟨g0, o0 + j * R.sz + f, none⟩)) (hy : a.eval y = u) (hu : u.cells = #[u]) (h1 : u.oneCell' = true) (ht : (P.info? t).map (·.size) = some 1) (hok : ∀ w1 x c, R.ok NoZ w x c → R.ok NoZ w1 (fy x) (c.set f u))
    (k : ∀ w1, Bks R w1 e H av (vsA ++ vsB) (xa ++ xb.set i ((xb.getD i []).modify j fy)) → Fr [g0] w w1 → w1.heap.size = w.heap.size → (∀ k ∈ [g0], k ∉ av ∧ H k) → L ro P ops Q rest a w1) : St ro P ops Q rest ⟨none, .store t x y, ty, pos, aft, g⟩ a w := by
  subst hA
  refine stB h (i := xa.length + i) (by simp; omega) (h.atB hl hi hv) (by rw [appB_get]; exact hj) hf u fy hx hy hu h1 ht hok fun w1 hk hF hs hh => k w1 ?_ hF hs hh
  rw [appB_get, List.set_append_right _ _ (by omega), Nat.add_sub_cancel_left] at hk
  exact hk
end
end Go.V
end
section
namespace Go.V
open Go.Base Go.RowKit
set_option linter.unusedVariables false
/-- A table's blocks, and those that are new. -/
def gr (H : Nat → Prop) (w w1 : World) : Nat → Prop := fun k => H k ∨ (w.heap.size ≤ k ∧ k < w1.heap.size)
def gh (H : Nat → Prop) (w : World) : Nat → Prop := fun k => H k ∨ w.heap.size ≤ k
def gp (H : Nat → Prop) (av : List Nat) : Nat → Prop := fun k => H k ∧ k ∉ av
theorem mem3 {t g : Nat} {av l : List Nat} (h1 : t ∈ l) (h2 : g ∈ l) (h3 : ∀ k ∈ av, k ∈ l) : ∀ k ∈ t :: g :: av, k ∈ l := by
  intro k hk
  rcases List.mem_cons.1 hk with rfl | hk
  · exact h1
  · rcases List.mem_cons.1 hk with rfl | hk
    · exact h2
    · exact h3 k hk
theorem mem4 {t g g' : Nat} {av l : List Nat} (h1 : t ∈ l) (h2 : g ∈ l) (h4 : g' ∈ l) (h3 : ∀ k ∈ av, k ∈ l) : ∀ k ∈ t :: g :: g' :: av, k ∈ l := by
  intro k hk
  rcases List.mem_cons.1 hk with rfl | hk
  · exact h1
  · exact mem3 h2 h4 h3 k hk
section
variable {α : Type} {tt te e : TypeId} {R : Rp (ByteArray × α)} {w w1 w2 : World} {H : Nat → Prop} {av av' : List Nat} {t gA gB na nb sd : Nat} {mv nn : Int} {vsA vsB : List Value} {T : Tb α} {xa xb : List (List (ByteArray × α))}
theorem gr_of {k : Nat} (h : gh H w k) (hk : k < w1.heap.size) : gr H w w1 k := h.imp id fun q => ⟨q, hk⟩
theorem Bks.toH {vs : List Value} {β : Type} {R : Rp β} {xs : List (List β)} (h : Bks R w e H av vs xs) : Bks R w e (gh H w) av vs xs := h.sub (fun _ q => q) (fun k _ _ q => .inl q)
theorem TabN.fin (hok : T.Ok) (hb : T.b = []) (blk : Blk w1 t [.int .u64 (sd : Int), .slice (some ⟨gA, 0, none⟩) na na, .slice none 0 0, .int .i64 mv, .int .i64 nn] tt) (ra : Row idV w1 gA vsA te) (bk : Bks R w1 e (gh H w) av' vsA xa) (hs : ∀ k ∈ t :: gA :: av, k ∈ av') (ne : t ≠ gA) (pt : H t ∧ t ∉ av) (pg : gh H w gA ∧ gA ∉ av)
    (e1 : sd = T.seed) (e2 : na = T.a.length) (e3 : mv = (T.moved : Int)) (e4 : nn = (T.n : Int)) (e5 : xa = T.a) : TabX tt te e R w1 (gr H w w1) av t T := by
  subst e1; subst e2; subst e3; subst e4; subst e5
  refine ⟨hok, .inl ⟨hb, gA, vsA, blk, ra, bk.len, ?_, ne, ⟨.inl pt.1, pt.2⟩, ⟨gr_of pg.1 ra.lt, pg.2⟩⟩⟩
  rw [List.append_nil, List.append_nil]
  exact bk.sub hs fun k hk _ q => gr_of q hk
theorem TabM.fin (hok : T.Ok) (hb : T.b ≠ []) (blk : Blk w1 t [.int .u64 (sd : Int), .slice (some ⟨gA, 0, none⟩) na na, .slice (some ⟨gB, 0, none⟩) nb nb, .int .i64 mv, .int .i64 nn] tt) (ra : Row idV w1 gA vsA te) (rb : Row idV w1 gB vsB te) (la : vsA.length = xa.length) (bk : Bks R w1 e (gh H w) av' (vsA ++ vsB) (xa ++ xb)) (hs : ∀ k ∈ t :: gA :: gB :: av, k ∈ av') (ne : t ≠ gA) (ne2 : t ≠ gB) (ne3 : gA ≠ gB) (pt : H t ∧ t ∉ av) (pg : gh H w gA ∧ gA ∉ av) (ph : gh H w gB ∧ gB ∉ av)
    (e1 : sd = T.seed) (e2 : na = T.a.length) (e3 : mv = (T.moved : Int)) (e4 : nn = (T.n : Int)) (e5 : xa = T.a) (e6 : xb = T.b) (e7 : nb = T.b.length) : TabX tt te e R w1 (gr H w w1) av t T := by
  subst e1; subst e2; subst e3; subst e4; subst e5; subst e6; subst e7
  refine ⟨hok, .inr ⟨hb, gA, gB, vsA, vsB, blk, ra, rb, la, ?_, bk.sub hs fun k hk _ q => gr_of q hk, ne, ne2, ne3, ⟨.inl pt.1, pt.2⟩, ⟨gr_of pg.1 ra.lt, pg.2⟩, ⟨gr_of ph.1 rb.lt, ph.2⟩⟩⟩
  have := bk.len
  simp at this
  omega
theorem TabN.mk2 {H : Nat → Prop} (blk : Blk w1 t [.int .u64 (sd : Int), .slice (some ⟨gA, 0, none⟩) na na, .slice none 0 0, .int .i64 mv, .int .i64 nn] tt) (ra : Row idV w1 gA vsA te) (bk : Bks R w1 e H av' vsA xa) (hs : ∀ k ∈ t :: gA :: av, k ∈ av') (ne : t ≠ gA) (pt : H t ∧ t ∉ av) (pg : H gA ∧ gA ∉ av)
    (e1 : sd = T.seed) (e2 : na = T.a.length) (e3 : mv = (T.moved : Int)) (e4 : nn = (T.n : Int)) (e5 : xa = T.a) : TabN tt te e R w1 H av t gA vsA T := by
  subst e1; subst e2; subst e3; subst e4; subst e5
  refine ⟨blk, ra, bk.len, ?_, ne, pt, pg⟩
  rw [List.append_nil, List.append_nil]
  exact bk.sub hs fun k hk _ q => q
theorem TabX.gr2 (h : TabX tt te e R w2 (gr (gh H w) w1 w2) av t T) (hw : w.heap.size ≤ w1.heap.size) : TabX tt te e R w2 (gr H w w2) av t T :=
  h.sub (fun _ q => q) fun k hk q => by
    rcases q with q | q
    · exact gr_of q hk
    · exact .inr ⟨by omega, hk⟩
theorem TabX.gr3 (h : TabX tt te e R w2 (gr (gr H w w1) w1 w2) av t T) (hw : w.heap.size ≤ w1.heap.size) : TabX tt te e R w2 (gr H w w2) av t T :=
  h.sub (fun _ q => q) fun k hk q => by
    rcases q with q | q
    · rcases q with q | q
      · exact .inl q
      · exact .inr ⟨q.1, hk⟩
    · exact .inr ⟨by omega, hk⟩
theorem TabX.grm (h : TabX tt te e R w2 (gr H w1 w2) av t T) (hw : w.heap.size ≤ w1.heap.size) : TabX tt te e R w2 (gr H w w2) av t T :=
  h.sub (fun _ q => q) fun k hk q => q.imp id fun q => ⟨by omega, q.2⟩
theorem TabX.gr1 (h : TabX tt te e R w1 H av t T) : TabX tt te e R w1 (gr H w w1) av t T := h.sub (fun _ q => q) fun k hk q => .inl q
theorem FrP.gr {w w1 w2 : World} (h : FrP (gp H av) w w1) (f : FrP (gp (gr H w w1) av) w1 w2) : FrP (gp H av) w w2 :=
  h.trP f fun k hk => hk.1.elim (fun q => .inl ⟨q, hk.2⟩) fun q => .inr q.1
theorem Bks.takeA {vsA vsB : List Value} {β : Type} {R : Rp β} {xa xb : List (List β)} {i : Nat} {d v : Value} (h : Bks R w e H av (vsA ++ vsB) (xa ++ xb)) (hl : vsA.length = xa.length) (hi : i < xa.length) (hv : vsA.getD i d = v) :
    Bks R w e H (v.ownBlock.toList ++ av) (vsA.set i nilS ++ vsB) (xa.set i [] ++ xb) ∧ SlR R (fun k => k ∈ v.ownBlock.toList) w v (xa.getD i []) ∧ (∀ k ∈ v.ownBlock.toList, k ∉ av ∧ k < w.heap.size) := by
  have hat := h.atA hl hi hv
  have h1 := h.take (i := i) (by simp; omega) hat
  rw [List.set_append_left _ _ (by omega), List.set_append_left _ _ hi] at h1
  have h2 := h.slO (i := i) (by simp; omega) hat
  rw [appA_get hi] at h2
  exact ⟨h1, h2, fun k hk => ⟨(h.home hat k hk).1, h1.avl k (List.mem_append_left _ hk)⟩⟩
end
end Go.V
end
section
namespace Go.Proofs.Ytalhmegjomfbaaa
open Go.V Go.Base
open Go.RowKit (Below)
attribute [local irreducible] Act.put Act.eval
set_option linter.unusedVariables false
set_option linter.unusedSimpArgs false
set_option maxHeartbeats 4000000
set_option maxRecDepth 20000
theorem start_N (w : World) (H : Nat → Prop) (av : List Nat) (t gA : Nat) (vsA : List Value) (T : Tb Int) (hok : T.Ok) (hT : TabN 67 87 86 itI w H av t gA vsA T) (n : Nat) (hb0 : T.b = []) (hn : 0 < n) (hn2 : n ≤ 4398046511104) : Calls Try.prog 67 #[.pointer (some ⟨t, 0, none⟩), .int .i64 (n : Int)] w (fun e w' => e = .returned (.tuple #[]) ∧ TabX 67 87 86 itI w' (gr H w w') av t (startT T n) ∧ FrP (gp H av) w w') := by
 have hK0 : ∀ k ∈ av, k < w.heap.size := fun k hk => hT.bk.avl k (by simp [hk])
 have hok0 := hok
 obtain ⟨hsd, hpa, hla, hlb, hmv, hmz, hnn, hcn, hks⟩ := hok0
 obtain ⟨hB, hRA, hlA, hK, hne, hpt, hpg⟩ := hT
 have hltt := hB.lt
 have hltg := hRA.lt
 have hFP := FrP.refl (gp H av) w
 replace hK := hK.toH
 refine V.en 13 Try.func67 fun a h1 => ?_
 refine V.seq fun K2 k3 => ?_
 refine V.pl [([0,1,3,4],some (2,[])),([5],some (6,[])),([],none)] fun w4 hF5 hsw4 => ?_
 have hB_6 := hB.fr0 hF5
 have hRA_7 := hRA.fr0 hF5
 have hK_8 := hK.fr0 hF5
 have hFP_9 := hFP.tr0 hF5
 refine V.pe h1 [] 4 7 [(5, .int .i64 (n : Int)), (8, .pointer (some ⟨t, 1, none⟩))] fun a h10 => ?_
 refine V.go (V.mks (enc := idV) (n) (.slice none 0 0) nilS 24 ((h10.e (v := (.int .i64 (n : Int)))).trans (V.int_eq (by omega))) ((h10.e (v := (.int .i64 (n : Int)))).trans (V.int_eq (by omega))) (by kernel_rfl) info87 rfl rfl (by omega) (by omega) ?_)
 intro w12 b11 heb11 hR13 hF14
 have hsb11 := hR13.lt
 have hB_15 := hB_6.fr0 hF14
 have hRA_16 := hRA_7.fr0 hF14
 have hK_17 := hK_8.alloc hF14 heb11 (by omega)
 have hFP_18 := hFP_9.tr0 hF14
 refine V.pt h10 fun a h19 => ?_
 refine V.eh trivial ?_
 refine V.pe h19 [] 1 0 [(9, .pointer (some ⟨t, 2, none⟩))] fun a h20 => ?_
 refine V.go (V.stn t 2 (.slice (some ⟨b11, 0, none⟩) n n) [.slice (some ⟨b11, 0, none⟩) n n] h20.e h20.e rfl rfl (by kernel_rfl) hB_15 (by simp) [.int .u64 (T.seed : Int), .slice (some ⟨gA, 0, none⟩) T.a.length T.a.length, .slice (some ⟨b11, 0, none⟩) n n, .int .i64 (T.moved : Int), .int .i64 (T.n : Int)] rfl ?_)
 intro w21 hB22 hF23 hsw21
 have hRA_24 := hRA_16.fr1 hF23 (by omega)
 have hK_25 := hK_17.fr hF23 (by simp)
 have hFP_26 := hFP_18.tr1 hF23 (by first | exact .inl (by assumption) | exact .inr (by omega) | exact .inl (.inl rfl))
 have hR13_27 := hR13.fr1 hF23 (by omega)
 refine V.eh trivial ?_
 refine V.pz h20 [] 1 0 [] fun a h28 => k3 _ _ ?_
 refine V.rg ?_
 refine V.run h28 [] 3 10 11 [(12, .pointer (some ⟨t, 3, none⟩))] fun a h32 => ?_
 refine V.go (V.stn t 3 (.int .i64 0) [.int .i64 0] h32.e evc rfl rfl (by kernel_rfl) hB22 (by simp) [.int .u64 (T.seed : Int), .slice (some ⟨gA, 0, none⟩) T.a.length T.a.length, .slice (some ⟨b11, 0, none⟩) n n, .int .i64 0, .int .i64 (T.n : Int)] rfl ?_)
 intro w29 hB30 hF31 hsw29
 have hRA_33 := hRA_24.fr1 hF31 (by omega)
 have hK_34 := hK_25.fr hF31 (by simp)
 have hFP_35 := hFP_26.tr1 hF31 (by first | exact .inl (by assumption) | exact .inr (by omega) | exact .inl (.inl rfl))
 have hR13_36 := hR13_27.fr1 hF31 (by omega)
 refine V.nil ?_
 refine V.e0 h32 ?_
 have hK37 := hK_34.addNil n
 simp only [List.append_nil] at hK37
 have hgB : gh H w b11 ∧ b11 ∉ av := ⟨.inr (by omega), fun hm => by have := hK0 _ hm; omega⟩
 exact ⟨rfl, TabM.fin (T := (startT T n)) (startT_ok hok hb0 hn hn2) (by simp only [startT]; intro h; have := congrArg List.length h; simp at this; omega) hB30 hRA_33 hR13_36 (by first | exact hlA | (simp only [List.length_set]; exact hlA)) hK37 (mem4 (l := (b11 :: t :: gA :: av)) (by simp) (by simp) (by simp) (by intro k hk; simp [hk])) (by first | assumption | omega) (by first | assumption | omega) (by first | assumption | omega) hpt ⟨.inl hpg.1, hpg.2⟩ hgB rfl rfl rfl rfl rfl rfl (by simp [startT]), hFP_35⟩
theorem swapT_ok {α : Type} {T : Tb α} (h : T.Ok) (hm : T.Mv) (hb : T.b.length ≠ 0) (hl : ¬ T.moved + 1 < T.a.length) : (swapT (movedT T)).Ok := by
  obtain ⟨h1, h2⟩ := h.moved hb
  have hmm : ∀ i, i < T.moved + 1 → (movedT T).a.getD i [] = [] := by
    intro i hi
    by_cases he : i = T.moved
    · subst he; exact h2
    · show (T.a.set T.moved []).getD i [] = []
      rw [Go.V.getD_set_ne (fun e => he e.symm)]; exact hm i (by omega)
  have hz : (movedT T).a.flatten.length = 0 := flat_zero _ fun i => by
    rcases Nat.lt_or_ge i T.a.length with hi | hi
    · exact hmm i (by omega)
    · rw [List.getD_eq_getElem?_getD, List.getElem?_eq_none (by rw [movedT_a]; exact hi)]; rfl
  exact ⟨h.sd, by show 0 < (movedT T).b.length; rw [movedT_b]; omega, by show (movedT T).b.length ≤ _; rw [movedT_b]; exact h.lb, by show 0 ≤ _; omega, fun h0 => absurd rfl h0, fun _ => rfl, h.nn, by
    show ((movedT T).b ++ []).flatten.length = T.n
    rw [List.append_nil]; omega, KsR.puts _ h.ks.2 (h.ks.1 T.moved), fun i x hx => by rw [getD_nil (Nat.zero_le _)] at hx; cases hx⟩
theorem step_M (w : World) (H : Nat → Prop) (av : List Nat) (t gA gB : Nat) (vsA vsB : List Value) (T : Tb Int) (hok : T.Ok) (hT : TabM 67 87 86 itI w H av t gA gB vsA vsB T) (hb : T.b.length ≠ 0) (hm : T.Mv) : Calls Try.prog 64 #[.pointer (some ⟨t, 0, none⟩)] w (fun e w' => e = .returned (.tuple #[]) ∧ TabX 67 87 86 itI w' (gr H w w') av t (tbStep T) ∧ FrP (gp H av) w w') := by
 have hok0 := hok
 have hK0 : ∀ k ∈ av, k < w.heap.size := fun k hk => hT.bk.avl k (by simp [hk])
 obtain ⟨hsd, hpa, hla, hlb, hmv, hmz, hnn, hcn, hks⟩ := hok0
 obtain ⟨hB, hRA, hRB, hlA, hlB, hK, hne, hne2, hne3, hpt, hpg, hph⟩ := hT
 have hltg2 := hRB.lt
 have hltt := hB.lt
 have hltg := hRA.lt
 have hFP := FrP.refl (gp H av) w
 replace hK := hK.toH
 refine V.en 111 Try.func64 fun a h1 => ?_
 refine V.seq fun K2 k3 => ?_
 refine V.sg fun K4 k5 => ?_
 refine V.run h1 [] 1 1 0 [(5, .pointer (some ⟨t, 0, none⟩))] fun a h6 => ?_
 refine V.cl h6 (Go.Proofs.enters_of Try.func65 (by kernel_rfl) rfl) (moves_M w t T.seed T.a.length T.b.length 0 gA gB (.int .i64 (T.moved : Int)) (.int .i64 (T.n : Int)) hB) ?_
 rintro _ w8 ⟨rfl, hF7⟩
 refine ⟨_, rfl, fun a h9 => ?_⟩
 have hsw8 := hF7.size
 have hB_10 := hB.fr0 hF7
 have hRA_11 := hRA.fr0 hF7
 have hRB_12 := hRB.fr0 hF7
 have hK_13 := hK.fr0 hF7
 have hFP_14 := hFP.tr0 hF7
 refine V.re h9 [] 1 0 [(7, .bool false)] fun a h15 => k5 _ _ ?_
 refine V.cf h15 ?_
 refine V.skip ?_
 refine V.then_n (k3 _ _ ?_)
 refine V.seq fun K16 k17 => ?_
 refine V.seq fun K18 k19 => ?_
 refine V.pl [([0,1,2,3,4,5,6,7,8,9,10,11,12],none)] fun w20 hF21 hsw20 => ?_
 have hB_22 := hB_10.fr0 hF21
 have hRA_23 := hRA_11.fr0 hF21
 have hRB_24 := hRB_12.fr0 hF21
 have hK_25 := hK_13.fr0 hF21
 have hFP_26 := hFP_14.tr0 hF21
 obtain ⟨A27, c28, hv29⟩ := hK_25.getA hlA (i := T.moved) (by omega) nilS
 have hS30 := hK_25.slA hlA (i := T.moved) (by omega) hv29
 refine V.pz h15 [(4, .b hB_22 1), (3, .b hB_22 3), (0, .ix gA 0 T.a.length T.a.length .i64 (T.moved : Int) 1 rfl), (0, .l ⟨gA, 0 + (T.moved : Int).toNat * 1, none⟩ (.slice A27 ((T.a.getD T.moved []).length) c28) ((hRA_23.at T.moved nilS (by omega)).trans (congrArg some hv29)))] 8 17 [(18, .slice A27 ((T.a.getD T.moved []).length) c28), (19, .int .i64 (((T.a.getD T.moved []).length : Nat) : Int)), (20, .int .i64 0)] fun a h31 => k19 _ _ ?_
 refine V.block ?_
 obtain ⟨hK9, hS9, hoh⟩ := hK_25.takeA hlA (i := T.moved) (by omega) hv29
 have hlA2 : (vsA.set T.moved nilS).length = (T.a.set T.moved []).length := by simp [hlA]
 refine V.loop3 (fun (i : Nat) (vb : List Value) (xb : List (List (ByteArray × Int))) a_ w_ => En 111 [] a_ [(0, .pointer (some ⟨t, 0, none⟩)), (18, .slice A27 ((T.a.getD T.moved []).length) c28), (19, .int .i64 (((T.a.getD T.moved []).length : Nat) : Int)), (20, .int .i64 (i : Int))] ∧ Row idV w_ gB vb 87 ∧ Bks itI w_ 86 (gh H w) (((Value.slice A27 ((T.a.getD T.moved []).length) c28).ownBlock.toList ++ (t :: gA :: gB :: av))) (vsA.set T.moved nilS ++ vb) (T.a.set T.moved [] ++ xb) ∧ FrP (fun _ => True) w20 w_ ∧ Blk w_ t [.int .u64 (T.seed : Int), .slice (some ⟨gA, 0, none⟩) T.a.length T.a.length, .slice (some ⟨gB, 0, none⟩) T.b.length T.b.length, .int .i64 (T.moved : Int), .int .i64 (T.n : Int)] 67 ∧ Row idV w_ gA vsA 87 ∧ FrP (gp H av) w w_ ∧ SlR itI (fun k => k ∈ (Value.slice A27 ((T.a.getD T.moved []).length) c28).ownBlock.toList) w_ (.slice A27 ((T.a.getD T.moved []).length) c28) (T.a.getD T.moved []) ∧ (i ≤ (T.a.getD T.moved []).length) ∧ (vb.length = xb.length) ∧ (((T.a.getD T.moved []).take i).foldl (putB T.seed) T.b = xb)) (fun (i : Nat) (vb : List Value) (xb : List (List (ByteArray × Int))) => (T.a.getD T.moved []).length - i) 0 vsB T.b ?_ ?_
 ·
  refine ⟨(h31.eq 20 (v := (.int .i64 0)) (u := (.int .i64 (0 : Int))) (V.int_eq (by omega))).only _, hRB_24, hK9, (FrP.refl _ _), hB_22, hRA_23, hFP_26, hS9, (by omega), hlB, (by simp)⟩
 ·
  rintro i vb xb a32 w33 ⟨h34, hRB_35, hK_36, hF0_37, hB_38, hRA_39, hFP_40, hS9_41, hi, hlb, hxb⟩
  have hlt42 := hRB_35.lt
  have hfs43 := hF0_37.size
  have hlt44 := hB_38.lt
  have hlt45 := hRA_39.lt
  have hfs46 := hFP_40.size
  have hxl : xb.length = T.b.length := by rw [← hxb, putBs_length]
  have hfl : xb.flatten.length = T.b.flatten.length + i := by (rw [← hxb, putBs_flat _ _ (by omega), List.length_take]; omega)
  have hsum := hok.sum
  have hfa := flat_getD T.a T.moved
  refine V.sr h34 [] 1 0 [(21, .bool (decide ((i : Int) < (((T.a.getD T.moved []).length : Nat) : Int))))] fun a h49 => ?_
  refine V.seq fun K50 k51 => ?_
  refine V.cp h49 ((i : Int) < (((T.a.getD T.moved []).length : Nat) : Int)) (fun ht52 => ?_) (fun ht52 => ?_)
  ·
   refine V.skip ?_
   refine V.then_n (k51 _ _ ?_)
   refine V.seq fun K53 k54 => ?_
   refine V.block ?_
   obtain ⟨g57, o58, hA59, hA59l, hA59z⟩ := hS9_41.addr (by omega)
   obtain ⟨cs60, hok61, hE62⟩ := hS9_41.els hA59 (i : Int) (by omega) (by omega)
   refine V.sg fun K55 k56 => ?_
   refine V.run h49 [(0, .ix g57 o58 ((T.a.getD T.moved []).length) c28 .i64 (i : Int) 2 hA59)] 1 1 0 [(22, .pointer (some ⟨g57, o58 + (i : Int).toNat * 2, none⟩))] fun a h63 => ?_
   obtain rfl : cs60 = [.string (at_ itI (T.a.getD T.moved []) (i : Int)).1, .int .i64 (at_ itI (T.a.getD T.moved []) (i : Int)).2] := hok61
   refine V.run h63 [(0, .ls ⟨g57, o58 + (i : Int).toNat * 2, none⟩ [.string ((at_ itI (T.a.getD T.moved []) (i : Int)).1), .int .i64 ((at_ itI (T.a.getD T.moved []) (i : Int)).2)] (hE62.cells 0 _ rfl))] 1 1 0 [(23, .agg #[.string ((at_ itI (T.a.getD T.moved []) (i : Int)).1), .int .i64 ((at_ itI (T.a.getD T.moved []) (i : Int)).2)])] fun a h68 => ?_
   refine V.go (V.mk [] trivial (by kernel_rfl) [.string ⟨#[]⟩, .int .i64 0] 86 (fun b => .pointer (some ⟨b, 0, none⟩)) (by kernel_rfl) ?_)
   intro w65 b64 heb64 hB66 hF67 hsb64
   have hRB_69 := hRB_35.fr0 hF67
   have hK_70 := hK_36.alloc hF67 heb64 (by omega)
   have hF0_71 := hF0_37.tr hF67 (fun _ _ => .inl trivial)
   have hB_72 := hB_38.fr0 hF67
   have hRA_73 := hRA_39.fr0 hF67
   have hFP_74 := hFP_40.tr0 hF67
   have hS9_75 := hS9_41.fr0 hF67
   refine V.pt h68 fun a h77 => ?_
   refine V.go (V.stn b64 0 (.agg #[.string ((at_ itI (T.a.getD T.moved []) (i : Int)).1), .int .i64 ((at_ itI (T.a.getD T.moved []) (i : Int)).2)]) [.string ((at_ itI (T.a.getD T.moved []) (i : Int)).1), .int .i64 ((at_ itI (T.a.getD T.moved []) (i : Int)).2)] h77.e h77.e rfl rfl (by kernel_rfl) hB66 (by simp) [.string ((at_ itI (T.a.getD T.moved []) (i : Int)).1), .int .i64 ((at_ itI (T.a.getD T.moved []) (i : Int)).2)] rfl ?_)
   intro w78 hB79 hF80 hsw78
   have hRB_81 := hRB_69.fr1 hF80 (by omega)
   have hK_82 := hK_70.fr hF80 (by simp)
   have hF0_83 := hF0_71.tr hF80 (fun _ _ => .inl trivial)
   have hB_84 := hB_72.fr1 hF80 (by omega)
   have hRA_85 := hRA_73.fr1 hF80 (by omega)
   have hFP_86 := hFP_74.tr1 hF80 (by first | exact .inl (by assumption) | exact .inr (by omega) | exact .inl (.inl rfl))
   have hS9_87 := hS9_75.fr hF80 (by intro x hx hz; simp only [List.mem_singleton] at hx; subst hx; first | (have := (hoh _ hz).2; omega) | exact (hoh _ hz).1 (by simp))
   refine V.nt (k56 _ _ ?_)
   refine V.seq fun K89 k90 => ?_
   have hkz := ks_at (R := itI) (hks.1 T.moved) (i := (i : Int)) (by omega) (by omega)
   refine V.rg ?_
   refine V.run h77 [(2, .b hB79 0)] 3 25 25 [(24, .pointer (some ⟨t, 0, none⟩)), (26, .string ((at_ itI (T.a.getD T.moved []) (i : Int)).1))] fun a h91 => ?_
   refine V.cl h91 (Go.Proofs.enters_of Try.func66 (by kernel_rfl) rfl) (bucket_M1 w78 t T.seed T.a.length T.b.length 0 gA gB (.int .i64 (T.moved : Int)) (.int .i64 (T.n : Int)) hB_84 ((at_ itI (T.a.getD T.moved []) (i : Int)).1) (by omega) (by omega) (by omega) (by omega)) ?_
   rintro _ w93 ⟨rfl, hF92⟩
   refine ⟨_, rfl, fun a h94 => ?_⟩
   have hsw93 := hF92.size
   have hRB_95 := hRB_81.fr0 hF92
   have hK_96 := hK_82.fr0 hF92
   have hF0_97 := hF0_83.tr hF92 (fun _ _ => .inl trivial)
   have hB_98 := hB_84.fr0 hF92
   have hRA_99 := hRA_85.fr0 hF92
   have hFP_100 := hFP_86.tr0 hF92
   have hS9_101 := hS9_87.fr0 hF92
   have hB79_103 := hB79.fr0 hF92
   have hbl92 := bkt_lt T.seed ((at_ itI (T.a.getD T.moved []) (i : Int)).1) (n := T.b.length) (by omega)
   refine V.re h94 [] 1 0 [(4, .int .i64 ((bkt T.seed T.b.length ((at_ itI (T.a.getD T.moved []) (i : Int)).1) : Nat) : Int))] fun a h104 => k90 _ _ ?_
   have hfg := flat_getD xb (bkt T.seed T.b.length ((at_ itI (T.a.getD T.moved []) (i : Int)).1))
   refine V.pl [([0,1,2,3,4,5,6,7,8,9,10,11,12,13,14],some (15,[4,10,13])),([],some (16,[4])),([17],some (18,[])),([],none)] fun w105 hF106 hsw105 => ?_
   have hRB_107 := hRB_95.fr0 hF106
   have hK_108 := hK_96.fr0 hF106
   have hF0_109 := hF0_97.tr hF106 (fun _ _ => .inl trivial)
   have hB_110 := hB_98.fr0 hF106
   have hRA_111 := hRA_99.fr0 hF106
   have hFP_112 := hFP_100.tr0 hF106
   have hS9_113 := hS9_101.fr0 hF106
   have hB79_115 := hB79_103.fr0 hF106
   obtain ⟨A116, c117, hv118⟩ := hK_108.getB hlA2 (i := (bkt T.seed T.b.length ((at_ itI (T.a.getD T.moved []) (i : Int)).1))) (by omega) nilS
   have hS119 := hK_108.slB hlA2 (i := (bkt T.seed T.b.length ((at_ itI (T.a.getD T.moved []) (i : Int)).1))) (by omega) hv118
   refine V.pe h104 [(4, .b hB_110 2), (5, .b hB_110 2), (1, .ix gB 0 T.b.length T.b.length .i64 ((bkt T.seed T.b.length ((at_ itI (T.a.getD T.moved []) (i : Int)).1) : Nat) : Int) 1 rfl), (0, .l ⟨gB, 0 + ((bkt T.seed T.b.length ((at_ itI (T.a.getD T.moved []) (i : Int)).1) : Nat) : Int).toNat * 1, none⟩ (.slice A116 ((xb.getD (bkt T.seed T.b.length ((at_ itI (T.a.getD T.moved []) (i : Int)).1)) []).length) c117) ((hRB_107.at (bkt T.seed T.b.length ((at_ itI (T.a.getD T.moved []) (i : Int)).1)) nilS (by omega)).trans (congrArg some hv118))), (0, .bs hB79_115 0 [.string ((at_ itI (T.a.getD T.moved []) (i : Int)).1), .int .i64 ((at_ itI (T.a.getD T.moved []) (i : Int)).2)])] 28 39 [(31, .pointer (some ⟨t, 2, none⟩)), (32, .slice (some ⟨gB, 0, none⟩) T.b.length T.b.length), (33, .int .i64 ((bkt T.seed T.b.length ((at_ itI (T.a.getD T.moved []) (i : Int)).1) : Nat) : Int)), (37, .pointer (some ⟨t, 2, none⟩)), (40, .pointer (some ⟨gB, 0 + ((bkt T.seed T.b.length ((at_ itI (T.a.getD T.moved []) (i : Int)).1) : Nat) : Int).toNat * 1, none⟩)), (41, .slice A116 ((xb.getD (bkt T.seed T.b.length ((at_ itI (T.a.getD T.moved []) (i : Int)).1)) []).length) c117), (42, .agg #[.string ((at_ itI (T.a.getD T.moved []) (i : Int)).1), .int .i64 ((at_ itI (T.a.getD T.moved []) (i : Int)).2)])] fun a h120 => ?_
   refine V.go (V.mk [(42, .agg #[.string ((at_ itI (T.a.getD T.moved []) (i : Int)).1), .int .i64 ((at_ itI (T.a.getD T.moved []) (i : Int)).2)])] ⟨h120.e, trivial⟩ (by kernel_rfl) [.string ((at_ itI (T.a.getD T.moved []) (i : Int)).1), .int .i64 ((at_ itI (T.a.getD T.moved []) (i : Int)).2)] 86 (fun b => .slice (some ⟨b, 0, none⟩) 1 1) (by kernel_rfl) ?_)
   intro w122 b121 heb121 hB123 hF124 hsb121
   have hRB_125 := hRB_107.fr0 hF124
   have hK_126 := hK_108.alloc hF124 heb121 (by omega)
   have hF0_127 := hF0_109.tr hF124 (fun _ _ => .inl trivial)
   have hB_128 := hB_110.fr0 hF124
   have hRA_129 := hRA_111.fr0 hF124
   have hFP_130 := hFP_112.tr0 hF124
   have hS9_131 := hS9_113.fr0 hF124
   refine V.pt h120 fun a h135 => ?_
   refine V.eh ⟨(fun _ => held_blk (n := 1) (hx := (h120.e (v := (.pointer (some ⟨t, 2, none⟩))))) hB_110 hB_128 (by kernel_rfl) rfl (by simp only [List.length]; omega)), (fun _ => held_blk (n := 1) (hx := (h120.e (v := (.pointer (some ⟨t, 2, none⟩))))) hB_110 hB_128 (by kernel_rfl) rfl (by simp only [List.length]; omega)), (fun _ => held_row (hx := (h120.e (v := (.pointer (some ⟨gB, 0 + ((bkt T.seed T.b.length ((at_ itI (T.a.getD T.moved []) (i : Int)).1) : Nat) : Int).toNat * 1, none⟩))))) hRB_107 hRB_125 (by kernel_rfl) (by omega))⟩ ?_
   refine V.pe h135 [] 1 0 [] fun a h136 => ?_
   refine V.go (V.appRB (R := itI) (ys := ([((at_ itI (T.a.getD T.moved []) (i : Int)).1, (at_ itI (T.a.getD T.moved []) (i : Int)).2)])) (news := [.string ((at_ itI (T.a.getD T.moved []) (i : Int)).1), .int .i64 ((at_ itI (T.a.getD T.moved []) (i : Int)).2)]) hK_126 hlA2 (i := (bkt T.seed T.b.length ((at_ itI (T.a.getD T.moved []) (i : Int)).1))) (by omega) hv118 (h136.e (v := (.slice A116 ((xb.getD (bkt T.seed T.b.length ((at_ itI (T.a.getD T.moved []) (i : Int)).1)) []).length) c117))) ⟨b121, 0, none⟩ 1 1 (h136.e (v := (.slice (some ⟨b121, 0, none⟩) 1 1))) (by kernel_rfl) (info86) (by kernel_rfl) (by decide) rfl ⟨[.string ((at_ itI (T.a.getD T.moved []) (i : Int)).1), .int .i64 ((at_ itI (T.a.getD T.moved []) (i : Int)).2)], [], rfl, rfl, rfl⟩ (blk_cells hB123 0 _ rfl) (by omega) (by decide) (.inr (by omega)) ?_)
   intro A137 c138 w139 hK140 hF141 ho142
   have hsw139 := hF141.size
   have hRB_143 := hRB_125.fr hF141 (fun hm => (ho142 _ hm).1 (by simp))
   have hF0_144 := hF0_127.tr hF141 (fun _ _ => .inl trivial)
   have hB_145 := hB_128.fr hF141 (fun hm => (ho142 _ hm).1 (by simp))
   have hRA_146 := hRA_129.fr hF141 (fun hm => (ho142 _ hm).1 (by simp))
   have hFP_147 := hFP_130.tr hF141 (fun k hk => ((ho142 k hk).2).imp (fun h => ⟨h, fun hm => (ho142 k hk).1 (by simp [hm])⟩) id)
   have hS9_148 := hS9_131.fr hF141 (fun k hk hz => (ho142 k hk).1 (by simp at hz; simp [hz]))
   refine V.pt h136 fun a h150 => ?_
   refine V.eh (fun _ => held_blk (n := 1) (hx := (h136.e (v := (.pointer (some ⟨t, 2, none⟩))))) hB_128 hB_145 (by kernel_rfl) rfl (by simp only [List.length]; omega)) ?_
   refine V.pe h150 [(0, .ix gB 0 T.b.length T.b.length .i64 ((bkt T.seed T.b.length ((at_ itI (T.a.getD T.moved []) (i : Int)).1) : Nat) : Int) 1 rfl)] 1 0 [(45, .pointer (some ⟨gB, 0 + ((bkt T.seed T.b.length ((at_ itI (T.a.getD T.moved []) (i : Int)).1) : Nat) : Int).toNat * 1, none⟩))] fun a h151 => ?_
   refine V.go (V.strow (enc := idV) gB (((bkt T.seed T.b.length ((at_ itI (T.a.getD T.moved []) (i : Int)).1) : Nat) : Int).toNat) (.slice A137 ((xb.getD (bkt T.seed T.b.length ((at_ itI (T.a.getD T.moved []) (i : Int)).1)) []).length + 1) c138) h151.e h151.e rfl rfl (by kernel_rfl) hRB_143 (by first | omega | (simp only [List.length_set, List.length_replicate]; omega)) ?_)
   intro w152 hR153 hF154 hsw152
   have hF0_155 := hF0_144.tr hF154 (fun _ _ => .inl trivial)
   have hB_156 := hB_145.fr1 hF154 (by omega)
   have hRA_157 := hRA_146.fr1 hF154 (by omega)
   have hFP_158 := hFP_147.tr1 hF154 (by first | exact .inl (by assumption) | exact .inr (by omega) | exact .inl (.inl rfl))
   have hS9_159 := hS9_148.fr hF154 (by intro x hx hz; simp only [List.mem_singleton] at hx; subst hx; first | (have := (hoh _ hz).2; omega) | exact (hoh _ hz).1 (by simp))
   have hK140_161 := hK140.fr hF154 (by simp)
   refine V.eh trivial ?_
   refine V.pz h151 [] 1 0 [] fun a h162 => ?_
   refine V.blk_n ?_
   refine V.then_n (k54 _ _ ?_)
   refine V.rr h162 [(0, .i ((i : Int) + 1))] 46 46 [(20, .int .i64 ((i : Int) + 1))] fun a h163 => ?_
   refine V.then_n ?_
   refine ⟨i + 1, vb.set (((bkt T.seed T.b.length ((at_ itI (T.a.getD T.moved []) (i : Int)).1) : Nat) : Int).toNat) (.slice A137 ((xb.getD (bkt T.seed T.b.length ((at_ itI (T.a.getD T.moved []) (i : Int)).1)) []).length + 1) c138), (xb.set (bkt T.seed T.b.length ((at_ itI (T.a.getD T.moved []) (i : Int)).1)) (xb.getD (bkt T.seed T.b.length ((at_ itI (T.a.getD T.moved []) (i : Int)).1)) [] ++ [((at_ itI (T.a.getD T.moved []) (i : Int)).1, (at_ itI (T.a.getD T.moved []) (i : Int)).2)])), by omega, ?_⟩
   refine ⟨(h163.eq 20 (v := (.int .i64 ((i : Int) + 1))) (u := (.int .i64 ((i + 1) : Int))) (V.int_eq (by omega))).only _, hR153, (hK140_161.sub (fun k hk => List.mem_cons_of_mem _ (List.mem_cons_of_mem _ (hk))) (fun k _ _ q => q)), hF0_155, hB_156, hRA_157, hFP_158, hS9_159, (by omega), (by simp [hlb]), (by rw [take_at itI (by omega), List.foldl_append, hxb, List.foldl_cons, List.foldl_nil]; unfold putB; rw [hxl])⟩
  ·
   refine V.exit (V.then_e (V.then_e (V.blk_hit ?_)))
   refine V.then_n (k17 _ _ ?_)
   refine V.seq fun K164 k165 => ?_
   have hxe : xb = (movedT T).b := by (rw [← hxb, List.take_of_length_le (by omega)]; rfl)
   refine V.pl [([0,1,2,3,4,5,6,7,8,9],some (10,[])),([],none)] fun w166 hF167 hsw166 => ?_
   have hRB_168 := hRB_35.fr0 hF167
   have hK_169 := hK_36.fr0 hF167
   have hB_171 := hB_38.fr0 hF167
   have hRA_172 := hRA_39.fr0 hF167
   have hFP_173 := hFP_40.tr0 hF167
   refine V.pe h49 [(4, .b hB_171 1), (3, .b hB_171 3), (0, .ix gA 0 T.a.length T.a.length .i64 (T.moved : Int) 1 rfl)] 47 55 [(56, .pointer (some ⟨gA, 0 + (T.moved : Int).toNat * 1, none⟩))] fun a h175 => ?_
   refine V.go (V.strow (enc := idV) gA ((T.moved : Int).toNat) (.slice none 0 0) h175.e evc rfl rfl (by kernel_rfl) hRA_172 (by first | omega | (simp only [List.length_set, List.length_replicate]; omega)) ?_)
   intro w176 hR177 hF178 hsw176
   have hRB_179 := hRB_168.fr1 hF178 (by omega)
   have hK_180 := hK_169.fr hF178 (by simp)
   have hB_182 := hB_171.fr1 hF178 (by omega)
   have hFP_183 := hFP_173.tr1 hF178 (by first | exact .inl (by assumption) | exact .inr (by omega) | exact .inl (.inl rfl))
   refine V.eh trivial ?_
   refine V.pz h175 [] 1 0 [] fun a h185 => k165 _ _ ?_
   refine V.sg fun K186 k187 => ?_
   refine V.run h185 [(3, .b hB_182 3), (0, .i ((T.moved : Int) + 1))] 7 57 62 [(61, .int .i64 ((T.moved : Int) + 1)), (63, .pointer (some ⟨t, 3, none⟩))] fun a h191 => ?_
   refine V.go (V.stn t 3 (.int .i64 ((T.moved : Int) + 1)) [.int .i64 ((T.moved : Int) + 1)] h191.e h191.e rfl rfl (by kernel_rfl) hB_182 (by simp) [.int .u64 (T.seed : Int), .slice (some ⟨gA, 0, none⟩) T.a.length T.a.length, .slice (some ⟨gB, 0, none⟩) T.b.length T.b.length, .int .i64 ((T.moved : Int) + 1), .int .i64 (T.n : Int)] rfl ?_)
   intro w188 hB189 hF190 hsw188
   have hRB_192 := hRB_179.fr1 hF190 (by omega)
   have hK_193 := hK_180.fr hF190 (by simp)
   have hFP_195 := hFP_183.tr1 hF190 (by first | exact .inl (by assumption) | exact .inr (by omega) | exact .inl (.inl rfl))
   have hR177_197 := hR177.fr1 hF190 (by omega)
   refine V.nt (k187 _ _ ?_)
   refine V.seq fun K198 k199 => ?_
   refine V.seq fun K200 k201 => ?_
   refine V.pl [([0,1,2,3,4,5,6,7,8,9,10],none)] fun w202 hF203 hsw202 => ?_
   have hRB_204 := hRB_192.fr0 hF203
   have hK_205 := hK_193.fr0 hF203
   have hFP_207 := hFP_195.tr0 hF203
   have hR177_209 := hR177_197.fr0 hF203
   have hB189_210 := hB189.fr0 hF203
   refine V.pz h191 [(3, .b hB189_210 3), (4, .b hB189_210 1)] 64 73 [(74, .bool (decide (((T.moved : Int) + 1) < ((T.a.length : Nat) : Int))))] fun a h211 => k201 _ _ ?_
   refine V.cp h211 (((T.moved : Int) + 1) < ((T.a.length : Nat) : Int)) (fun ht212 => ?_) (fun ht212 => ?_)
   ·
    refine V.ret (V.then_r ?_)
    refine V.r0 h211 ?_
    have hst : tbStep T = movedT T := by (unfold tbStep; rw [if_neg hb, if_pos (by omega)])
    have hsok := (tbStep_ok hok hm).1
    rw [hst] at hsok ⊢
    exact ⟨rfl, TabM.fin (T := (movedT T)) hsok (fun h => hb (by rw [← movedT_b, h]; rfl)) hB189_210 hR177_209 hRB_204 hlA2 hK_205 (mem4 (l := (((Value.slice A27 ((T.a.getD T.moved []).length) c28).ownBlock.toList ++ (t :: gA :: gB :: av)))) (by simp) (by simp) (by simp) (by intro k hk; simp [hk])) (by first | assumption | omega) (by first | assumption | omega) (by first | assumption | omega) hpt ⟨.inl hpg.1, hpg.2⟩ ⟨.inl hph.1, hph.2⟩ rfl (movedT_a T).symm (by simp [movedT]) rfl rfl hxe (movedT_b T).symm, hFP_207⟩
   ·
    refine V.skip ?_
    refine V.then_n (k199 _ _ ?_)
    refine V.seq fun K213 k214 => ?_
    refine V.pl [([0,1,2,3,4,5,6,7,8,9,10,12,13],some (11,[])),([14],some (15,[])),([16,17],some (18,[])),([],none)] fun w215 hF216 hsw215 => ?_
    have hRB_217 := hRB_204.fr0 hF216
    have hK_218 := hK_205.fr0 hF216
    have hFP_220 := hFP_207.tr0 hF216
    have hB189_223 := hB189_210.fr0 hF216
    refine V.pe h211 [(7, .b hB189_223 2)] 75 86 [(77, .pointer (some ⟨t, 0, none⟩)), (82, .slice (some ⟨gB, 0, none⟩) T.b.length T.b.length), (85, .pointer (some ⟨t, 1, none⟩)), (87, .pointer (some ⟨t, 1, none⟩))] fun a h224 => ?_
    refine V.go (V.stn t 1 (.slice (some ⟨gB, 0, none⟩) T.b.length T.b.length) [.slice (some ⟨gB, 0, none⟩) T.b.length T.b.length] h224.e h224.e rfl rfl (by kernel_rfl) hB189_223 (by simp) [.int .u64 (T.seed : Int), .slice (some ⟨gB, 0, none⟩) T.b.length T.b.length, .slice (some ⟨gB, 0, none⟩) T.b.length T.b.length, .int .i64 ((T.moved : Int) + 1), .int .i64 (T.n : Int)] rfl ?_)
    intro w225 hB226 hF227 hsw225
    have hRB_228 := hRB_217.fr1 hF227 (by omega)
    have hK_229 := hK_218.fr hF227 (by simp)
    have hFP_231 := hFP_220.tr1 hF227 (by first | exact .inl (by assumption) | exact .inr (by omega) | exact .inl (.inl rfl))
    refine V.eh trivial ?_
    refine V.pe h224 [] 1 0 [(88, .pointer (some ⟨t, 2, none⟩))] fun a h234 => ?_
    refine V.go (V.stn t 2 (.slice none 0 0) [.slice none 0 0] h234.e evc rfl rfl (by kernel_rfl) hB226 (by simp) [.int .u64 (T.seed : Int), .slice (some ⟨gB, 0, none⟩) T.b.length T.b.length, .slice none 0 0, .int .i64 ((T.moved : Int) + 1), .int .i64 (T.n : Int)] rfl ?_)
    intro w235 hB236 hF237 hsw235
    have hRB_238 := hRB_228.fr1 hF237 (by omega)
    have hK_239 := hK_229.fr hF237 (by simp)
    have hFP_241 := hFP_231.tr1 hF237 (by first | exact .inl (by assumption) | exact .inr (by omega) | exact .inl (.inl rfl))
    refine V.eh trivial ?_
    refine V.pe h234 [] 89 89 [(90, .pointer (some ⟨t, 3, none⟩))] fun a h244 => ?_
    refine V.go (V.stn t 3 (.int .i64 0) [.int .i64 0] h244.e evc rfl rfl (by kernel_rfl) hB236 (by simp) [.int .u64 (T.seed : Int), .slice (some ⟨gB, 0, none⟩) T.b.length T.b.length, .slice none 0 0, .int .i64 0, .int .i64 (T.n : Int)] rfl ?_)
    intro w245 hB246 hF247 hsw245
    have hRB_248 := hRB_238.fr1 hF247 (by omega)
    have hK_249 := hK_239.fr hF247 (by simp)
    have hFP_251 := hFP_241.tr1 hF247 (by first | exact .inl (by assumption) | exact .inr (by omega) | exact .inl (.inl rfl))
    refine V.eh trivial ?_
    refine V.pz h244 [] 1 0 [] fun a h254 => k214 _ _ ?_
    have h255 := h254.only [(0, .pointer (some ⟨t, 0, none⟩))]
    refine V.seq fun K256 k257 => ?_
    refine V.pl [([0,1,2,3,4,5,6,7,8,9,10],none)] fun w258 hF259 hsw258 => ?_
    have hRB_260 := hRB_248.fr0 hF259
    have hK_261 := hK_249.fr0 hF259
    have hFP_263 := hFP_251.tr0 hF259
    have hB246_266 := hB246.fr0 hF259
    refine V.pz h255 [(3, .b hB246_266 4), (4, .b hB246_266 1)] 91 100 [(101, .bool (decide ((T.n : Int) > ((T.b.length : Nat) : Int))))] fun a h267 => k257 _ _ ?_
    refine V.cp h267 ((T.n : Int) > ((T.b.length : Nat) : Int)) (fun ht268 => ?_) (fun ht268 => ?_)
    ·
     refine V.rg ?_
     refine V.run h267 [(5, .b hB246_266 1), (1, .q (.int .i64 ((2 * T.b.length : Nat) : Int)) (w_mulN (by omega)))] 8 103 108 [(102, .pointer (some ⟨t, 0, none⟩)), (109, .int .i64 ((2 * T.b.length : Nat) : Int))] fun a h269 => ?_
     have hKd270 := hK_261.dropNil hlA2
     have hsok2 : (swapT (movedT T)).Ok := swapT_ok hok hm hb (by omega)
     have hN271 : TabN 67 87 86 itI w258 (gh H w) av t gB vb (swapT (movedT T)) := TabN.mk2 hB246_266 hRB_260 hKd270 (mem3 (by simp) (by simp) (by intro k hk; simp [hk])) hne2 ⟨.inl hpt.1, hpt.2⟩ ⟨.inl hph.1, hph.2⟩ rfl (movedT_b T).symm rfl rfl hxe
     have hmb := movedT_b T
     refine V.cl h269 (Go.Proofs.enters_of Try.func67 (by kernel_rfl) rfl) (start_N w258 (gh H w) av t gB vb (swapT (movedT T)) hsok2 hN271 (2 * T.b.length) rfl (by omega) (by omega)) ?_
     rintro _ w274 ⟨rfl, hT272, hfp273⟩
     refine ⟨_, rfl, fun a h275 => ?_⟩
     have hsw274 := hfp273.size
     have hFP_276 := hFP_263.trP hfp273 (fun k hk => hk.1.imp (fun h => ⟨h, hk.2⟩) id)
     have hT272q := hT272
     rw [show 2 * T.b.length = 2 * (movedT T).b.length by rw [movedT_b]] at hT272q
     refine V.nil ?_
     refine V.e0 h275 ?_
     have hst : tbStep T = startT (swapT (movedT T)) (2 * (movedT T).b.length) := by (unfold tbStep; rw [if_neg hb, if_neg (by omega), if_pos (by rw [movedT_b]; omega)])
     have hsok := (tbStep_ok hok hm).1
     rw [hst] at hsok ⊢
     exact ⟨rfl, hT272q.gr2 (by omega), hFP_276⟩
    ·
     refine V.skip ?_
     refine V.e0 h267 ?_
     have hst : tbStep T = swapT (movedT T) := by (unfold tbStep; rw [if_neg hb, if_neg (by omega), if_neg (by rw [movedT_b]; omega)])
     have hsok := (tbStep_ok hok hm).1
     rw [hst] at hsok ⊢
     have hKd277 := hK_261.dropNil hlA2
     exact ⟨rfl, TabN.fin (T := (swapT (movedT T))) hsok rfl hB246_266 hRB_260 hKd277 (mem3 (l := (((Value.slice A27 ((T.a.getD T.moved []).length) c28).ownBlock.toList ++ (t :: gA :: gB :: av)))) (by simp) (by simp) (by intro k hk; simp [hk])) (by first | assumption | exact Ne.symm (by assumption) | omega) hpt ⟨.inl hph.1, hph.2⟩ rfl (movedT_b T).symm rfl rfl hxe, hFP_263⟩
theorem step_N (w : World) (H : Nat → Prop) (av : List Nat) (t gA : Nat) (vsA : List Value) (T : Tb Int) (hok : T.Ok) (hT : TabN 67 87 86 itI w H av t gA vsA T) : Calls Try.prog 64 #[.pointer (some ⟨t, 0, none⟩)] w (fun e w' => e = .returned (.tuple #[]) ∧ Fr [] w w') := by
 have hF := Fr.refl [] w
 obtain ⟨hsd, hpa, hla, hlb, hmv, hmz, hnn, hcn, hks⟩ := hok
 obtain ⟨hB, hRA, hlA, hK, hne, hpt, hpg⟩ := hT
 have hltt := hB.lt
 have hltg := hRA.lt
 refine V.en 111 Try.func64 fun a h1 => ?_
 refine V.seq fun K2 k3 => ?_
 refine V.sg fun K4 k5 => ?_
 refine V.run h1 [] 1 1 0 [(5, .pointer (some ⟨t, 0, none⟩))] fun a h6 => ?_
 refine V.cl h6 (Go.Proofs.enters_of Try.func65 (by kernel_rfl) rfl) (moves_N w t T.seed T.a.length 0 0 gA 0 (.int .i64 (T.moved : Int)) (.int .i64 (T.n : Int)) hB) ?_
 rintro _ w8 ⟨rfl, hF7⟩
 refine ⟨_, rfl, fun a h9 => ?_⟩
 have hsw8 := hF7.size
 have hF_10 := hF.new hF7
 refine V.re h9 [] 1 0 [(7, .bool true)] fun a h14 => k5 _ _ ?_
 refine V.ct h14 ?_
 refine V.ret (V.then_r ?_)
 refine V.r0 h14 ?_
 exact ⟨rfl, hF_10⟩
section
variable {w : World} {H : Nat → Prop} {av : List Nat} {t : Nat} {T : Tb Int}
theorem made_any (w : World) (H : Nat → Prop) (av : List Nat) (t : Nat) (T : Tb Int) (hT : TabX 67 87 86 itI w H av t T) : Calls Try.prog 51 #[.pointer (some ⟨t, 0, none⟩)] w (fun e w' => e = .returned (.bool true) ∧ Fr [] w w') := by
  rcases hT.2 with ⟨_, gA, vsA, h⟩ | ⟨_, gA, gB, vsA, vsB, h⟩
  · exact made_N w t T.seed T.a.length 0 0 gA 0 _ _ h.blk
  · exact made_M w t T.seed T.a.length T.b.length 0 gA gB _ _ h.blk
theorem moves_any (w : World) (H : Nat → Prop) (av : List Nat) (t : Nat) (T : Tb Int) (hT : TabX 67 87 86 itI w H av t T) : Calls Try.prog 65 #[.pointer (some ⟨t, 0, none⟩)] w (fun e w' => e = .returned (.bool (decide (T.b.length ≠ 0))) ∧ Fr [] w w') := by
  rcases hT.2 with ⟨hb, gA, vsA, h⟩ | ⟨hb, gA, gB, vsA, vsB, h⟩
  · rw [hb]; exact moves_N w t T.seed T.a.length 0 0 gA 0 _ _ h.blk
  · rw [decide_eq_true (show T.b.length ≠ 0 from fun h => hb (List.eq_nil_of_length_eq_zero h))]; exact moves_M w t T.seed T.a.length T.b.length 0 gA gB _ _ h.blk
theorem find_any (w : World) (H : Nat → Prop) (av : List Nat) (t : Nat) (T : Tb Int) (hT : TabX 67 87 86 itI w H av t T) (k : ByteArray) (hk : k.size ≤ 9223372036854775807) :
    Calls Try.prog 53 #[.pointer (some ⟨t, 0, none⟩), .string k] w (fun e w' => e = .returned (.tuple #[.agg #[.int .i64 (findT T k).1.1, .int .i64 (findT T k).1.2.1, .int .i64 (findT T k).1.2.2], .bool (findT T k).2]) ∧ Fr [] w w') := by
  rcases hT.2 with ⟨hb, gA, vsA, h⟩ | ⟨hb, gA, gB, vsA, vsB, h⟩
  · exact find_N w H av t gA vsA T hT.1 h k hk (by rw [hb]; rfl)
  · exact find_M w H av t gA gB vsA vsB T hT.1 h k hk (fun h => hb (List.eq_nil_of_length_eq_zero h))
theorem step_any (w : World) (H : Nat → Prop) (av : List Nat) (t : Nat) (T : Tb Int) (hT : TabX 67 87 86 itI w H av t T) (hm : T.Mv) :
    Calls Try.prog 64 #[.pointer (some ⟨t, 0, none⟩)] w (fun e w' => e = .returned (.tuple #[]) ∧ TabX 67 87 86 itI w' (gr H w w') av t (tbStep T) ∧ FrP (gp H av) w w') := by
  rcases hT.2 with ⟨hb, gA, vsA, h⟩ | ⟨hb, gA, gB, vsA, vsB, h⟩
  · refine (step_N w H av t gA vsA T hT.1 h).mono fun e w' q => ⟨q.1, ?_, (FrP.refl _ _).tr0 q.2⟩
    rw [show tbStep T = T from by unfold tbStep; rw [if_pos (by rw [hb]; rfl)]]
    exact (hT.fr0 q.2).gr1
  · exact step_M w H av t gA gB vsA vsB T hT.1 h (fun h => hb (List.eq_nil_of_length_eq_zero h)) hm
end
theorem insT_ok0 {α : Type} {T : Tb α} (h : T.Ok) (hb : T.b.length = 0) (hn : T.n < 1099511627776) (k : ByteArray) (hk : k.size ≤ 9223372036854775807) (v : α) : ({ T with a := putB T.seed T.a (k, v), n := T.n + 1 } : Tb α).Ok := by
  have hs := h.sum
  exact ⟨h.sd, by show 0 < (putB _ _ _).length; rw [putB_length]; exact h.pa, by show (putB _ _ _).length ≤ _; rw [putB_length]; exact h.la, h.lb, fun h0 => absurd hb h0, fun _ => h.mz hb, by show T.n + 1 ≤ _; omega, by
    show (putB T.seed T.a (k, v) ++ T.b).flatten.length = T.n + 1
    rw [List.flatten_append, List.length_append, putB_flat h.pa]; omega, KsR.put h.ks.1 hk, h.ks.2⟩
theorem tbStep_n {α : Type} (T : Tb α) : (tbStep T).n = T.n := by
  unfold tbStep
  split
  · rfl
  · split
    · rfl
    · split <;> rfl
theorem put_any (w : World) (H : Nat → Prop) (av : List Nat) (t : Nat) (T : Tb Int) (hT : TabX 67 87 86 itI w H av t T) (hm : T.Mv) (k : ByteArray) (hkz : k.size ≤ 9223372036854775807) (v : Int) (hv : -9223372036854775808 ≤ v ∧ v ≤ 9223372036854775807) (hn : T.n < 1099511627776) : Calls Try.prog 38 #[.pointer (some ⟨t, 0, none⟩), .string k, .int .i64 v] w (fun e w' => e = .returned (.bool (findT (tbStep T) k).2) ∧ TabX 67 87 86 itI w' (gr H w w') av t (putT T k v) ∧ FrP (gp H av) w w') := by
 have hFP := FrP.refl (gp H av) w
 obtain ⟨hok0, hm1⟩ := tbStep_ok hT.1 hm
 obtain ⟨T1, hT1⟩ : ∃ T1, T1 = tbStep T := ⟨_, rfl⟩
 rw [← hT1] at hok0 hm1 ⊢
 have hn1 : T1.n < 1099511627776 := by rw [hT1, tbStep_n]; exact hn
 refine V.en 99 Try.func38 fun a h1 => ?_
 refine V.sr h1 [] 6 6 [] fun a h4 => ?_
 refine V.seq fun K5 k6 => ?_
 refine V.sg fun K7 k8 => ?_
 refine V.run h4 [] 1 1 0 [(11, .pointer (some ⟨t, 0, none⟩))] fun a h9 => ?_
 refine V.cl h9 (Go.Proofs.enters_of Try.func51 (by kernel_rfl) rfl) (made_any w (H) (av) t (T) hT) ?_
 rintro _ w11 ⟨rfl, hF10⟩
 refine ⟨_, rfl, fun a h12 => ?_⟩
 have hsw11 := hF10.size
 have hT_13 := hT.fr0 hF10
 have hFP_14 := hFP.tr0 hF10
 refine V.re h12 [] 1 0 [(13, .bool false)] fun a h15 => k8 _ _ ?_
 refine V.cf h15 ?_
 refine V.skip ?_
 refine V.then_n (k6 _ _ ?_)
 refine V.sg fun K16 k17 => ?_
 refine V.run h15 [] 1 1 0 [(14, .pointer (some ⟨t, 0, none⟩))] fun a h18 => ?_
 refine V.cl h18 (Go.Proofs.enters_of Try.func64 (by kernel_rfl) rfl) (step_any w11 (H) (av) t (T) hT_13 hm) ?_
 rintro _ w21 ⟨rfl, hT19, hfp20⟩
 refine ⟨_, rfl, fun a h22 => ?_⟩
 have hsw21 := hfp20.size
 have hFP_23 := hFP_14.trP hfp20 (fun k hk => .inl hk)
 have hT19q := hT19.grm (w := w) (by omega)
 rw [← hT1] at hT19q
 refine V.nt (k17 _ _ ?_)
 refine V.seq fun K24 k25 => ?_
 refine V.sg fun K26 k27 => ?_
 refine V.run h22 [] 2 1 0 [(17, .pointer (some ⟨t, 0, none⟩)), (18, .string k)] fun a h28 => ?_
 have hok1 := hT19q.1
 rcases findT_cases hok1 k with hf | ⟨j, hf, hj⟩ | ⟨hbn, j, hf, hj⟩
 ·
  rcases hT19q.2 with ⟨hb0, gA, vsA, hN⟩ | ⟨hb0, gA, gB, vsA, vsB, hN⟩
  ·
   have hb1 : T1.b.length = 0 := by rw [hb0]; rfl
   obtain ⟨hB, hRA, hlA, hK, hne, hpt, hpg⟩ := hN
   replace hK := hK.toH
   have hltt := hB.lt
   have hltg := hRA.lt
   have hE : FrP (gp (gr H w w21) av) w21 w21 := FrP.refl _ _
   have hK0 : ∀ k ∈ av, k < w21.heap.size := fun k hk => hK.avl k (by simp [hk])
   obtain ⟨hsd, hpa, hla, hlb, hmv, hmz, hnn, hcn, hks⟩ := (show T1.Ok from hok1)
   have hbl := hok1.bl
   have hFPE := hFP_23
   refine V.cl (av := #[.pointer (some ⟨t, 0, none⟩), .string k]) h28 (Go.Proofs.enters_of Try.func53 (by kernel_rfl) rfl) (by have h := find_any w21 (gr H w w21) (av) t T1 hT19q k hkz; rw [hf] at h; exact h) ?_
   rintro _ w30 ⟨rfl, hF29⟩
   refine ⟨_, rfl, fun a h31 => ?_⟩
   have hsw30 := hF29.size
   have hB_32 := hB.fr0 hF29
   have hRA_33 := hRA.fr0 hF29
   have hK_34 := hK.fr0 hF29
   have hE_35 := hE.tr0 hF29
   refine V.run h31 [] 3 16 16 [(20, .agg #[.int .i64 0, .int .i64 0, .int .i64 0]), (21, .bool false)] fun a h40 => ?_
   refine V.go (V.mk [] trivial (by kernel_rfl) [.int .i64 0, .int .i64 0, .int .i64 0] 82 (fun b => .pointer (some ⟨b, 0, none⟩)) (by kernel_rfl) ?_)
   intro w37 b36 heb36 hB38 hF39 hsb36
   have hB_41 := hB_32.fr0 hF39
   have hRA_42 := hRA_33.fr0 hF39
   have hK_43 := hK_34.alloc hF39 heb36 (by omega)
   have hE_44 := hE_35.tr0 hF39
   refine V.pt h40 fun a h45 => ?_
   refine V.go (V.stn b36 0 (.agg #[.int .i64 0, .int .i64 0, .int .i64 0]) [.int .i64 0, .int .i64 0, .int .i64 0] h45.e h45.e rfl rfl (by kernel_rfl) hB38 (by simp) [.int .i64 0, .int .i64 0, .int .i64 0] rfl ?_)
   intro w46 hB47 hF48 hsw46
   have hB_49 := hB_41.fr1 hF48 (by omega)
   have hRA_50 := hRA_42.fr1 hF48 (by omega)
   have hK_51 := hK_43.fr hF48 (by simp)
   have hE_52 := hE_44.tr1 hF48 (by first | exact .inl (by assumption) | exact .inr (by omega) | exact .inl (.inl rfl))
   refine V.re h45 [] 1 0 [(8, .bool false)] fun a h53 => k27 _ _ ?_
   refine V.sr h53 [] 1 0 [(22, .bool false)] fun a h56 => ?_
   refine V.cf h56 ?_
   refine V.skip ?_
   refine V.then_n (k25 _ _ ?_)
   refine V.sr h56 [] 1 0 [(9, .int .i64 0)] fun a h59 => ?_
   refine V.seq fun K60 k61 => ?_
   refine V.sg fun K62 k63 => ?_
   refine V.run h59 [] 1 1 0 [(39, .pointer (some ⟨t, 0, none⟩))] fun a h64 => ?_
   refine V.cl h64 (Go.Proofs.enters_of Try.func65 (by kernel_rfl) rfl) (moves_N w46 t T1.seed T1.a.length 0 0 gA 0 (.int .i64 (T1.moved : Int)) (.int .i64 (T1.n : Int)) hB_49) ?_
   rintro _ w66 ⟨rfl, hF65⟩
   refine ⟨_, rfl, fun a h67 => ?_⟩
   have hsw66 := hF65.size
   have hB_68 := hB_49.fr0 hF65
   have hRA_69 := hRA_50.fr0 hF65
   have hK_70 := hK_51.fr0 hF65
   have hE_71 := hE_52.tr0 hF65
   refine V.nt (k63 _ _ ?_)
   refine V.cf h67 ?_
   refine V.skip ?_
   refine V.then_n (k61 _ _ ?_)
   refine V.sg fun K73 k74 => ?_
   refine V.run h67 [] 3 1 0 [(41, .pointer (some ⟨t, 0, none⟩)), (42, .int .i64 0), (43, .string k)] fun a h75 => ?_
   refine V.cl h75 (Go.Proofs.enters_of Try.func66 (by kernel_rfl) rfl) (bucket_N0 w66 t T1.seed T1.a.length 0 0 gA 0 (.int .i64 (T1.moved : Int)) (.int .i64 (T1.n : Int)) hB_68 k (by omega) (by omega) (by omega) (by omega)) ?_
   rintro _ w77 ⟨rfl, hF76⟩
   refine ⟨_, rfl, fun a h78 => ?_⟩
   have hsw77 := hF76.size
   have hB_79 := hB_68.fr0 hF76
   have hRA_80 := hRA_69.fr0 hF76
   have hK_81 := hK_70.fr0 hF76
   have hE_82 := hE_71.tr0 hF76
   have hbl76 := bkt_lt T1.seed k (n := T1.a.length) (by omega)
   refine V.re h78 [] 1 0 [(10, .int .i64 ((bkt T1.seed T1.a.length k : Nat) : Int))] fun a h84 => k74 _ _ ?_
   refine V.seq fun K85 k86 => ?_
   have hbq := hbl (bkt T1.seed T1.a.length k)
   refine V.pl [([0,1,2,3,4,5,6,7,8,9,10,11,12,13,14,15,16,17,18],some (19,[5,12,15])),([],some (20,[5])),([21],some (22,[])),([],none)] fun w87 hF88 hsw87 => ?_
   have hB_89 := hB_79.fr0 hF88
   have hRA_90 := hRA_80.fr0 hF88
   have hK_91 := hK_81.fr0 hF88
   have hE_92 := hE_82.tr0 hF88
   obtain ⟨A94, c95, hv96⟩ := hK_91.getA hlA (i := (bkt T1.seed T1.a.length k)) (by omega) nilS
   have hS97 := hK_91.slA hlA (i := (bkt T1.seed T1.a.length k)) (by omega) hv96
   refine V.pe h84 [(5, .b hB_89 1), (6, .b hB_89 1), (1, .ix gA 0 T1.a.length T1.a.length .i64 ((bkt T1.seed T1.a.length k : Nat) : Int) 1 rfl), (0, .l ⟨gA, 0 + ((bkt T1.seed T1.a.length k : Nat) : Int).toNat * 1, none⟩ (.slice A94 ((T1.a.getD (bkt T1.seed T1.a.length k) []).length) c95) ((hRA_90.at (bkt T1.seed T1.a.length k) nilS (by omega)).trans (congrArg some hv96)))] 45 62 [(49, .pointer (some ⟨t, 1, none⟩)), (50, .slice (some ⟨gA, 0, none⟩) T1.a.length T1.a.length), (51, .int .i64 ((bkt T1.seed T1.a.length k : Nat) : Int)), (56, .pointer (some ⟨t, 1, none⟩)), (59, .pointer (some ⟨gA, 0 + ((bkt T1.seed T1.a.length k : Nat) : Int).toNat * 1, none⟩)), (60, .slice A94 ((T1.a.getD (bkt T1.seed T1.a.length k) []).length) c95), (63, .agg #[.string k, .int .i64 v])] fun a h98 => ?_
   refine V.go (V.mk [(63, .agg #[.string k, .int .i64 v])] ⟨h98.e, trivial⟩ (by kernel_rfl) [.string k, .int .i64 v] 86 (fun b => .slice (some ⟨b, 0, none⟩) 1 1) (by kernel_rfl) ?_)
   intro w100 b99 heb99 hB101 hF102 hsb99
   have hB_103 := hB_89.fr0 hF102
   have hRA_104 := hRA_90.fr0 hF102
   have hK_105 := hK_91.alloc hF102 heb99 (by omega)
   have hE_106 := hE_92.tr0 hF102
   refine V.pt h98 fun a h109 => ?_
   refine V.eh ⟨(fun _ => held_blk (n := 1) (hx := (h98.e (v := (.pointer (some ⟨t, 1, none⟩))))) hB_89 hB_103 (by kernel_rfl) rfl (by simp only [List.length]; omega)), (fun _ => held_blk (n := 1) (hx := (h98.e (v := (.pointer (some ⟨t, 1, none⟩))))) hB_89 hB_103 (by kernel_rfl) rfl (by simp only [List.length]; omega)), (fun _ => held_row (hx := (h98.e (v := (.pointer (some ⟨gA, 0 + ((bkt T1.seed T1.a.length k : Nat) : Int).toNat * 1, none⟩))))) hRA_90 hRA_104 (by kernel_rfl) (by omega))⟩ ?_
   refine V.pe h109 [] 1 0 [] fun a h110 => ?_
   refine V.go (V.appRA (R := itI) (ys := ([(k, v)])) (news := [.string k, .int .i64 v]) hK_105 hlA (i := (bkt T1.seed T1.a.length k)) (by omega) hv96 (h110.e (v := (.slice A94 ((T1.a.getD (bkt T1.seed T1.a.length k) []).length) c95))) ⟨b99, 0, none⟩ 1 1 (h110.e (v := (.slice (some ⟨b99, 0, none⟩) 1 1))) (by kernel_rfl) (info86) (by kernel_rfl) (by decide) rfl ⟨[.string k, .int .i64 v], [], rfl, rfl, rfl⟩ (blk_cells hB101 0 _ rfl) (by omega) (by decide) (.inr (by omega)) ?_)
   intro A111 c112 w113 hK114 hF115 ho116
   have hsw113 := hF115.size
   have hB_117 := hB_103.fr hF115 (fun hm => (ho116 _ hm).1 (by simp))
   have hRA_118 := hRA_104.fr hF115 (fun hm => (ho116 _ hm).1 (by simp))
   have hE_119 := hE_106.tr hF115 (fun k hk => ((ho116 k hk).2).imp (fun h => ⟨h, fun hm => (ho116 k hk).1 (by simp [hm])⟩) id)
   refine V.pt h110 fun a h121 => ?_
   refine V.eh (fun _ => held_blk (n := 1) (hx := (h110.e (v := (.pointer (some ⟨t, 1, none⟩))))) hB_103 hB_117 (by kernel_rfl) rfl (by simp only [List.length]; omega)) ?_
   refine V.pe h121 [(0, .ix gA 0 T1.a.length T1.a.length .i64 ((bkt T1.seed T1.a.length k : Nat) : Int) 1 rfl)] 1 0 [(66, .pointer (some ⟨gA, 0 + ((bkt T1.seed T1.a.length k : Nat) : Int).toNat * 1, none⟩))] fun a h122 => ?_
   refine V.go (V.strow (enc := idV) gA (((bkt T1.seed T1.a.length k : Nat) : Int).toNat) (.slice A111 ((T1.a.getD (bkt T1.seed T1.a.length k) []).length + 1) c112) h122.e h122.e rfl rfl (by kernel_rfl) hRA_118 (by first | omega | (simp only [List.length_set, List.length_replicate]; omega)) ?_)
   intro w123 hR124 hF125 hsw123
   have hB_126 := hB_117.fr1 hF125 (by omega)
   have hE_127 := hE_119.tr1 hF125 (by first | exact .inl (by assumption) | exact .inr (by omega) | exact .inl (.inl rfl))
   have hK114_129 := hK114.fr hF125 (by simp)
   refine V.eh trivial ?_
   refine V.pz h122 [] 1 0 [] fun a h130 => k86 _ _ ?_
   have h131 := h130.only [(0, .pointer (some ⟨t, 0, none⟩))]
   refine V.sg fun K132 k133 => ?_
   refine V.run h131 [(3, .b hB_126 4), (0, .i ((T1.n : Int) + 1))] 7 67 72 [(71, .int .i64 ((T1.n : Int) + 1)), (73, .pointer (some ⟨t, 4, none⟩))] fun a h137 => ?_
   refine V.go (V.stn t 4 (.int .i64 ((T1.n : Int) + 1)) [.int .i64 ((T1.n : Int) + 1)] h137.e h137.e rfl rfl (by kernel_rfl) hB_126 (by simp) [.int .u64 (T1.seed : Int), .slice (some ⟨gA, 0, none⟩) T1.a.length T1.a.length, .slice none 0 0, .int .i64 (T1.moved : Int), .int .i64 ((T1.n : Int) + 1)] rfl ?_)
   intro w134 hB135 hF136 hsw134
   have hE_138 := hE_127.tr1 hF136 (by first | exact .inl (by assumption) | exact .inr (by omega) | exact .inl (.inl rfl))
   have hK114_140 := hK114_129.fr hF136 (by simp)
   have hR124_141 := hR124.fr1 hF136 (by omega)
   refine V.nt (k133 _ _ ?_)
   refine V.seq fun K142 k143 => ?_
   refine V.seq fun K144 k145 => ?_
   refine V.pl [([0],some (1,[])),([2,3,4,5,6,7,8,9,10,11,12,13,14,15],none)] fun w146 hF147 hsw146 => ?_
   have hE_148 := hE_138.tr0 hF147
   have hK114_150 := hK114_140.fr0 hF147
   have hR124_151 := hR124_141.fr0 hF147
   have hB135_152 := hB135.fr0 hF147
   refine V.pe h137 [] 1 0 [(74, .pointer (some ⟨t, 0, none⟩))] fun a h153 => ?_
   refine V.cl h153 (Go.Proofs.enters_of Try.func65 (by kernel_rfl) rfl) (moves_N w146 t T1.seed T1.a.length 0 0 gA 0 (.int .i64 (T1.moved : Int)) (.int .i64 ((T1.n : Int) + 1)) hB135_152) ?_
   rintro _ w155 ⟨rfl, hF154⟩
   refine ⟨_, rfl, fun a h156 => ?_⟩
   have hsw155 := hF154.size
   have hE_157 := hE_148.tr0 hF154
   have hK114_159 := hK114_150.fr0 hF154
   have hR124_160 := hR124_151.fr0 hF154
   have hB135_161 := hB135_152.fr0 hF154
   refine V.eh trivial ?_
   refine V.pz h156 [(5, .b hB135_161 4), (4, .b hB135_161 1)] 76 88 [(89, .bool (decide (((T1.n : Int) + 1) > ((T1.a.length : Nat) : Int))))] fun a h162 => k145 _ _ ?_
   refine V.cp h162 (((T1.n : Int) + 1) > ((T1.a.length : Nat) : Int)) (fun ht163 => ?_) (fun ht163 => ?_)
   ·
    refine V.rg ?_
    refine V.run h162 [(5, .b hB135_161 1), (1, .q (.int .i64 ((2 * T1.a.length : Nat) : Int)) (w_mulN (by omega)))] 8 91 96 [(90, .pointer (some ⟨t, 0, none⟩)), (97, .int .i64 ((2 * T1.a.length : Nat) : Int))] fun a h164 => ?_
    have hins := insT_ok0 hok1 hb1 (by omega) k hkz v
    have hlp : (putB T1.seed T1.a (k, v)).length = T1.a.length := putB_length _ _ _
    have hN165 : TabN 67 87 86 itI w155 (gh (gr H w w21) w21) av t gA (vsA.set (((bkt T1.seed T1.a.length k : Nat) : Int).toNat) (.slice A111 ((T1.a.getD (bkt T1.seed T1.a.length k) []).length + 1) c112)) ({ T1 with a := putB T1.seed T1.a (k, v), n := T1.n + 1 } : Tb Int) := TabN.mk2 hB135_161 hR124_160 (by simpa [putB] using hK114_159) (mem3 (by simp) (by simp) (by intro k hk; simp [hk])) hne ⟨.inl hpt.1, hpt.2⟩ ⟨.inl hpg.1, hpg.2⟩ rfl hlp.symm rfl (by simp) rfl
    refine V.cl h164 (Go.Proofs.enters_of Try.func67 (by kernel_rfl) rfl) (start_N w155 (gh (gr H w w21) w21) av t gA _ ({ T1 with a := putB T1.seed T1.a (k, v), n := T1.n + 1 } : Tb Int) hins hN165 (2 * T1.a.length) hb0 (by omega) (by omega)) ?_
    rintro _ w168 ⟨rfl, hT166, hfp167⟩
    refine ⟨_, rfl, fun a h169 => ?_⟩
    have hsw168 := hfp167.size
    have hE_170 := hE_157.trP hfp167 (fun k hk => hk.1.imp (fun h => ⟨h, hk.2⟩) id)
    refine V.nt (k143 _ _ ?_)
    refine V.sr h169 [] 1 0 [(6, .bool false)] fun a h173 => ?_
    refine V.ret ?_
    refine V.r1 h173 (.bool false) ?_
    have hst : putT T k v = insT T1 k v := by (unfold putT; rw [← hT1]; unfold put1T; rw [hf, if_neg (by simp)])
    have hup := (insT_ok hok1 hm1 (by omega) k hkz v).1
    rw [hst]
    have hu2 : insT T1 k v = startT ({ T1 with a := putB T1.seed T1.a (k, v), n := T1.n + 1 } : Tb Int) (2 * T1.a.length) := by (unfold insT; rw [if_pos hb1, if_pos (by omega)])
    rw [hu2]
    exact ⟨by rw [hf], (hT166.gr2 (by omega)).gr3 (by omega), (hFPE.gr hE_170)⟩
   ·
    refine V.skip ?_
    refine V.then_n (k143 _ _ ?_)
    refine V.sr h162 [] 1 0 [(6, .bool false)] fun a h176 => ?_
    refine V.ret ?_
    refine V.r1 h176 (.bool false) ?_
    have hst : putT T k v = insT T1 k v := by (unfold putT; rw [← hT1]; unfold put1T; rw [hf, if_neg (by simp)])
    have hup := (insT_ok hok1 hm1 (by omega) k hkz v).1
    rw [hst]
    have hu2 : insT T1 k v = ({ T1 with a := putB T1.seed T1.a (k, v), n := T1.n + 1 } : Tb Int) := by (unfold insT; rw [if_pos hb1, if_neg (by omega)])
    rw [hu2] at hup ⊢
    exact ⟨by rw [hf], (TabN.fin (T := ({ T1 with a := putB T1.seed T1.a (k, v), n := T1.n + 1 })) hup hb0 hB135_161 hR124_160 (by have h := hK114_159; rw [List.append_nil, List.append_nil] at h; exact h) (mem3 (l := (b99 :: b36 :: t :: gA :: av)) (by simp) (by simp) (by intro k hk; simp [hk])) (by first | assumption | exact Ne.symm (by assumption) | omega) hpt ⟨.inl hpg.1, hpg.2⟩ rfl (putB_length _ _ _).symm rfl (by simp) rfl).gr3 (by omega), (hFPE.gr hE_157)⟩
  ·
   have hb1 : T1.b.length ≠ 0 := fun h => hb0 (List.eq_nil_of_length_eq_zero h)
   obtain ⟨hB, hRA, hRB, hlA, hlB, hK, hne, hne2, hne3, hpt, hpg, hph⟩ := hN
   replace hK := hK.toH
   have hltt := hB.lt
   have hltg := hRA.lt
   have hltg2 := hRB.lt
   have hE : FrP (gp (gr H w w21) av) w21 w21 := FrP.refl _ _
   have hK0 : ∀ k ∈ av, k < w21.heap.size := fun k hk => hK.avl k (by simp [hk])
   obtain ⟨hsd, hpa, hla, hlb, hmv, hmz, hnn, hcn, hks⟩ := (show T1.Ok from hok1)
   have hbl := hok1.bl
   have hFPE := hFP_23
   refine V.cl (av := #[.pointer (some ⟨t, 0, none⟩), .string k]) h28 (Go.Proofs.enters_of Try.func53 (by kernel_rfl) rfl) (by have h := find_any w21 (gr H w w21) (av) t T1 hT19q k hkz; rw [hf] at h; exact h) ?_
   rintro _ w178 ⟨rfl, hF177⟩
   refine ⟨_, rfl, fun a h179 => ?_⟩
   have hsw178 := hF177.size
   have hB_180 := hB.fr0 hF177
   have hRA_181 := hRA.fr0 hF177
   have hRB_182 := hRB.fr0 hF177
   have hK_183 := hK.fr0 hF177
   have hE_184 := hE.tr0 hF177
   refine V.run h179 [] 3 16 16 [(20, .agg #[.int .i64 0, .int .i64 0, .int .i64 0]), (21, .bool false)] fun a h189 => ?_
   refine V.go (V.mk [] trivial (by kernel_rfl) [.int .i64 0, .int .i64 0, .int .i64 0] 82 (fun b => .pointer (some ⟨b, 0, none⟩)) (by kernel_rfl) ?_)
   intro w186 b185 heb185 hB187 hF188 hsb185
   have hB_190 := hB_180.fr0 hF188
   have hRA_191 := hRA_181.fr0 hF188
   have hRB_192 := hRB_182.fr0 hF188
   have hK_193 := hK_183.alloc hF188 heb185 (by omega)
   have hE_194 := hE_184.tr0 hF188
   refine V.pt h189 fun a h195 => ?_
   refine V.go (V.stn b185 0 (.agg #[.int .i64 0, .int .i64 0, .int .i64 0]) [.int .i64 0, .int .i64 0, .int .i64 0] h195.e h195.e rfl rfl (by kernel_rfl) hB187 (by simp) [.int .i64 0, .int .i64 0, .int .i64 0] rfl ?_)
   intro w196 hB197 hF198 hsw196
   have hB_199 := hB_190.fr1 hF198 (by omega)
   have hRA_200 := hRA_191.fr1 hF198 (by omega)
   have hRB_201 := hRB_192.fr1 hF198 (by omega)
   have hK_202 := hK_193.fr hF198 (by simp)
   have hE_203 := hE_194.tr1 hF198 (by first | exact .inl (by assumption) | exact .inr (by omega) | exact .inl (.inl rfl))
   refine V.re h195 [] 1 0 [(8, .bool false)] fun a h204 => k27 _ _ ?_
   refine V.sr h204 [] 1 0 [(22, .bool false)] fun a h207 => ?_
   refine V.cf h207 ?_
   refine V.skip ?_
   refine V.then_n (k25 _ _ ?_)
   refine V.sr h207 [] 1 0 [(9, .int .i64 0)] fun a h210 => ?_
   refine V.seq fun K211 k212 => ?_
   refine V.sg fun K213 k214 => ?_
   refine V.run h210 [] 1 1 0 [(39, .pointer (some ⟨t, 0, none⟩))] fun a h215 => ?_
   refine V.cl h215 (Go.Proofs.enters_of Try.func65 (by kernel_rfl) rfl) (moves_M w196 t T1.seed T1.a.length T1.b.length 0 gA gB (.int .i64 (T1.moved : Int)) (.int .i64 (T1.n : Int)) hB_199) ?_
   rintro _ w217 ⟨rfl, hF216⟩
   refine ⟨_, rfl, fun a h218 => ?_⟩
   have hsw217 := hF216.size
   have hB_219 := hB_199.fr0 hF216
   have hRA_220 := hRA_200.fr0 hF216
   have hRB_221 := hRB_201.fr0 hF216
   have hK_222 := hK_202.fr0 hF216
   have hE_223 := hE_203.tr0 hF216
   refine V.nt (k214 _ _ ?_)
   refine V.ct h218 ?_
   refine V.rr h218 [] 1 0 [(9, .int .i64 1)] fun a h225 => ?_
   refine V.then_n (k212 _ _ ?_)
   refine V.sg fun K226 k227 => ?_
   refine V.run h225 [] 3 1 0 [(41, .pointer (some ⟨t, 0, none⟩)), (42, .int .i64 1), (43, .string k)] fun a h228 => ?_
   refine V.cl h228 (Go.Proofs.enters_of Try.func66 (by kernel_rfl) rfl) (bucket_M1 w217 t T1.seed T1.a.length T1.b.length 0 gA gB (.int .i64 (T1.moved : Int)) (.int .i64 (T1.n : Int)) hB_219 k (by omega) (by omega) (by omega) (by omega)) ?_
   rintro _ w230 ⟨rfl, hF229⟩
   refine ⟨_, rfl, fun a h231 => ?_⟩
   have hsw230 := hF229.size
   have hB_232 := hB_219.fr0 hF229
   have hRA_233 := hRA_220.fr0 hF229
   have hRB_234 := hRB_221.fr0 hF229
   have hK_235 := hK_222.fr0 hF229
   have hE_236 := hE_223.tr0 hF229
   have hbl229 := bkt_lt T1.seed k (n := T1.b.length) (by omega)
   refine V.re h231 [] 1 0 [(10, .int .i64 ((bkt T1.seed T1.b.length k : Nat) : Int))] fun a h238 => k227 _ _ ?_
   refine V.seq fun K239 k240 => ?_
   have hbq := hbl (bkt T1.seed T1.b.length k)
   refine V.pl [([0,1,2,3,4,5,6,7,8,9,10,11,12,13,14,15,16,17,18],some (19,[5,12,15])),([],some (20,[5])),([21],some (22,[])),([],none)] fun w241 hF242 hsw241 => ?_
   have hB_243 := hB_232.fr0 hF242
   have hRA_244 := hRA_233.fr0 hF242
   have hRB_245 := hRB_234.fr0 hF242
   have hK_246 := hK_235.fr0 hF242
   have hE_247 := hE_236.tr0 hF242
   obtain ⟨A249, c250, hv251⟩ := hK_246.getB hlA (i := (bkt T1.seed T1.b.length k)) (by omega) nilS
   have hS252 := hK_246.slB hlA (i := (bkt T1.seed T1.b.length k)) (by omega) hv251
   refine V.pe h238 [(5, .b hB_243 2), (6, .b hB_243 2), (1, .ix gB 0 T1.b.length T1.b.length .i64 ((bkt T1.seed T1.b.length k : Nat) : Int) 1 rfl), (0, .l ⟨gB, 0 + ((bkt T1.seed T1.b.length k : Nat) : Int).toNat * 1, none⟩ (.slice A249 ((T1.b.getD (bkt T1.seed T1.b.length k) []).length) c250) ((hRB_245.at (bkt T1.seed T1.b.length k) nilS (by omega)).trans (congrArg some hv251)))] 45 62 [(49, .pointer (some ⟨t, 2, none⟩)), (50, .slice (some ⟨gB, 0, none⟩) T1.b.length T1.b.length), (51, .int .i64 ((bkt T1.seed T1.b.length k : Nat) : Int)), (56, .pointer (some ⟨t, 2, none⟩)), (59, .pointer (some ⟨gB, 0 + ((bkt T1.seed T1.b.length k : Nat) : Int).toNat * 1, none⟩)), (60, .slice A249 ((T1.b.getD (bkt T1.seed T1.b.length k) []).length) c250), (63, .agg #[.string k, .int .i64 v])] fun a h253 => ?_
   refine V.go (V.mk [(63, .agg #[.string k, .int .i64 v])] ⟨h253.e, trivial⟩ (by kernel_rfl) [.string k, .int .i64 v] 86 (fun b => .slice (some ⟨b, 0, none⟩) 1 1) (by kernel_rfl) ?_)
   intro w255 b254 heb254 hB256 hF257 hsb254
   have hB_258 := hB_243.fr0 hF257
   have hRA_259 := hRA_244.fr0 hF257
   have hRB_260 := hRB_245.fr0 hF257
   have hK_261 := hK_246.alloc hF257 heb254 (by omega)
   have hE_262 := hE_247.tr0 hF257
   refine V.pt h253 fun a h265 => ?_
   refine V.eh ⟨(fun _ => held_blk (n := 1) (hx := (h253.e (v := (.pointer (some ⟨t, 2, none⟩))))) hB_243 hB_258 (by kernel_rfl) rfl (by simp only [List.length]; omega)), (fun _ => held_blk (n := 1) (hx := (h253.e (v := (.pointer (some ⟨t, 2, none⟩))))) hB_243 hB_258 (by kernel_rfl) rfl (by simp only [List.length]; omega)), (fun _ => held_row (hx := (h253.e (v := (.pointer (some ⟨gB, 0 + ((bkt T1.seed T1.b.length k : Nat) : Int).toNat * 1, none⟩))))) hRB_245 hRB_260 (by kernel_rfl) (by omega))⟩ ?_
   refine V.pe h265 [] 1 0 [] fun a h266 => ?_
   refine V.go (V.appRB (R := itI) (ys := ([(k, v)])) (news := [.string k, .int .i64 v]) hK_261 hlA (i := (bkt T1.seed T1.b.length k)) (by omega) hv251 (h266.e (v := (.slice A249 ((T1.b.getD (bkt T1.seed T1.b.length k) []).length) c250))) ⟨b254, 0, none⟩ 1 1 (h266.e (v := (.slice (some ⟨b254, 0, none⟩) 1 1))) (by kernel_rfl) (info86) (by kernel_rfl) (by decide) rfl ⟨[.string k, .int .i64 v], [], rfl, rfl, rfl⟩ (blk_cells hB256 0 _ rfl) (by omega) (by decide) (.inr (by omega)) ?_)
   intro A267 c268 w269 hK270 hF271 ho272
   have hsw269 := hF271.size
   have hB_273 := hB_258.fr hF271 (fun hm => (ho272 _ hm).1 (by simp))
   have hRA_274 := hRA_259.fr hF271 (fun hm => (ho272 _ hm).1 (by simp))
   have hRB_275 := hRB_260.fr hF271 (fun hm => (ho272 _ hm).1 (by simp))
   have hE_276 := hE_262.tr hF271 (fun k hk => ((ho272 k hk).2).imp (fun h => ⟨h, fun hm => (ho272 k hk).1 (by simp [hm])⟩) id)
   refine V.pt h266 fun a h278 => ?_
   refine V.eh (fun _ => held_blk (n := 1) (hx := (h266.e (v := (.pointer (some ⟨t, 2, none⟩))))) hB_258 hB_273 (by kernel_rfl) rfl (by simp only [List.length]; omega)) ?_
   refine V.pe h278 [(0, .ix gB 0 T1.b.length T1.b.length .i64 ((bkt T1.seed T1.b.length k : Nat) : Int) 1 rfl)] 1 0 [(66, .pointer (some ⟨gB, 0 + ((bkt T1.seed T1.b.length k : Nat) : Int).toNat * 1, none⟩))] fun a h279 => ?_
   refine V.go (V.strow (enc := idV) gB (((bkt T1.seed T1.b.length k : Nat) : Int).toNat) (.slice A267 ((T1.b.getD (bkt T1.seed T1.b.length k) []).length + 1) c268) h279.e h279.e rfl rfl (by kernel_rfl) hRB_275 (by first | omega | (simp only [List.length_set, List.length_replicate]; omega)) ?_)
   intro w280 hR281 hF282 hsw280
   have hB_283 := hB_273.fr1 hF282 (by omega)
   have hRA_284 := hRA_274.fr1 hF282 (by omega)
   have hE_285 := hE_276.tr1 hF282 (by first | exact .inl (by assumption) | exact .inr (by omega) | exact .inl (.inl rfl))
   have hK270_287 := hK270.fr hF282 (by simp)
   refine V.eh trivial ?_
   refine V.pz h279 [] 1 0 [] fun a h288 => k240 _ _ ?_
   have h289 := h288.only [(0, .pointer (some ⟨t, 0, none⟩))]
   refine V.sg fun K290 k291 => ?_
   refine V.run h289 [(3, .b hB_283 4), (0, .i ((T1.n : Int) + 1))] 7 67 72 [(71, .int .i64 ((T1.n : Int) + 1)), (73, .pointer (some ⟨t, 4, none⟩))] fun a h295 => ?_
   refine V.go (V.stn t 4 (.int .i64 ((T1.n : Int) + 1)) [.int .i64 ((T1.n : Int) + 1)] h295.e h295.e rfl rfl (by kernel_rfl) hB_283 (by simp) [.int .u64 (T1.seed : Int), .slice (some ⟨gA, 0, none⟩) T1.a.length T1.a.length, .slice (some ⟨gB, 0, none⟩) T1.b.length T1.b.length, .int .i64 (T1.moved : Int), .int .i64 ((T1.n : Int) + 1)] rfl ?_)
   intro w292 hB293 hF294 hsw292
   have hRA_296 := hRA_284.fr1 hF294 (by omega)
   have hE_297 := hE_285.tr1 hF294 (by first | exact .inl (by assumption) | exact .inr (by omega) | exact .inl (.inl rfl))
   have hK270_299 := hK270_287.fr hF294 (by simp)
   have hR281_300 := hR281.fr1 hF294 (by omega)
   refine V.nt (k291 _ _ ?_)
   refine V.seq fun K301 k302 => ?_
   refine V.seq fun K303 k304 => ?_
   refine V.pl [([0],some (1,[])),([2,3,4,5,6,7,8,9,10,11,12,13,14,15],none)] fun w305 hF306 hsw305 => ?_
   have hRA_307 := hRA_296.fr0 hF306
   have hE_308 := hE_297.tr0 hF306
   have hK270_310 := hK270_299.fr0 hF306
   have hR281_311 := hR281_300.fr0 hF306
   have hB293_312 := hB293.fr0 hF306
   refine V.pe h295 [] 1 0 [(74, .pointer (some ⟨t, 0, none⟩))] fun a h313 => ?_
   refine V.cl h313 (Go.Proofs.enters_of Try.func65 (by kernel_rfl) rfl) (moves_M w305 t T1.seed T1.a.length T1.b.length 0 gA gB (.int .i64 (T1.moved : Int)) (.int .i64 ((T1.n : Int) + 1)) hB293_312) ?_
   rintro _ w315 ⟨rfl, hF314⟩
   refine ⟨_, rfl, fun a h316 => ?_⟩
   have hsw315 := hF314.size
   have hRA_317 := hRA_307.fr0 hF314
   have hE_318 := hE_308.tr0 hF314
   have hK270_320 := hK270_310.fr0 hF314
   have hR281_321 := hR281_311.fr0 hF314
   have hB293_322 := hB293_312.fr0 hF314
   refine V.eh trivial ?_
   refine V.pz h316 [] 76 88 [(89, .bool false)] fun a h323 => k304 _ _ ?_
   refine V.cf h323 ?_
   refine V.skip ?_
   refine V.then_n (k302 _ _ ?_)
   refine V.sr h323 [] 1 0 [(6, .bool false)] fun a h326 => ?_
   refine V.ret ?_
   refine V.r1 h326 (.bool false) ?_
   have hst : putT T k v = insT T1 k v := by (unfold putT; rw [← hT1]; unfold put1T; rw [hf, if_neg (by simp)])
   have hup := (insT_ok hok1 hm1 (by omega) k hkz v).1
   rw [hst]
   have hu2 : insT T1 k v = ({ T1 with b := putB T1.seed T1.b (k, v), n := T1.n + 1 } : Tb Int) := by (unfold insT; rw [if_neg hb1])
   rw [hu2] at hup ⊢
   exact ⟨by rw [hf], (TabM.fin (T := ({ T1 with b := putB T1.seed T1.b (k, v), n := T1.n + 1 })) hup (fun h => hb1 (by have := congrArg List.length h; rwa [putB_length] at this)) hB293_322 hRA_317 hR281_321 (by first | exact hlA | (simp only [List.length_set]; exact hlA)) hK270_320 (mem4 (l := (b254 :: b185 :: t :: gA :: gB :: av)) (by simp) (by simp) (by simp) (by intro k hk; simp [hk])) (by first | assumption | omega) (by first | assumption | omega) (by first | assumption | omega) hpt ⟨.inl hpg.1, hpg.2⟩ ⟨.inl hph.1, hph.2⟩ rfl rfl rfl (by simp) rfl rfl (putB_length _ _ _).symm).gr3 (by omega), (hFPE.gr hE_318)⟩
 ·
  rcases hT19q.2 with ⟨hb0, gA, vsA, hN⟩ | ⟨hb0, gA, gB, vsA, vsB, hN⟩
  ·
   have hb1 : T1.b.length = 0 := by rw [hb0]; rfl
   obtain ⟨hB, hRA, hlA, hK, hne, hpt, hpg⟩ := hN
   replace hK := hK.toH
   have hltt := hB.lt
   have hltg := hRA.lt
   have hE : FrP (gp (gr H w w21) av) w21 w21 := FrP.refl _ _
   have hK0 : ∀ k ∈ av, k < w21.heap.size := fun k hk => hK.avl k (by simp [hk])
   obtain ⟨hsd, hpa, hla, hlb, hmv, hmz, hnn, hcn, hks⟩ := (show T1.Ok from hok1)
   have hbl := hok1.bl
   have hFPE := hFP_23
   refine V.cl (av := #[.pointer (some ⟨t, 0, none⟩), .string k]) h28 (Go.Proofs.enters_of Try.func53 (by kernel_rfl) rfl) (by have h := find_any w21 (gr H w w21) (av) t T1 hT19q k hkz; rw [hf] at h; exact h) ?_
   rintro _ w328 ⟨rfl, hF327⟩
   refine ⟨_, rfl, fun a h329 => ?_⟩
   have hsw328 := hF327.size
   have hB_330 := hB.fr0 hF327
   have hRA_331 := hRA.fr0 hF327
   have hK_332 := hK.fr0 hF327
   have hE_333 := hE.tr0 hF327
   have hbkl := bkt_lt T1.seed k (n := T1.a.length) (by omega)
   refine V.run h329 [] 3 16 16 [(20, .agg #[.int .i64 0, .int .i64 ((bkt T1.seed T1.a.length k : Nat) : Int), .int .i64 (j : Int)]), (21, .bool true)] fun a h338 => ?_
   refine V.go (V.mk [] trivial (by kernel_rfl) [.int .i64 0, .int .i64 0, .int .i64 0] 82 (fun b => .pointer (some ⟨b, 0, none⟩)) (by kernel_rfl) ?_)
   intro w335 b334 heb334 hB336 hF337 hsb334
   have hB_339 := hB_330.fr0 hF337
   have hRA_340 := hRA_331.fr0 hF337
   have hK_341 := hK_332.alloc hF337 heb334 (by omega)
   have hE_342 := hE_333.tr0 hF337
   refine V.pt h338 fun a h343 => ?_
   refine V.go (V.stn b334 0 (.agg #[.int .i64 0, .int .i64 ((bkt T1.seed T1.a.length k : Nat) : Int), .int .i64 (j : Int)]) [.int .i64 0, .int .i64 ((bkt T1.seed T1.a.length k : Nat) : Int), .int .i64 (j : Int)] h343.e h343.e rfl rfl (by kernel_rfl) hB336 (by simp) [.int .i64 0, .int .i64 ((bkt T1.seed T1.a.length k : Nat) : Int), .int .i64 (j : Int)] rfl ?_)
   intro w344 hB345 hF346 hsw344
   have hB_347 := hB_339.fr1 hF346 (by omega)
   have hRA_348 := hRA_340.fr1 hF346 (by omega)
   have hK_349 := hK_341.fr hF346 (by simp)
   have hE_350 := hE_342.tr1 hF346 (by first | exact .inl (by assumption) | exact .inr (by omega) | exact .inl (.inl rfl))
   refine V.re h343 [] 1 0 [(8, .bool true)] fun a h351 => k27 _ _ ?_
   refine V.sr h351 [] 1 0 [(22, .bool true)] fun a h354 => ?_
   refine V.ct h354 ?_
   refine V.seq fun K355 k356 => ?_
   refine V.pl [([0,1,2,3,4,5,6,7,8,9,10,11,12,13,14,15],some (16,[])),([],none)] fun w357 hF358 hsw357 => ?_
   have hB_359 := hB_347.fr0 hF358
   have hRA_360 := hRA_348.fr0 hF358
   have hK_361 := hK_349.fr0 hF358
   have hE_362 := hE_350.tr0 hF358
   have hB345_363 := hB345.fr0 hF358
   obtain ⟨A364, c365, hv366⟩ := hK_361.getA hlA (i := (bkt T1.seed T1.a.length k)) (by omega) nilS
   have hS367 := hK_361.slA hlA (i := (bkt T1.seed T1.a.length k)) (by omega) hv366
   obtain ⟨g368, o369, hA370, hA370l, hA370z⟩ := hS367.addr (by omega)
   refine V.pe h354 [(2, .b hB345_363 0), (3, .b hB_359 1), (1, .b hB345_363 1), (0, .ix gA 0 T1.a.length T1.a.length .i64 ((bkt T1.seed T1.a.length k : Nat) : Int) 1 rfl), (0, .l ⟨gA, 0 + ((bkt T1.seed T1.a.length k : Nat) : Int).toNat * 1, none⟩ (.slice A364 ((T1.a.getD (bkt T1.seed T1.a.length k) []).length) c365) ((hRA_360.at (bkt T1.seed T1.a.length k) nilS (by omega)).trans (congrArg some hv366))), (1, .b hB345_363 2), (1, .ix g368 o369 ((T1.a.getD (bkt T1.seed T1.a.length k) []).length) c365 .i64 (j : Int) 2 hA370)] 23 37 [(36, .int .i64 v), (38, .pointer (some ⟨g368, (o369 + (j : Int).toNat * 2) + 1, none⟩))] fun a h371 => ?_
   refine V.go (V.stRA (R := itI) (j := j) (f := 1) hK_361 hlA (i := (bkt T1.seed T1.a.length k)) (by omega) hv366 hA370 (by omega) (by decide) (.int .i64 v) (fun x => (x.1, v)) (h371.e (v := (.pointer (some ⟨g368, (o369 + (j : Int).toNat * 2) + 1, none⟩)))) (h371.e (v := (.int .i64 v))) rfl rfl (by kernel_rfl) (fun w1 x c hc => by (have hc' : c = [.string x.1, .int .i64 x.2] := hc; subst hc'; rfl)) ?_)
   intro w372 hK373 hF374 hsw372 ho375
   have hB_376 := hB_359.fr hF374 (fun hm => (ho375 _ hm).1 (by simp))
   have hRA_377 := hRA_360.fr hF374 (fun hm => (ho375 _ hm).1 (by simp))
   have hE_378 := hE_362.tr hF374 (fun k hk => ((ho375 k hk).2).imp (fun h => ⟨h, fun hm => (ho375 k hk).1 (by simp [hm])⟩) id)
   refine V.eh trivial ?_
   refine V.pz h371 [] 1 0 [] fun a h380 => k356 _ _ ?_
   refine V.sr h380 [] 1 0 [(6, .bool true)] fun a h383 => ?_
   refine V.ret (V.then_r ?_)
   refine V.r1 h383 (.bool true) ?_
   have hst : putT T k v = ({ T1 with a := setV T1.a (bkt T1.seed T1.a.length k) j v } : Tb Int) := by (unfold putT; rw [← hT1]; unfold put1T; rw [hf, if_pos rfl]; unfold updT; rw [hf]; simp)
   have hup := (updT_ok hok1 hm1 k v).1
   have hu2 : updT T1 k v = ({ T1 with a := setV T1.a (bkt T1.seed T1.a.length k) j v } : Tb Int) := by (unfold updT; rw [hf]; simp)
   rw [hu2] at hup
   rw [hst]
   exact ⟨by rw [hf], (TabN.fin (T := ({ T1 with a := setV T1.a (bkt T1.seed T1.a.length k) j v })) hup hb0 hB_376 hRA_377 (by have h := hK373; rw [List.append_nil, List.append_nil] at h; exact h) (mem3 (l := (b334 :: t :: gA :: av)) (by simp) (by simp) (by intro k hk; simp [hk])) (by first | assumption | exact Ne.symm (by assumption) | omega) hpt ⟨.inl hpg.1, hpg.2⟩ rfl (setV_length _ _ _ _).symm rfl rfl rfl).gr3 (by omega), (hFPE.gr hE_378)⟩
  ·
   have hb1 : T1.b.length ≠ 0 := fun h => hb0 (List.eq_nil_of_length_eq_zero h)
   obtain ⟨hB, hRA, hRB, hlA, hlB, hK, hne, hne2, hne3, hpt, hpg, hph⟩ := hN
   replace hK := hK.toH
   have hltt := hB.lt
   have hltg := hRA.lt
   have hltg2 := hRB.lt
   have hE : FrP (gp (gr H w w21) av) w21 w21 := FrP.refl _ _
   have hK0 : ∀ k ∈ av, k < w21.heap.size := fun k hk => hK.avl k (by simp [hk])
   obtain ⟨hsd, hpa, hla, hlb, hmv, hmz, hnn, hcn, hks⟩ := (show T1.Ok from hok1)
   have hbl := hok1.bl
   have hFPE := hFP_23
   refine V.cl (av := #[.pointer (some ⟨t, 0, none⟩), .string k]) h28 (Go.Proofs.enters_of Try.func53 (by kernel_rfl) rfl) (by have h := find_any w21 (gr H w w21) (av) t T1 hT19q k hkz; rw [hf] at h; exact h) ?_
   rintro _ w385 ⟨rfl, hF384⟩
   refine ⟨_, rfl, fun a h386 => ?_⟩
   have hsw385 := hF384.size
   have hB_387 := hB.fr0 hF384
   have hRA_388 := hRA.fr0 hF384
   have hRB_389 := hRB.fr0 hF384
   have hK_390 := hK.fr0 hF384
   have hE_391 := hE.tr0 hF384
   have hbkl := bkt_lt T1.seed k (n := T1.a.length) (by omega)
   refine V.run h386 [] 3 16 16 [(20, .agg #[.int .i64 0, .int .i64 ((bkt T1.seed T1.a.length k : Nat) : Int), .int .i64 (j : Int)]), (21, .bool true)] fun a h396 => ?_
   refine V.go (V.mk [] trivial (by kernel_rfl) [.int .i64 0, .int .i64 0, .int .i64 0] 82 (fun b => .pointer (some ⟨b, 0, none⟩)) (by kernel_rfl) ?_)
   intro w393 b392 heb392 hB394 hF395 hsb392
   have hB_397 := hB_387.fr0 hF395
   have hRA_398 := hRA_388.fr0 hF395
   have hRB_399 := hRB_389.fr0 hF395
   have hK_400 := hK_390.alloc hF395 heb392 (by omega)
   have hE_401 := hE_391.tr0 hF395
   refine V.pt h396 fun a h402 => ?_
   refine V.go (V.stn b392 0 (.agg #[.int .i64 0, .int .i64 ((bkt T1.seed T1.a.length k : Nat) : Int), .int .i64 (j : Int)]) [.int .i64 0, .int .i64 ((bkt T1.seed T1.a.length k : Nat) : Int), .int .i64 (j : Int)] h402.e h402.e rfl rfl (by kernel_rfl) hB394 (by simp) [.int .i64 0, .int .i64 ((bkt T1.seed T1.a.length k : Nat) : Int), .int .i64 (j : Int)] rfl ?_)
   intro w403 hB404 hF405 hsw403
   have hB_406 := hB_397.fr1 hF405 (by omega)
   have hRA_407 := hRA_398.fr1 hF405 (by omega)
   have hRB_408 := hRB_399.fr1 hF405 (by omega)
   have hK_409 := hK_400.fr hF405 (by simp)
   have hE_410 := hE_401.tr1 hF405 (by first | exact .inl (by assumption) | exact .inr (by omega) | exact .inl (.inl rfl))
   refine V.re h402 [] 1 0 [(8, .bool true)] fun a h411 => k27 _ _ ?_
   refine V.sr h411 [] 1 0 [(22, .bool true)] fun a h414 => ?_
   refine V.ct h414 ?_
   refine V.seq fun K415 k416 => ?_
   refine V.pl [([0,1,2,3,4,5,6,7,8,9,10,11,12,13,14,15],some (16,[])),([],none)] fun w417 hF418 hsw417 => ?_
   have hB_419 := hB_406.fr0 hF418
   have hRA_420 := hRA_407.fr0 hF418
   have hRB_421 := hRB_408.fr0 hF418
   have hK_422 := hK_409.fr0 hF418
   have hE_423 := hE_410.tr0 hF418
   have hB404_424 := hB404.fr0 hF418
   obtain ⟨A425, c426, hv427⟩ := hK_422.getA hlA (i := (bkt T1.seed T1.a.length k)) (by omega) nilS
   have hS428 := hK_422.slA hlA (i := (bkt T1.seed T1.a.length k)) (by omega) hv427
   obtain ⟨g429, o430, hA431, hA431l, hA431z⟩ := hS428.addr (by omega)
   refine V.pe h414 [(2, .b hB404_424 0), (3, .b hB_419 1), (1, .b hB404_424 1), (0, .ix gA 0 T1.a.length T1.a.length .i64 ((bkt T1.seed T1.a.length k : Nat) : Int) 1 rfl), (0, .l ⟨gA, 0 + ((bkt T1.seed T1.a.length k : Nat) : Int).toNat * 1, none⟩ (.slice A425 ((T1.a.getD (bkt T1.seed T1.a.length k) []).length) c426) ((hRA_420.at (bkt T1.seed T1.a.length k) nilS (by omega)).trans (congrArg some hv427))), (1, .b hB404_424 2), (1, .ix g429 o430 ((T1.a.getD (bkt T1.seed T1.a.length k) []).length) c426 .i64 (j : Int) 2 hA431)] 23 37 [(36, .int .i64 v), (38, .pointer (some ⟨g429, (o430 + (j : Int).toNat * 2) + 1, none⟩))] fun a h432 => ?_
   refine V.go (V.stRA (R := itI) (j := j) (f := 1) hK_422 hlA (i := (bkt T1.seed T1.a.length k)) (by omega) hv427 hA431 (by omega) (by decide) (.int .i64 v) (fun x => (x.1, v)) (h432.e (v := (.pointer (some ⟨g429, (o430 + (j : Int).toNat * 2) + 1, none⟩)))) (h432.e (v := (.int .i64 v))) rfl rfl (by kernel_rfl) (fun w1 x c hc => by (have hc' : c = [.string x.1, .int .i64 x.2] := hc; subst hc'; rfl)) ?_)
   intro w433 hK434 hF435 hsw433 ho436
   have hB_437 := hB_419.fr hF435 (fun hm => (ho436 _ hm).1 (by simp))
   have hRA_438 := hRA_420.fr hF435 (fun hm => (ho436 _ hm).1 (by simp))
   have hRB_439 := hRB_421.fr hF435 (fun hm => (ho436 _ hm).1 (by simp))
   have hE_440 := hE_423.tr hF435 (fun k hk => ((ho436 k hk).2).imp (fun h => ⟨h, fun hm => (ho436 k hk).1 (by simp [hm])⟩) id)
   refine V.eh trivial ?_
   refine V.pz h432 [] 1 0 [] fun a h442 => k416 _ _ ?_
   refine V.sr h442 [] 1 0 [(6, .bool true)] fun a h445 => ?_
   refine V.ret (V.then_r ?_)
   refine V.r1 h445 (.bool true) ?_
   have hst : putT T k v = ({ T1 with a := setV T1.a (bkt T1.seed T1.a.length k) j v } : Tb Int) := by (unfold putT; rw [← hT1]; unfold put1T; rw [hf, if_pos rfl]; unfold updT; rw [hf]; simp)
   have hup := (updT_ok hok1 hm1 k v).1
   have hu2 : updT T1 k v = ({ T1 with a := setV T1.a (bkt T1.seed T1.a.length k) j v } : Tb Int) := by (unfold updT; rw [hf]; simp)
   rw [hu2] at hup
   rw [hst]
   exact ⟨by rw [hf], (TabM.fin (T := ({ T1 with a := setV T1.a (bkt T1.seed T1.a.length k) j v })) hup hb0 hB_437 hRA_438 hRB_439 (by first | exact hlA | (simp only [List.length_set]; exact hlA)) hK434 (mem4 (l := (b392 :: t :: gA :: gB :: av)) (by simp) (by simp) (by simp) (by intro k hk; simp [hk])) (by first | assumption | omega) (by first | assumption | omega) (by first | assumption | omega) hpt ⟨.inl hpg.1, hpg.2⟩ ⟨.inl hph.1, hph.2⟩ rfl (setV_length _ _ _ _).symm rfl rfl rfl rfl rfl).gr3 (by omega), (hFPE.gr hE_440)⟩
 ·
  rcases hT19q.2 with ⟨hb0, gA, vsA, hN⟩ | ⟨hb0, gA, gB, vsA, vsB, hN⟩
  ·
   exact absurd (by rw [hb0]; rfl) hbn
  ·
   have hb1 : T1.b.length ≠ 0 := fun h => hb0 (List.eq_nil_of_length_eq_zero h)
   obtain ⟨hB, hRA, hRB, hlA, hlB, hK, hne, hne2, hne3, hpt, hpg, hph⟩ := hN
   replace hK := hK.toH
   have hltt := hB.lt
   have hltg := hRA.lt
   have hltg2 := hRB.lt
   have hE : FrP (gp (gr H w w21) av) w21 w21 := FrP.refl _ _
   have hK0 : ∀ k ∈ av, k < w21.heap.size := fun k hk => hK.avl k (by simp [hk])
   obtain ⟨hsd, hpa, hla, hlb, hmv, hmz, hnn, hcn, hks⟩ := (show T1.Ok from hok1)
   have hbl := hok1.bl
   have hFPE := hFP_23
   refine V.cl (av := #[.pointer (some ⟨t, 0, none⟩), .string k]) h28 (Go.Proofs.enters_of Try.func53 (by kernel_rfl) rfl) (by have h := find_any w21 (gr H w w21) (av) t T1 hT19q k hkz; rw [hf] at h; exact h) ?_
   rintro _ w447 ⟨rfl, hF446⟩
   refine ⟨_, rfl, fun a h448 => ?_⟩
   have hsw447 := hF446.size
   have hB_449 := hB.fr0 hF446
   have hRA_450 := hRA.fr0 hF446
   have hRB_451 := hRB.fr0 hF446
   have hK_452 := hK.fr0 hF446
   have hE_453 := hE.tr0 hF446
   have hbkl := bkt_lt T1.seed k (n := T1.b.length) (by omega)
   refine V.run h448 [] 3 16 16 [(20, .agg #[.int .i64 1, .int .i64 ((bkt T1.seed T1.b.length k : Nat) : Int), .int .i64 (j : Int)]), (21, .bool true)] fun a h458 => ?_
   refine V.go (V.mk [] trivial (by kernel_rfl) [.int .i64 0, .int .i64 0, .int .i64 0] 82 (fun b => .pointer (some ⟨b, 0, none⟩)) (by kernel_rfl) ?_)
   intro w455 b454 heb454 hB456 hF457 hsb454
   have hB_459 := hB_449.fr0 hF457
   have hRA_460 := hRA_450.fr0 hF457
   have hRB_461 := hRB_451.fr0 hF457
   have hK_462 := hK_452.alloc hF457 heb454 (by omega)
   have hE_463 := hE_453.tr0 hF457
   refine V.pt h458 fun a h464 => ?_
   refine V.go (V.stn b454 0 (.agg #[.int .i64 1, .int .i64 ((bkt T1.seed T1.b.length k : Nat) : Int), .int .i64 (j : Int)]) [.int .i64 1, .int .i64 ((bkt T1.seed T1.b.length k : Nat) : Int), .int .i64 (j : Int)] h464.e h464.e rfl rfl (by kernel_rfl) hB456 (by simp) [.int .i64 1, .int .i64 ((bkt T1.seed T1.b.length k : Nat) : Int), .int .i64 (j : Int)] rfl ?_)
   intro w465 hB466 hF467 hsw465
   have hB_468 := hB_459.fr1 hF467 (by omega)
   have hRA_469 := hRA_460.fr1 hF467 (by omega)
   have hRB_470 := hRB_461.fr1 hF467 (by omega)
   have hK_471 := hK_462.fr hF467 (by simp)
   have hE_472 := hE_463.tr1 hF467 (by first | exact .inl (by assumption) | exact .inr (by omega) | exact .inl (.inl rfl))
   refine V.re h464 [] 1 0 [(8, .bool true)] fun a h473 => k27 _ _ ?_
   refine V.sr h473 [] 1 0 [(22, .bool true)] fun a h476 => ?_
   refine V.ct h476 ?_
   refine V.seq fun K477 k478 => ?_
   refine V.pl [([0,1,2,3,4,5,6,7,8,9,10,11,12,13,14,15],some (16,[])),([],none)] fun w479 hF480 hsw479 => ?_
   have hB_481 := hB_468.fr0 hF480
   have hRA_482 := hRA_469.fr0 hF480
   have hRB_483 := hRB_470.fr0 hF480
   have hK_484 := hK_471.fr0 hF480
   have hE_485 := hE_472.tr0 hF480
   have hB466_486 := hB466.fr0 hF480
   obtain ⟨A487, c488, hv489⟩ := hK_484.getB hlA (i := (bkt T1.seed T1.b.length k)) (by omega) nilS
   have hS490 := hK_484.slB hlA (i := (bkt T1.seed T1.b.length k)) (by omega) hv489
   obtain ⟨g491, o492, hA493, hA493l, hA493z⟩ := hS490.addr (by omega)
   refine V.pe h476 [(2, .b hB466_486 0), (3, .b hB_481 2), (1, .b hB466_486 1), (0, .ix gB 0 T1.b.length T1.b.length .i64 ((bkt T1.seed T1.b.length k : Nat) : Int) 1 rfl), (0, .l ⟨gB, 0 + ((bkt T1.seed T1.b.length k : Nat) : Int).toNat * 1, none⟩ (.slice A487 ((T1.b.getD (bkt T1.seed T1.b.length k) []).length) c488) ((hRB_483.at (bkt T1.seed T1.b.length k) nilS (by omega)).trans (congrArg some hv489))), (1, .b hB466_486 2), (1, .ix g491 o492 ((T1.b.getD (bkt T1.seed T1.b.length k) []).length) c488 .i64 (j : Int) 2 hA493)] 23 37 [(36, .int .i64 v), (38, .pointer (some ⟨g491, (o492 + (j : Int).toNat * 2) + 1, none⟩))] fun a h494 => ?_
   refine V.go (V.stRB (R := itI) (j := j) (f := 1) hK_484 hlA (i := (bkt T1.seed T1.b.length k)) (by omega) hv489 hA493 (by omega) (by decide) (.int .i64 v) (fun x => (x.1, v)) (h494.e (v := (.pointer (some ⟨g491, (o492 + (j : Int).toNat * 2) + 1, none⟩)))) (h494.e (v := (.int .i64 v))) rfl rfl (by kernel_rfl) (fun w1 x c hc => by (have hc' : c = [.string x.1, .int .i64 x.2] := hc; subst hc'; rfl)) ?_)
   intro w495 hK496 hF497 hsw495 ho498
   have hB_499 := hB_481.fr hF497 (fun hm => (ho498 _ hm).1 (by simp))
   have hRA_500 := hRA_482.fr hF497 (fun hm => (ho498 _ hm).1 (by simp))
   have hRB_501 := hRB_483.fr hF497 (fun hm => (ho498 _ hm).1 (by simp))
   have hE_502 := hE_485.tr hF497 (fun k hk => ((ho498 k hk).2).imp (fun h => ⟨h, fun hm => (ho498 k hk).1 (by simp [hm])⟩) id)
   refine V.eh trivial ?_
   refine V.pz h494 [] 1 0 [] fun a h504 => k478 _ _ ?_
   refine V.sr h504 [] 1 0 [(6, .bool true)] fun a h507 => ?_
   refine V.ret (V.then_r ?_)
   refine V.r1 h507 (.bool true) ?_
   have hst : putT T k v = ({ T1 with b := setV T1.b (bkt T1.seed T1.b.length k) j v } : Tb Int) := by (unfold putT; rw [← hT1]; unfold put1T; rw [hf, if_pos rfl]; unfold updT; rw [hf]; simp)
   have hup := (updT_ok hok1 hm1 k v).1
   have hu2 : updT T1 k v = ({ T1 with b := setV T1.b (bkt T1.seed T1.b.length k) j v } : Tb Int) := by (unfold updT; rw [hf]; simp)
   rw [hu2] at hup
   rw [hst]
   exact ⟨by rw [hf], (TabM.fin (T := ({ T1 with b := setV T1.b (bkt T1.seed T1.b.length k) j v })) hup (fun h => hb1 (by have := congrArg List.length h; rwa [setV_length] at this)) hB_499 hRA_500 hRB_501 (by first | exact hlA | (simp only [List.length_set]; exact hlA)) hK496 (mem4 (l := (b454 :: t :: gA :: gB :: av)) (by simp) (by simp) (by simp) (by intro k hk; simp [hk])) (by first | assumption | omega) (by first | assumption | omega) (by first | assumption | omega) hpt ⟨.inl hpg.1, hpg.2⟩ ⟨.inl hph.1, hph.2⟩ rfl rfl rfl rfl rfl rfl (setV_length _ _ _ _).symm).gr3 (by omega), (hFPE.gr hE_502)⟩
end Go.Proofs.Ytalhmegjomfbaaa
end
section
namespace Go.V
open Go.Base Go.RowKit
set_option linter.unusedVariables false
set_option linter.unusedSimpArgs false
theorem over_take : ∀ (vs cs : List Value) (off n : Nat), n ≤ off → (over cs off vs).take n = cs.take n
  | [], cs, off, n, h => rfl
  | v :: vs, cs, off, n, h => by
    show (over (cs.set off v) (off + 1) vs).take n = cs.take n
    rw [over_take vs _ _ _ (by omega)]
    apply List.ext_getElem?
    intro i
    rw [List.getElem?_take, List.getElem?_take]
    split
    · rw [List.getElem?_set_ne (by omega)]
    · rfl
theorem zero1 (z : Array Value) : (Builtin.zeroCells z 1).toList = z.toList := by
  unfold Builtin.zeroCells
  apply List.ext_getElem
  · simp
  · intro i h1 h2
    simp at h1
    simp [Nat.mod_eq_of_lt h1, h1]
section
variable {ro : Option Nat} {P : Program} {Q : Exit → Act → World → Prop} {a : Act} {w : World} {ops : Array Oper} {rest : List Oper} {d : Option Tmp} {ty : TypeId} {pos : String} {aft : Array Edge} {gd : Option (Nat × Bool)}
theorem slc {t e : TypeId} {x : Operand} {lo hi mx : Option Operand} {sz : Nat} (g o n c l h m : Nat) (hx : a.eval x = .slice (some ⟨g, o, none⟩) n c)
    (hl : match lo with | some q => ∃ k, a.eval q = .int k (l : Int) | none => l = 0) (hh : match hi with | some q => ∃ k, a.eval q = .int k (h : Int) | none => h = n ∧ mx = none) (hm : match mx with | some q => ∃ k, a.eval q = .int k (m : Int) | none => m = c)
    (h1 : l ≤ h) (h2 : h ≤ m) (h3 : m ≤ c) (ht : P.underlying t = some (.slice e)) (hs : (P.info? e).map (·.size) = some sz)
    (k : ∀ ad : Addr, (m ≠ l → ad = ⟨g, o + l * sz, none⟩) → (l = 0 → ad = ⟨g, o, none⟩) → L ro P ops Q rest (a.put d (.slice (some ad) (h - l) (m - l))) w) : St ro P ops Q rest ⟨d, .slice t x lo hi mx, ty, pos, aft, gd⟩ a w := by
  obtain ⟨i, hi', hsz⟩ := Option.map_eq_some_iff.1 hs
  have hb : (Instr.sliceBounds true n c (lo.map a.eval) (hi.map a.eval) (mx.map a.eval)).run P w = .ok (l, h, m) w := by
    unfold Instr.sliceBounds
    cases mx with
    | none =>
      subst hm
      cases hi with
      | none =>
        obtain ⟨rfl, _⟩ := hh
        cases lo with
        | none => subst hl; simp [Sem.run_bind]
        | some q =>
          obtain ⟨kk, hq⟩ := hl
          simp [Sem.run_bind, hq, Instr.sliceBound, asIntOf, h1]
      | some p =>
        obtain ⟨kp, hp⟩ := hh
        cases lo with
        | none => subst hl; simp [Sem.run_bind, hp, Instr.sliceBound, asIntOf, h2]
        | some q =>
          obtain ⟨kk, hq⟩ := hl
          simp [Sem.run_bind, hp, hq, Instr.sliceBound, asIntOf, h1, h2]
    | some r =>
      obtain ⟨kr, hr⟩ := hm
      cases hi with
      | none => cases hh.2
      | some p =>
        obtain ⟨kp, hp⟩ := hh
        cases lo with
        | none => subst hl; simp [Sem.run_bind, hp, hr, Instr.sliceBound, asIntOf, h2, h3]
        | some q =>
          obtain ⟨kk, hq⟩ := hl
          simp [Sem.run_bind, hp, hq, hr, Instr.sliceBound, asIntOf, h1, h2, h3]
  have hadd : (⟨g, o, none⟩ : Addr).add (l * sz) = ⟨g, o + l * sz, none⟩ := by unfold Addr.add; split <;> simp_all
  refine St.val (v := .slice (some (if m = l then ⟨g, o, none⟩ else ⟨g, o + l * sz, none⟩)) (h - l) (m - l)) (w' := w) ?_ (k _ (fun hne => by rw [if_neg hne]) (fun h0 => by subst h0; split <;> simp))
  simp only [execOp, hx]
  unfold Instr.sliceAt
  simp only [Sem.run_bind, run_underlying ht, Result.andThen_ok]
  unfold Instr.slice
  simp only [Sem.run_bind, run_underlying ht, Result.andThen_ok]
  rw [hb]
  simp only [Result.andThen_ok, sizeOf, typeInfo, run_program, Sem.run_bind, hi', hsz, Sem.run_pure]
  split <;> simp [hadd]
theorem appIn {α : Type} {R : Rp α} {base : Nat} {e t : TypeId} {s x : Operand} {xs : List α} {g n c i m c2 : Nat} (hO : OwR R NoZ w base e (.slice (some ⟨g, 0, none⟩) n c) xs) (hn : n = xs.length) (hin : i < n) (hm : m = n - (i + 1)) (ad : Addr) (had : m ≠ 0 → ad = ⟨g, (i + 1) * R.sz, none⟩)
    (hs : a.eval s = .slice (some ⟨g, 0, none⟩) i c) (hx : a.eval x = .slice (some ad) m c2) (ht : P.underlying t = some (.slice e)) (hinfo : (P.info? e).map (·.size) = some R.sz)
    (k : ∀ w1 cur, OwR R NoZ w1 base e (.slice (some ⟨g, 0, none⟩) (i + m) c) (xs.eraseIdx i) → Fr [g] w w1 → Blk w1 g cur e → cur.length = c * R.sz → L ro P ops Q rest (a.put d (.slice (some ⟨g, 0, none⟩) (i + m) c)) w1) : St ro P ops Q rest ⟨d, .call ⟨.builtin .append, #[s, x], #[t, t]⟩, ty, pos, aft, gd⟩ a w := by
  subst hn
  obtain ⟨cs, h1, h2, h3⟩ := hO
  obtain ⟨inf, hi, hsz⟩ := Option.map_eq_some_iff.1 hinfo
  have hcl := h2.length
  rcases h1.2 with ⟨h, _⟩ | ⟨g', cap, cur, he, hb, hh, hnc, hcm, hcs, htk⟩
  · cases h
  injection he with e1 e2 e3
  injection e1 with e1
  injection e1 with e1
  subst e1; subst e3
  have hil : i * R.sz ≤ cs.length := by rw [hcl]; exact Nat.mul_le_mul_right _ (by omega)
  have hil1 : (i + 1) * R.sz ≤ cs.length := by rw [hcl]; exact Nat.mul_le_mul_right _ (by omega)
  have hpre : w.ownsRow base e R.sz (.slice (some ⟨g, 0, none⟩) i c) i (cs.take (i * R.sz)) := by
    refine ⟨by rw [List.length_take]; omega, .inr ⟨g, c, cur, rfl, hb, hh, by omega, hcm, hcs, ?_⟩⟩
    rw [← htk, List.take_take]; congr 1
    have : i * R.sz ≤ xs.length * R.sz := Nat.mul_le_mul_right _ (by omega)
    omega
  have hnl : (cs.drop ((i + 1) * R.sz)).length = m * R.sz := by
    rw [List.length_drop, hcl, hm, Nat.sub_mul]
  have hcell : ∀ j u, (cs.drop ((i + 1) * R.sz))[j]? = some u → w.cell? (ad.add j) = some u := by
    intro j u hj
    have hlt : j < (cs.drop ((i + 1) * R.sz)).length := (List.getElem?_eq_some_iff.1 hj).1
    have hm0 : m ≠ 0 := by intro h0; rw [hnl, h0, Nat.zero_mul] at hlt; omega
    rw [had hm0, show (⟨g, (i + 1) * R.sz, none⟩ : Addr).add j = ⟨g, (i + 1) * R.sz + j, none⟩ by unfold Addr.add; split <;> simp_all]
    rw [List.getElem?_drop] at hj
    have := h1.cells (g := g) rfl ((i + 1) * R.sz + j) u hj
    rwa [Base.add_plain] at this
  have hone : ∀ u ∈ cs.drop ((i + 1) * R.sz), u.oneCell' = true := fun u hu => h2.one u (List.mem_of_mem_drop hu)
  obtain ⟨w1, hr, ho, hg⟩ := run_append_own_spare (P := P) w base t ty e inf R.sz ht hi hsz g i c (cs.take (i * R.sz)) hpre ad m c2 (cs.drop ((i + 1) * R.sz)) hnl hcell hone (by omega)
  have hf : Fr [g] w w1 := Fr.of_grown hg (fun k hk => by injection hk with hk; subst hk; simp)
  have hlen : (xs.eraseIdx i).length = i + m := by rw [List.length_eraseIdx_of_lt hin]; omega
  have herase : ∀ {xs : List α} {cs : List Value} {i : Nat}, Cells R NoZ w xs cs → i < xs.length → Cells R NoZ w (xs.eraseIdx i) (cs.take (i * R.sz) ++ cs.drop ((i + 1) * R.sz)) := by
    intro xs
    induction xs with
    | nil => intro cs i _ h; simp at h
    | cons y ys ih =>
      rintro cs i ⟨c', r, rfl, hok, hr⟩ hi
      have hl' := R.len hok
      cases i with
      | zero =>
        rw [List.eraseIdx_cons_zero, Nat.zero_mul, List.take_zero, List.nil_append, Nat.zero_add, Nat.one_mul, List.drop_append_of_le_length (by omega), List.drop_of_length_le (by omega), List.nil_append]
        exact hr
      | succ i =>
        rw [List.eraseIdx_cons_succ]
        refine ⟨c', r.take (i * R.sz) ++ r.drop ((i + 1) * R.sz), ?_, hok, ih hr (by simpa using hi)⟩
        rw [show (i + 1) * R.sz = c'.length + i * R.sz by rw [hl', Nat.add_mul]; omega, List.take_length_add_append]
        rw [show (i + 1 + 1) * R.sz = c'.length + (i + 1) * R.sz by rw [hl', Nat.add_mul (i + 1)]; omega, List.drop_length_add_append, List.append_assoc]
        congr 3
        rw [hl', Nat.add_mul]; omega
  have hOw : OwR R NoZ w1 base e (.slice (some ⟨g, 0, none⟩) (i + m) c) (xs.eraseIdx i) := ⟨_, by rw [hlen]; exact ho, (herase h2 hin).mono (fun b hb hz => hz.elim) hf.size, fun b hb hz => hz.elim⟩
  have hB1 : ∃ cur' : List Value, Blk w1 g cur' e ∧ cur'.length = c * R.sz := by
    rcases ho.2 with ⟨h, _⟩ | ⟨g', cap', cur', he', _, hh', _, _, hcs', _⟩
    · cases h
    · injection he' with e1 e2 e3
      injection e1 with e1
      injection e1 with e1
      subst e1; subst e3
      exact ⟨cur'.toList, by unfold Blk; rw [hh'], by rw [Array.length_toList, hcs']⟩
  obtain ⟨cur', hB1, hcl1⟩ := hB1
  have hrun : (execOp a.eval ⟨d, .call ⟨.builtin .append, #[s, x], #[t, t]⟩, ty, pos, aft, gd⟩).run P w = .ok (.value (.slice (some ⟨g, 0, none⟩) (i + m) c)) w1 := by
    simp only [execOp, resolve, invoke, builtin, Sem.run_bind, Sem.run_pure, Result.andThen_ok, List.map_toArray, List.map_cons, List.map_nil, hs, hx, hr]
  exact St.val hrun (k w1 cur' hOw hf hB1 hcl1)
/-- clear of the last element's cells, behind the slice. -/
theorem clr1 {α : Type} {R : Rp α} {base : Nat} {e t : TypeId} {x : Operand} {xs : List α} {g n c c2 : Nat} {z : Value} (hO : OwR R NoZ w base e (.slice (some ⟨g, 0, none⟩) n c) xs) (hn : n = xs.length) {cur : List Value} (hB : Blk w g cur e) (hcl : cur.length = c * R.sz) (hnc : n + 1 ≤ c)
    (hx : a.eval x = .slice (some ⟨g, 0 + n * R.sz, none⟩) 1 c2) (ht : P.underlying t = some (.slice e)) (hinfo : (P.info? e).map (fun i => (i.zero, i.size)) = some (some z, R.sz)) (hz : z.cells.toList.length = R.sz) (h1 : z.cells.toList.all Value.oneCell' = true)
    (k : ∀ w1, OwR R NoZ w1 base e (.slice (some ⟨g, 0, none⟩) n c) xs → Fr [g] w w1 → w1.heap.size = w.heap.size → L ro P ops Q rest a w1) : St ro P ops Q rest ⟨none, .call ⟨.builtin .clear, #[x], #[t]⟩, ty, pos, aft, gd⟩ a w := by
  subst hn
  obtain ⟨inf, hi, hzz⟩ := Option.map_eq_some_iff.1 hinfo
  simp only [Prod.mk.injEq] at hzz
  have hle : 0 + xs.length * R.sz + z.cells.toList.length ≤ cur.length := by rw [hcl, hz, Nat.zero_add, ← Nat.succ_mul]; exact Nat.mul_le_mul_right _ hnc
  obtain ⟨w1, hst, hB1, hF, hsz⟩ := run_storeCells (P := P) g e (0 + xs.length * R.sz) z.cells.toList 0 w cur (fun u hu => List.all_eq_true.1 h1 u hu) hB (by simpa using hle)
  have hO' := hO
  obtain ⟨cs, ho1, ho2, ho3⟩ := hO
  have hown : OwR R NoZ w1 base e (.slice (some ⟨g, 0, none⟩) xs.length c) xs := by
    refine ⟨cs, ⟨ho1.1, ?_⟩, ho2.mono (fun b hb hz => hz.elim) hF.size, fun b hb hz => hz.elim⟩
    rcases ho1.2 with ⟨h, _⟩ | ⟨g', cap, cur0, he, hb, hh, hnc', hcm, hcs, htk⟩
    · cases h
    injection he with e1 e2 e3
    injection e1 with e1
    injection e1 with e1
    subst e1; subst e3
    have hcur : cur0 = cur.toArray := by
      have hB' : w.heap[g]? = some (.cells cur.toArray e (0, 0)) := hB
      rw [hh] at hB'
      injection hB' with hB'
      injection hB' with hB'
    refine .inr ⟨g, c, _, rfl, hb, hB1, hnc', hcm, ?_, ?_⟩
    · rw [← hcs, hcur]; simp [over_length]
    · rw [List.toList_toArray, ← htk, hcur]
      rw [List.toList_toArray]
      have hadd0 : xs.length * R.sz + 0 = xs.length * R.sz := Nat.add_zero _
      rw [show 0 + xs.length * R.sz + 0 = xs.length * R.sz by omega] 
      exact over_take _ _ _ _ (Nat.le_refl _)
  have hzc := zero1 z.cells
  have hrun : (execOp a.eval ⟨none, .call ⟨.builtin .clear, #[x], #[t]⟩, ty, pos, aft, gd⟩).run P w = .ok (.value (.tuple #[])) w1 := by
    have hzv : ∀ w, (zeroValue e).run P w = .ok z w := fun w => by simp [zeroValue, typeInfo, hi, hzz.1, Sem.run_bind]
    simp only [execOp, resolve, invoke, builtin, Sem.run_bind, Sem.run_pure, Result.andThen_ok, List.map_toArray, List.map_cons, List.map_nil, hx, Builtin.clear_, run_underlying ht, hzv, hzc]
    simp only [List.getElem?_toArray, List.getElem?_cons_zero, Sem.run_bind, run_underlying ht, Result.andThen_ok, hzv, hzc, hst, Sem.run_pure]
  exact St.val hrun (k w1 hown hF hsz)
end
end Go.V
end
section
namespace Go.V
open Go.Base Go.RowKit
set_option linter.unusedVariables false
set_option linter.unusedSimpArgs false
section
variable {α : Type}
def rmV (l : List (List (ByteArray × α))) (i j : Nat) : List (List (ByteArray × α)) := l.set i ((l.getD i []).eraseIdx j)
def rm1T (T : Tb α) (k : ByteArray) : Tb α :=
  if (findT T k).1.1 = 0 then { T with a := rmV T.a (findT T k).1.2.1.toNat (findT T k).1.2.2.toNat, n := T.n - 1 } else { T with b := rmV T.b (findT T k).1.2.1.toNat (findT T k).1.2.2.toNat, n := T.n - 1 }
def shrT (T : Tb α) : Tb α := if T.b.length = 0 ∧ 4 < T.a.length ∧ T.n < T.a.length / 8 then startT T (T.a.length / 2) else T
def del1T (T : Tb α) (k : ByteArray) : Tb α := if (findT T k).2 = true then shrT (rm1T T k) else T
def delT (T : Tb α) (k : ByteArray) : Tb α := del1T (tbStep T) k
def lookT (d : α) (T : Tb α) (k : ByteArray) : α × Bool :=
  if (findT T k).2 = true then ((((if (findT T k).1.1 = 0 then T.a else T.b).getD (findT T k).1.2.1.toNat []).getD (findT T k).1.2.2.toNat (⟨#[]⟩, d)).2, true) else (d, false)
def newT (seed : Nat) : Tb α := ⟨seed, List.replicate 4 [], [], 0, 0⟩
theorem newT_ok {seed : Nat} (h : seed < 18446744073709551616) : (newT seed : Tb α).Ok ∧ (newT seed : Tb α).Mv :=
  ⟨⟨h, by simp [newT], by simp [newT], by simp [newT], fun h => absurd rfl h, fun _ => rfl, Nat.zero_le _, rfl, KsR.nils 4, fun i x hx => by rw [getD_nil (Nat.zero_le _)] at hx; cases hx⟩, fun i hi => absurd hi (Nat.not_lt_zero _)⟩
theorem rmV_length (l : List (List (ByteArray × α))) (i j : Nat) : (rmV l i j).length = l.length := by simp [rmV]
theorem rmV_flat {l : List (List (ByteArray × α))} {i j : Nat} (hj : j < (l.getD i []).length) : (rmV l i j).flatten.length + 1 = l.flatten.length := by
  unfold rmV
  rcases Nat.lt_or_ge i l.length with h | h
  · have := flat_set l i ((l.getD i []).eraseIdx j) h
    rw [List.length_eraseIdx_of_lt hj] at this
    omega
  · rw [getD_nil h] at hj; simp at hj
theorem KsR.rm {l : List (List (ByteArray × α))} (h : KsR l) (i j : Nat) : KsR (rmV l i j) :=
  KsR.set h _ fun y hy => h i y (List.mem_of_mem_eraseIdx hy)
theorem rm1T_ok {T : Tb α} (h : T.Ok) (hm : T.Mv) (k : ByteArray) (hf : (findT T k).2 = true) : (rm1T T k).Ok ∧ (rm1T T k).Mv := by
  have hs := h.sum
  unfold rm1T
  rcases findT_cases h k with hc | ⟨j, hc, hj⟩ | ⟨hb, j, hc, hj⟩
  · rw [hc] at hf; cases hf
  · rw [hc, if_pos rfl]
    have hfl := rmV_flat (l := T.a) (i := bkt T.seed T.a.length k) hj
    refine ⟨⟨h.sd, by show 0 < (rmV ..).length; rw [rmV_length]; exact h.pa, by show (rmV ..).length ≤ _; rw [rmV_length]; exact h.la, h.lb, fun h0 => by show _ < (rmV ..).length; rw [rmV_length]; exact h.mv h0, h.mz, by show T.n - 1 ≤ _; have := h.nn; omega, by
      show (rmV T.a ((bkt T.seed T.a.length k : Nat) : Int).toNat ((j : Nat) : Int).toNat ++ T.b).flatten.length = T.n - 1
      rw [Int.toNat_natCast, Int.toNat_natCast, List.flatten_append, List.length_append]; omega, KsR.rm h.ks.1 _ _, h.ks.2⟩, fun i hi => ?_⟩
    show (rmV ..).getD i [] = []
    have h0 := hm i hi
    unfold rmV
    rw [Int.toNat_natCast]
    by_cases he : bkt T.seed T.a.length k = i
    · rw [he, h0] at hj; simp at hj
    · rw [getD_set_ne he]; exact h0
  · rw [hc, if_neg (by simp)]
    have hfl := rmV_flat (l := T.b) (i := bkt T.seed T.b.length k) hj
    refine ⟨⟨h.sd, h.pa, h.la, by show (rmV ..).length ≤ _; rw [rmV_length]; exact h.lb, fun h0 => h.mv hb, fun h0 => absurd (by have h1 : (rmV ..).length = 0 := h0; rwa [rmV_length] at h1) hb, by show T.n - 1 ≤ _; have := h.nn; omega, by
      show (T.a ++ rmV T.b ((bkt T.seed T.b.length k : Nat) : Int).toNat ((j : Nat) : Int).toNat).flatten.length = T.n - 1
      rw [Int.toNat_natCast, Int.toNat_natCast, List.flatten_append, List.length_append]; omega, h.ks.1, KsR.rm h.ks.2 _ _⟩, hm⟩
theorem shrT_ok {T : Tb α} (h : T.Ok) (hm : T.Mv) : (shrT T).Ok ∧ (shrT T).Mv := by
  unfold shrT
  split
  · rename_i hc
    have := h.la
    exact ⟨startT_ok h (List.eq_nil_of_length_eq_zero hc.1) (by omega) (by omega), fun i hi => absurd hi (Nat.not_lt_zero _)⟩
  · exact ⟨h, hm⟩
theorem del1T_ok {T : Tb α} (h : T.Ok) (hm : T.Mv) (k : ByteArray) : (del1T T k).Ok ∧ (del1T T k).Mv := by
  unfold del1T
  split
  · rename_i hf
    obtain ⟨h1, h2⟩ := rm1T_ok h hm k hf
    exact shrT_ok h1 h2
  · exact ⟨h, hm⟩
theorem putT_ok {T : Tb α} (h : T.Ok) (hm : T.Mv) (hn : T.n < 1099511627776) (k : ByteArray) (hk : k.size ≤ 9223372036854775807) (v : α) : (putT T k v).Ok ∧ (putT T k v).Mv := by
  obtain ⟨h1, h2⟩ := tbStep_ok h hm
  refine put1T_ok h1 h2 ?_ k hk v
  have : (tbStep T).n = T.n := by
    unfold tbStep
    split
    · rfl
    · split
      · rfl
      · split <;> rfl
  omega
theorem delT_ok {T : Tb α} (h : T.Ok) (hm : T.Mv) (k : ByteArray) : (delT T k).Ok ∧ (delT T k).Mv := by
  obtain ⟨h1, h2⟩ := tbStep_ok h hm
  exact del1T_ok h1 h2 k
end
section
variable {α : Type} {R : Rp α} {w w1 : World} {e : TypeId} {H : Nat → Prop} {av : List Nat} {vs vsA vsB : List Value} {xs xa xb : List (List α)} {i n c g : Nat} {d : Value} {A : Option Addr}
theorem OwR.open1 {base : Nat} {xs : List α} (h : OwR R NoZ w base e (.slice A n c) xs) (hn : 0 < xs.length) : ∃ g, A = some ⟨g, 0, none⟩ ∧ n = xs.length ∧ n ≤ c := by
  obtain ⟨cs, h1, h2, h3⟩ := h
  rcases h1.2 with ⟨_, he⟩ | ⟨g, cap, cur, he, hb, hh, hnc, _⟩
  · omega
  · injection he with e1 e2 e3
    exact ⟨g, e1, e2, by omega⟩
theorem Bks.own1 (h : Bks R w e H av vs xs) (hv : vs[i]? = some (.slice A n c)) (hne : 0 < (xs.getD i []).length) : ∃ g, A = some ⟨g, 0, none⟩ ∧ OwR R NoZ w 0 e (.slice (some ⟨g, 0, none⟩) (xs.getD i []).length c) (xs.getD i []) ∧ (xs.getD i []).length ≤ c ∧ (∀ k ∈ [g], k ∉ av ∧ H k) := by
  have ho := h.own i _ hv
  obtain ⟨g, rfl, rfl, hc⟩ := ho.open1 hne
  exact ⟨g, rfl, ho, hc, fun k hk => by simp at hk; subst hk; exact h.hom i _ k hv rfl⟩
theorem Bks.ownA (h : Bks R w e H av (vsA ++ vsB) (xa ++ xb)) (hl : vsA.length = xa.length) (hi : i < xa.length) (hv : vsA.getD i d = .slice A n c) (hne : 0 < (xa.getD i []).length) : ∃ g, A = some ⟨g, 0, none⟩ ∧ OwR R NoZ w 0 e (.slice (some ⟨g, 0, none⟩) (xa.getD i []).length c) (xa.getD i []) ∧ (xa.getD i []).length ≤ c ∧ (∀ k ∈ [g], k ∉ av ∧ H k) := by
  have := h.own1 (i := i) (h.atA hl hi hv) (by rw [appA_get hi]; exact hne)
  rwa [appA_get hi] at this
theorem Bks.ownB (h : Bks R w e H av (vsA ++ vsB) (xa ++ xb)) (hl : vsA.length = xa.length) (hi : i < xb.length) (hv : vsB.getD i d = .slice A n c) (hne : 0 < (xb.getD i []).length) : ∃ g, A = some ⟨g, 0, none⟩ ∧ OwR R NoZ w 0 e (.slice (some ⟨g, 0, none⟩) (xb.getD i []).length c) (xb.getD i []) ∧ (xb.getD i []).length ≤ c ∧ (∀ k ∈ [g], k ∉ av ∧ H k) := by
  have := h.own1 (i := xa.length + i) (h.atB hl hi hv) (by rw [appB_get]; exact hne)
  rwa [appB_get] at this
theorem Bks.setA (h : Bks R w e H av (vsA ++ vsB) (xa ++ xb)) (hl : vsA.length = xa.length) (hi : i < xa.length) (hv : vsA.getD i d = .slice (some ⟨g, 0, none⟩) n c) (f : Fr [g] w w1) {n' c' : Nat} {x' : List α} (ho : OwR R NoZ w1 0 e (.slice (some ⟨g, 0, none⟩) n' c') x') (hH : H w.heap.size) :
    Bks R w1 e H av (vsA.set i (.slice (some ⟨g, 0, none⟩) n' c') ++ vsB) (xa.set i x' ++ xb) := by
  have := h.upd (i := i) (by simp; omega) (h.atA hl hi hv) f ho (.inl rfl) hH
  rwa [List.set_append_left _ _ (by omega), List.set_append_left _ _ hi] at this
theorem Bks.setB (h : Bks R w e H av (vsA ++ vsB) (xa ++ xb)) (hl : vsA.length = xa.length) (hi : i < xb.length) (hv : vsB.getD i d = .slice (some ⟨g, 0, none⟩) n c) (f : Fr [g] w w1) {n' c' : Nat} {x' : List α} (ho : OwR R NoZ w1 0 e (.slice (some ⟨g, 0, none⟩) n' c') x') (hH : H w.heap.size) :
    Bks R w1 e H av (vsA ++ vsB.set i (.slice (some ⟨g, 0, none⟩) n' c')) (xa ++ xb.set i x') := by
  have := h.upd (i := xa.length + i) (by simp; omega) (h.atB hl hi hv) f ho (.inl rfl) hH
  rwa [show xa.length + i = vsA.length + i by omega, List.set_append_right _ _ (by omega), Nat.add_sub_cancel_left, hl, List.set_append_right _ _ (by omega), Nat.add_sub_cancel_left] at this
variable {ro : Option Nat} {P : Program} {Q : Exit → Act → World → Prop} {a : Act} {ops : Array Oper} {rest : List Oper} {d' : Option Tmp} {ty : TypeId} {pos : String} {aft : Array Edge} {gd : Option (Nat × Bool)}
theorem quoN {t t' : TypeId} {x y : Operand} (n m : Nat) (hx : a.eval x = .int .i64 (n : Int)) (hy : a.eval y = .int .i64 (m : Int)) (hm : 0 < m) (hb : n ≤ 9223372036854775807)
    (k : L ro P ops Q rest (a.put d' (.int .i64 ((n / m : Nat) : Int))) w) : St ro P ops Q rest ⟨d', .binOp .quo t x y t', ty, pos, aft, gd⟩ a w := by
  refine St.val (v := .int .i64 ((n / m : Nat) : Int)) (w' := w) ?_ k
  have hne : ¬ ((m : Nat) : Int) = 0 := by omega
  have h1 : Value.int .i64 (IntKind.i64.wrap (Int.tdiv (n : Int) (m : Int))) = .int .i64 ((n / m : Nat) : Int) := quo_i64 (Int.natCast_nonneg _) (by omega) (by omega)
  rw [← h1]
  simp only [execOp, hx, hy, eqGuard, binOp, Op.intDiv, ne_eq, not_true_eq_false, if_false, hne]
  rfl
end
section
variable {α : Type} {tt te e : TypeId} {R : Rp (ByteArray × α)} {w w1 w2 : World} {H : Nat → Prop} {av : List Nat} {t g seed : Nat} {T : Tb α}
theorem newT_tab (hB : Blk w1 t [.int .u64 (seed : Int), .slice (some ⟨g, 0, none⟩) 4 4, .slice none 0 0, .int .i64 0, .int .i64 0] tt) (hR : Row idV w1 g (List.replicate 4 nilS) te) (hne : t ≠ g) (ht : w.heap.size ≤ t) (hg : w.heap.size ≤ g) (hsd : seed < 18446744073709551616) (hav : ∀ k ∈ av, k < w.heap.size) :
    TabX tt te e R w1 (gr (fun _ => False) w w1) av t (newT seed) := by
  have hlt := hB.lt
  have hlg := hR.lt
  have hn : ∀ k ∈ t :: g :: av, k < w1.heap.size := fun k hk => by
    rcases List.mem_cons.1 hk with rfl | hk
    · exact hlt
    · rcases List.mem_cons.1 hk with rfl | hk
      · exact hlg
      · have := hav k hk; omega
  refine ⟨(newT_ok hsd).1, .inl ⟨rfl, g, _, hB, hR, rfl, ?_, hne, ⟨.inr ⟨ht, hlt⟩, fun hm => ?_⟩, ⟨.inr ⟨hg, hlg⟩, fun hm => ?_⟩⟩⟩
  · exact Bks.nil R w1 e _ hn 4
  · have := hav _ hm; omega
  · have := hav _ hm; omega
theorem TabX.gr4 {w0 : World} (h : TabX tt te e R w2 (gr (gr H w w0) w1 w2) av t T) (h1 : w.heap.size ≤ w1.heap.size) : TabX tt te e R w2 (gr H w w2) av t T :=
  h.sub (fun _ q => q) fun k hk q => by
    rcases q with q | q
    · rcases q with q | q
      · exact .inl q
      · exact .inr ⟨q.1, hk⟩
    · exact .inr ⟨by omega, hk⟩
theorem TabX.grl (h : TabX tt te e R w2 (gr H w w1) av t T) (hw : w1.heap.size ≤ w2.heap.size) : TabX tt te e R w2 (gr H w w2) av t T :=
  h.sub (fun _ q => q) fun k hk q => q.imp id fun q => ⟨q.1, by omega⟩
end
end Go.V
end
