/- A walk in great steps: what is known of the frame is a list; a run of operations that leave the world is one step, which the kernel computes. -/
import Derived.Test.YtkepojdmgdgaoaaV
import Derived.Test.YtkepojdmgdgaoaaPlanT
namespace Go.V
open Go.Plan (FW wpL)
open Go.RowKit Go.Base
set_option linter.unusedVariables false
set_option linter.unusedSimpArgs false

theorem t_same (x : Int) : Value.bool (x == x) = .bool true := by simp
theorem t_nsame (x : Int) : Value.bool (x != x) = .bool false := by simp
theorem t_ssame (x : ByteArray) : Value.bool (x.toList == x.toList) = .bool true := by simp
theorem t_snsame (x : ByteArray) : Value.bool (!(x.toList == x.toList)) = .bool false := by simp
theorem t_bsame (b : Bool) : Value.bool (b == b) = .bool true := by simp
theorem t_bnsame (b : Bool) : Value.bool (!(b == b)) = .bool false := by simp
abbrev Env := List (Nat × Value)
def lk : Env → Nat → Option Value
  | [], _ => none
  | (k, v) :: l, t => bif Nat.beq k t then some v else lk l t
def Ev (a : Act) (R : Env) : Prop := ∀ t v, lk R t = some v → a.eval (.tmp t) = v
structure En (n : Nat) (ds : List Deferred) (a : Act) (R : Env) : Prop where
  sd : Sd n ds a
  ev : Ev a R
section
variable {n : Nat} {ds : List Deferred} {a : Act} {R : Env}
theorem En.e (h : En n ds a R) {t : Nat} {v : Value} (hk : lk R t = some v := by kernel_rfl) : a.eval (.tmp t) = v := h.ev t v hk
theorem lk_cons_ne {k t : Nat} {v : Value} (h : Nat.beq k t = false) : lk ((k, v) :: R) t = lk R t := by simp [lk, h]
theorem lk_cons_eq {t : Nat} {v : Value} : lk ((t, v) :: R) t = some v := by simp [lk]
theorem Ev.put (h : Ev a R) {d : Nat} (hd : d < a.tmps.size) (v : Value) : Ev (a.put (some d) v) ((d, v) :: R) := by
  intro t u hu
  cases hk : Nat.beq d t with
  | true =>
    have := Nat.eq_of_beq_eq_true hk
    subst this
    rw [lk_cons_eq] at hu
    injection hu with hu
    subst hu
    simp [Act.eval, Act.put, hd]
  | false =>
    rw [lk_cons_ne hk] at hu
    exact at_other hk _ (h t u hu)
theorem En.put (h : En n ds a R) {d : Nat} (hd : Nat.ble (d + 1) n = true) (v : Value) : En n ds (a.put (some d) v) ((d, v) :: R) :=
  ⟨h.sd.put _ _, h.ev.put (by rw [h.sd.size]; exact Nat.le_of_ble_eq_true hd) v⟩
theorem En.kt (h : En n ds a R) (t : Nat) {p : Prop} [Decidable p] (hp : p) (hk : lk R t = some (.bool (decide p)) := by kernel_rfl) : En n ds a ((t, .bool true) :: R) :=
  ⟨h.sd, fun u v hu => by
    cases hb : Nat.beq t u with
    | true =>
      have := Nat.eq_of_beq_eq_true hb
      subst this
      rw [lk_cons_eq] at hu
      injection hu with hu
      rw [← hu, h.ev _ _ hk, decide_eq_true hp]
    | false => rw [lk_cons_ne hb] at hu; exact h.ev _ _ hu⟩
theorem En.kf (h : En n ds a R) (t : Nat) {p : Prop} [Decidable p] (hp : ¬ p) (hk : lk R t = some (.bool (decide p)) := by kernel_rfl) : En n ds a ((t, .bool false) :: R) :=
  ⟨h.sd, fun u v hu => by
    cases hb : Nat.beq t u with
    | true =>
      have := Nat.eq_of_beq_eq_true hb
      subst this
      rw [lk_cons_eq] at hu
      injection hu with hu
      rw [← hu, h.ev _ _ hk, decide_eq_false hp]
    | false => rw [lk_cons_ne hb] at hu; exact h.ev _ _ hu⟩
theorem En.kbt (h : En n ds a R) (t : Nat) {b : Bool} (hb : b = true) (hk : lk R t = some (.bool b) := by kernel_rfl) : En n ds a ((t, .bool true) :: R) := by
  subst hb
  exact ⟨h.sd, fun u v hu => by
    cases hb : Nat.beq t u with
    | true =>
      have := Nat.eq_of_beq_eq_true hb
      subst this
      rw [lk_cons_eq] at hu
      injection hu with hu
      rw [← hu, h.ev _ _ hk]
    | false => rw [lk_cons_ne hb] at hu; exact h.ev _ _ hu⟩
theorem En.kbf (h : En n ds a R) (t : Nat) {b : Bool} (hb : ¬ b = true) (hk : lk R t = some (.bool b) := by kernel_rfl) : En n ds a ((t, .bool false) :: R) := by
  cases b with
  | true => exact absurd rfl hb
  | false => exact ⟨h.sd, fun u v hu => by
    cases hb : Nat.beq t u with
    | true =>
      have := Nat.eq_of_beq_eq_true hb
      subst this
      rw [lk_cons_eq] at hu
      injection hu with hu
      rw [← hu, h.ev _ _ hk]
    | false => rw [lk_cons_ne hb] at hu; exact h.ev _ _ hu⟩
/-- Another word for a value. -/
theorem En.eq (h : En n ds a R) (t : Nat) {v u : Value} (hvu : v = u) (hk : lk R t = some v := by kernel_rfl) : En n ds a ((t, u) :: R) :=
  ⟨h.sd, fun s x hu => by
    cases hb : Nat.beq t s with
    | true =>
      have := Nat.eq_of_beq_eq_true hb
      subst this
      rw [lk_cons_eq] at hu
      injection hu with hu
      rw [← hu, h.ev _ _ hk, hvu]
    | false => rw [lk_cons_ne hb] at hu; exact h.ev _ _ hu⟩
theorem lk_mem : ∀ {R : Env} {t : Nat} {v : Value}, lk R t = some v → (t, v) ∈ R
  | [], _, _, h => by simp [lk] at h
  | (k, u) :: l, t, v, h => by
    simp only [lk] at h
    cases hk : Nat.beq k t with
    | true =>
      rw [hk] at h
      have := Nat.eq_of_beq_eq_true hk
      subst this
      simp only [cond_true, Option.some.injEq] at h
      subst h
      exact List.mem_cons_self ..
    | false =>
      rw [hk] at h
      exact List.mem_cons_of_mem _ (lk_mem h)
/-- All that is needed, and no more. -/
theorem En.only (h : En n ds a R) (W : Env) (hk : W.map (fun p => lk R p.1) = W.map (fun p => some p.2) := by kernel_rfl) : En n ds a W :=
  ⟨h.sd, fun t v hv => by
    have hm := lk_mem hv
    refine h.ev t v ?_
    have := List.map_inj_left.1 hk (t, v) hm
    exact this⟩
theorem En.nil (h : Sd n ds a) : En n ds a [] := ⟨h, fun t v hv => by simp [lk] at hv⟩
theorem En.add (h : En n ds a R) {t : Nat} {v : Value} (hv : a.eval (.tmp t) = v) : En n ds a ((t, v) :: R) :=
  ⟨h.sd, fun s x hu => by
    cases hb : Nat.beq t s with
    | true =>
      have := Nat.eq_of_beq_eq_true hb
      subst this
      rw [lk_cons_eq] at hu
      injection hu with hu
      rw [← hu, hv]
    | false => rw [lk_cons_ne hb] at hu; exact h.ev _ _ hu⟩
end
def keep (lo hi : Nat) (W R : Env) : Env := R.filter fun p => !((Nat.ble lo p.1 && Nat.ble p.1 hi) || (lk W p.1).isSome)
theorem lk_filter (f : Nat → Bool) : ∀ (R : Env) (t : Nat) (v : Value), lk (R.filter fun p => f p.1) t = some v → f t = true ∧ lk R t = some v
  | [], t, v, h => by simp [lk] at h
  | (k, u) :: l, t, v, h => by
    by_cases hf : f k = true
    · rw [List.filter_cons_of_pos (by simpa using hf)] at h
      simp only [lk] at h ⊢
      cases hk : Nat.beq k t with
      | true =>
        have := Nat.eq_of_beq_eq_true hk
        subst this
        rw [hk] at h
        exact ⟨hf, h⟩
      | false =>
        rw [hk] at h
        have := lk_filter f l t v h
        exact ⟨this.1, by simpa using this.2⟩
    · rw [List.filter_cons_of_neg (by simpa using hf)] at h
      have := lk_filter f l t v h
      refine ⟨this.1, ?_⟩
      cases hk : Nat.beq k t with
      | true =>
        have hkt := Nat.eq_of_beq_eq_true hk
        subst hkt
        exact absurd this.1 hf
      | false => simp [lk, hk, this.2]
theorem lk_append : ∀ (W F : Env) (t : Nat) (v : Value), lk (W ++ F) t = some v → lk W t = some v ∨ (lk W t = none ∧ lk F t = some v)
  | [], F, t, v, h => .inr ⟨rfl, h⟩
  | (k, u) :: W, F, t, v, h => by
    simp only [List.cons_append, lk] at h ⊢
    cases hk : Nat.beq k t with
    | true => rw [hk] at h; exact .inl (by simpa using h)
    | false => rw [hk] at h; simpa using lk_append W F t v (by simpa using h)

/-! ### What is looked at -/
inductive Chk where
  | bad
  | run (b : Bool) (r : Result Next)
  | vs (l : List (Option Value)) (b : Bool)
def opv (R : Env) : Operand → Option Value
  | .tmp t => lk R t
  | .const v => some v
  | .global g => some (.pointer (some ⟨g, 0, none⟩))
  | .func f => some (.func (.func f) #[] #[])
def envK (R : Env) : Operand → Value
  | .tmp t => (lk R t).getD undef
  | .const v => v
  | .global g => .pointer (some ⟨g, 0, none⟩)
  | .func f => .func (.func f) #[] #[]
theorem opv_eval {a : Act} {R : Env} (h : Ev a R) {x : Operand} {v : Value} (hx : opv R x = some v) : a.eval x = v := by
  cases x with
  | tmp t => exact h t v hx
  | const u => simp only [opv, Option.some.injEq] at hx; rw [← hx]; rfl
  | global g => simp only [opv, Option.some.injEq] at hx; rw [← hx]; rfl
  | func f => simp only [opv, Option.some.injEq] at hx; rw [← hx]; rfl
def knows (R : Env) (o : Oper) : Bool := (match o.op with | .select .. => false | _ => true) && o.op.operands.all fun
  | .tmp t => (lk R t).isSome
  | _ => true
theorem exec_envK {a : Act} {o : Oper} {R : Env} (he : Ev a R) (hk : knows R o = true) : execOp a.eval o = execOp (envK R) o := by
  unfold knows at hk
  simp only [Bool.and_eq_true] at hk
  refine execOp_congr o (fun cs b h => by have := hk.1; rw [h] at this; cases this) fun x hx => ?_
  have := Array.all_eq_true_iff_forall_mem.1 hk.2 x hx
  cases x with
  | tmp t =>
    simp only at this
    obtain ⟨v, hv⟩ := Option.isSome_iff_exists.1 this
    simp only [envK, hv, Option.getD_some]
    exact he t v hv
  | _ => rfl
/-- What one operation that leaves the world comes to: what is looked at, what is wanted there, the value, why. -/
structure It (P : Program) (w : World) where
  c : Env → Oper → Chk
  want : Chk
  x : Value
  h : ∀ (a : Act) (R : Env) (o : Oper), Ev a R → c R o = want → (execOp a.eval o).run P w = .ok (.value x) w
section
variable {P : Program} {w : World}
def It.cr (P : Program) (w : World) (R : Env) (o : Oper) : Chk := .run (knows R o) ((execOp (envK R) o).run P w)
theorem It.cr_spec {a : Act} {R : Env} {o : Oper} {x : Value} (he : Ev a R) (h : It.cr P w R o = .run true (.ok (.value x) w)) : (execOp a.eval o).run P w = .ok (.value x) w := by
  unfold It.cr at h
  injection h with h1 h2
  rw [exec_envK he h1, h2]
def valOf : Result Next → Value
  | .ok (.value v) _ => v
  | _ => undef
/-- Computed, and told in another word. -/
def It.q {x' : Value} (x : Value) (h : x' = x) : It P w where
  c := It.cr P w
  want := .run true (.ok (.value x') w)
  x := x
  h := fun _ _ _ he hc => by rw [It.cr_spec he hc, h]
abbrev It.v (x : Value) : It P w := .q x rfl
abbrev It.i (x : Int) (h : -9223372036854775808 ≤ x ∧ x ≤ 9223372036854775807 := by omega) : It P w := .q (.int .i64 x) (w_i64 h.1 h.2)
abbrev It.eq (x y : Int) : It P w := .q (.bool (decide (x = y))) t_eql
abbrev It.ne (x y : Int) : It P w := .q (.bool (decide (¬ x = y))) t_neq
abbrev It.seq (x y : ByteArray) : It P w := .q (.bool (decide (x = y))) t_seql
abbrev It.sne (x y : ByteArray) : It P w := .q (.bool (decide (¬ x = y))) t_sneq
/-- A load of one cell. -/
def It.l (ad : Addr) (v : Value) (hc : w.cell? ad = some v) : It P w where
  c R o := match o.op with
    | .load t x => .vs [opv R x] (scalar P t)
    | _ => .bad
  want := .vs [some (.pointer (some ad))] true
  x := v
  h := fun a R o he hk => by
    obtain ⟨d, op, ty, pos, aft, g⟩ := o
    cases op <;> simp only [reduceCtorEq] at hk
    case load t x =>
      injection hk with h1 h2
      injection h1 with h1 _
      have hx := opv_eval he h1
      simp only [execOp, hx, Instr.loadAt, Instr.sureAddr, Sem.run_bind, Sem.run_pure, Result.andThen_ok, run_loadVar_scalar h2 hc]
abbrev It.b {b : Nat} {cs : List Value} {t : TypeId} (hB : Blk w b cs t) (i : Nat) {v : Value} (h : cs[i]? = some v := by exact rfl) : It P w := .l ⟨b, i, none⟩ v (hB.at i h)
/-- A load of a struct, of an array. -/
def It.ls (ad : Addr) (cs : List Value) (hc : ∀ j u, cs[j]? = some u → w.cell? (ad.add j) = some u) : It P w where
  c R o := match o.op with
    | .load t x => .vs [opv R x] (aggSize P t == some cs.length)
    | _ => .bad
  want := .vs [some (.pointer (some ad))] true
  x := .agg cs.toArray
  h := fun a R o he hk => by
    obtain ⟨d, op, ty, pos, aft, g⟩ := o
    cases op <;> simp only [reduceCtorEq] at hk
    case load t x =>
      injection hk with h1 h2
      injection h1 with h1 _
      have hx := opv_eval he h1
      have ht : aggSize P t = some cs.length := by simpa using h2
      simp only [execOp, hx, Instr.loadAt, Instr.sureAddr, Sem.run_bind, Sem.run_pure, Result.andThen_ok, run_loadVar_agg ht hc]
abbrev It.bs {b : Nat} {cs0 : List Value} {t : TypeId} (hB : Blk w b cs0 t) (off : Nat) (cs : List Value) (hcs : (cs0.drop off).take cs.length = cs := by rfl) : It P w := .ls ⟨b, off, none⟩ cs (blk_cells hB off cs hcs)
def eqSz (P : Program) (t : TypeId) (sz : Nat) : Bool := match (match P.underlying t with | some (.slice e) => (P.info? e).map (·.size) | _ => none) with
  | some n => Nat.beq n sz
  | none => false
theorem eqSz_spec {t : TypeId} {sz : Nat} (h : eqSz P t sz = true) : (match P.underlying t with | some (.slice e) => (P.info? e).map (·.size) | _ => none) = some sz := by
  unfold eqSz at h
  split at h
  · rename_i k hk; rw [hk, Nat.eq_of_beq_eq_true h]
  · cases h
/-- The address of a slice's element. -/
def It.ix (g0 o0 n c : Nat) (kk : IntKind) (iv : Int) (sz : Nat) {A : Option Addr} (hA : A = some ⟨g0, o0, none⟩) (h01 : 0 ≤ iv ∧ iv < n := by omega) : It P w where
  c R o := match o.op with
    | .indexAddr t x i => .vs [opv R x, opv R i] (eqSz P t sz)
    | _ => .bad
  want := .vs [some (.slice A n c), some (.int kk iv)] true
  x := .pointer (some ⟨g0, o0 + iv.toNat * sz, none⟩)
  h := fun a R o he hk => by
    obtain ⟨d, op, ty, pos, aft, g⟩ := o
    cases op <;> simp only [reduceCtorEq] at hk
    case indexAddr t x i =>
      injection hk with h1 h2
      injection h1 with h1 h3
      injection h3 with h3 _
      have hx := opv_eval he h1
      have hi := opv_eval he h3
      subst hA
      have ht := eqSz_spec h2
      split at ht
      · rename_i e he'
        obtain ⟨inf, hinf, rfl⟩ := Option.map_eq_some_iff.1 ht
        have ha : (⟨g0, o0, none⟩ : Addr).add (iv.toNat * inf.size) = ⟨g0, o0 + iv.toNat * inf.size, none⟩ := by unfold Addr.add; split <;> simp_all
        simp only [execOp, hx, hi, Instr.indexAt, asIntOf, Sem.run_bind, Sem.run_pure, Result.andThen_ok, run_underlying he', h01.1, h01.2, and_self, if_true, sizeOf, typeInfo, run_program, hinf, ha]
      · cases ht
/-- A string's byte. -/
def It.ixs (s : ByteArray) (kk : IntKind) (iv : Int) (h01 : 0 ≤ iv ∧ iv < s.size := by omega) : It P w where
  c R o := match o.op with
    | .index t x i => .vs [opv R x, opv R i] (match P.underlying t with | some .string => true | _ => false)
    | _ => .bad
  want := .vs [some (.string s), some (.int kk iv)] true
  x := .int .u8 (bi s iv)
  h := fun a R o he hk => by
    obtain ⟨d, op, ty, pos, aft, g⟩ := o
    cases op <;> simp only [reduceCtorEq] at hk
    case index t x i =>
      injection hk with h1 h2
      injection h1 with h1 h3
      injection h3 with h3 _
      have hx := opv_eval he h1
      have hi := opv_eval he h3
      have ht : P.underlying t = some .string := by
        split at h2
        · assumption
        · cases h2
      have hlt : iv.toNat < s.size := by omega
      have hg : s[iv.toNat]? = some (byt s iv) := by
        unfold byt
        have hlt' : iv.toNat < s.data.size := hlt
        simp only [Array.getD_eq_getD_getElem?]
        rw [show s[iv.toNat]? = s.data[iv.toNat]? from by simp [getElem?_def, hlt, hlt']; rfl, Array.getElem?_eq_getElem hlt']
        rfl
      simp only [execOp, hx, hi, Instr.index, asIntOf, Sem.run_bind, Sem.run_pure, Result.andThen_ok, run_underlying ht, h01.1, if_true, hg, bi]
/-- A cut of a string. -/
def It.sl (s : ByteArray) (l h : Int) (h0 : 0 ≤ l ∧ l ≤ h ∧ h ≤ s.size := by omega) : It P w where
  c R o := match o.op with
    | .slice t x lo hi none => .vs [opv R x, match lo with | some q => opv R q | none => some (.int .i64 0), match hi with | some q => opv R q | none => some (.int .i64 s.size)] (match P.underlying t with | some .string => true | _ => false)
    | _ => .bad
  want := .vs [some (.string s), some (.int .i64 l), some (.int .i64 h)] true
  x := .string (s.extract l.toNat h.toNat)
  h := fun a R o he hk => by
    obtain ⟨d, op, ty, pos, aft, g⟩ := o
    cases op <;> simp only [reduceCtorEq] at hk
    case slice t x lo hi mx =>
      cases mx with
      | some _ => cases hk
      | none =>
        injection hk with h1 h2
        injection h1 with h1 h3
        injection h3 with h3 h4
        injection h4 with h4 _
        have hx := opv_eval he h1
        have ht : P.underlying t = some .string := by
          split at h2
          · assumption
          · cases h2
        obtain ⟨ha, hb, hc⟩ := h0
        have hb : (Instr.sliceBounds false s.size s.size (lo.map a.eval) (hi.map a.eval) none).run P w = .ok (l.toNat, h.toNat, s.size) w := by
          have h5 : 0 ≤ h := by omega
          unfold Instr.sliceBounds
          cases hi with
          | none =>
            simp only [Option.some.injEq, Value.int.injEq, true_and] at h4
            subst h4
            cases lo with
            | none =>
              simp only [Option.some.injEq, Value.int.injEq, true_and] at h3
              subst h3
              simp [Sem.run_bind]
            | some q =>
              have hq := opv_eval he h3
              simp [Sem.run_bind, hq, Instr.sliceBound, asIntOf, ha, hb]
          | some p =>
            have hp := opv_eval he h4
            cases lo with
            | none =>
              simp only [Option.some.injEq, Value.int.injEq, true_and] at h3
              subst h3
              simp [Sem.run_bind, hp, Instr.sliceBound, asIntOf, h5, hc]
            | some q =>
              have hq := opv_eval he h3
              simp [Sem.run_bind, hp, hq, Instr.sliceBound, asIntOf, h5, hc, ha]
              intro hlt
              omega
        simp only [execOp, hx, Instr.sliceAt, Instr.slice, Sem.run_bind, Sem.run_pure, Result.andThen_ok, run_underlying ht, Option.map_none, Option.isSome_none, Bool.false_eq_true, if_false, hb]
/-- A remainder, a quotient of numbers that are not below 0. -/
def It.rem (k : IntKind) (x y : Int) (h01 : 0 ≤ x ∧ 0 < y := by omega) : It P w where
  c R o := match o.op with
    | .binOp .rem _ p q _ => .vs [opv R p, opv R q] true
    | _ => .bad
  want := .vs [some (.int k x), some (.int k y)] true
  x := .int k (x % y)
  h := fun a R o he hk => by
    obtain ⟨d, op, ty, pos, aft, g⟩ := o
    cases op <;> simp only [reduceCtorEq] at hk
    case binOp b t p q t' =>
      cases b <;> simp only [reduceCtorEq] at hk
      case rem =>
        injection hk with h1 _
        injection h1 with h1 h3
        injection h3 with h3 _
        have hx := opv_eval he h1
        have hy := opv_eval he h3
        have hne : ¬ y = 0 := by omega
        simp only [execOp, hx, hy, eqGuard, binOp, Op.intDiv, ne_eq, not_true_eq_false, if_false, hne, Int.tmod_eq_emod_of_nonneg h01.1]
        rfl
def It.quo (k : IntKind) (x y : Int) (h01 : 0 ≤ x ∧ 0 < y := by omega) (hr : Value.int k (k.wrap (x / y)) = .int k (x / y)) : It P w where
  c R o := match o.op with
    | .binOp .quo _ p q _ => .vs [opv R p, opv R q] true
    | _ => .bad
  want := .vs [some (.int k x), some (.int k y)] true
  x := .int k (x / y)
  h := fun a R o he hk => by
    obtain ⟨d, op, ty, pos, aft, g⟩ := o
    cases op <;> simp only [reduceCtorEq] at hk
    case binOp b t p q t' =>
      cases b <;> simp only [reduceCtorEq] at hk
      case quo =>
        injection hk with h1 _
        injection h1 with h1 h3
        injection h3 with h3 _
        have hx := opv_eval he h1
        have hy := opv_eval he h3
        have hne : ¬ y = 0 := by omega
        rw [← hr]
        simp only [execOp, hx, hy, eqGuard, binOp, Op.intDiv, ne_eq, not_true_eq_false, if_false, hne, Int.tdiv_eq_ediv_of_nonneg h01.1]
        rfl
abbrev It.remN (k : IntKind) (n m : Nat) (hm : 0 < m := by omega) : It P w := .rem k (n : Int) (m : Int) ⟨by omega, by omega⟩
theorem w_div {x y : Int} (h : 0 ≤ x ∧ 0 < y ∧ x ≤ 9223372036854775807) : Value.int .i64 (IntKind.i64.wrap (x / y)) = .int .i64 (x / y) := by
  have h3 : x / y ≤ x := Int.ediv_le_self y h.1
  have h4 : 0 ≤ x / y := Int.ediv_nonneg h.1 (by omega)
  exact w_i64 (by omega) (by omega)
abbrev It.quoN (n m : Nat) (h : 0 < m ∧ n ≤ 9223372036854775807 := by omega) : It P w := .quo .i64 (n : Int) (m : Int) ⟨by omega, by omega⟩ (w_div ⟨by omega, by omega, by omega⟩)
theorem w_mulN {n m : Nat} (h : n * m ≤ 9223372036854775807) : Value.int .i64 (IntKind.i64.wrap ((n : Int) * (m : Int))) = .int .i64 ((n * m : Nat) : Int) := by
  rw [← Int.natCast_mul]
  exact w_i64 (by omega) (by omega)
end
/-! ### A run -/
def grd (ops : Array Oper) (R : Env) (o : Oper) : Option Bool := match o.guard with
  | none => some true
  | some (j, want) => match (ops[j]?).bind (·.dst) with
    | none => none
    | some t => match lk R t with
      | some (.bool b) => some (b == want)
      | some (.tuple l) => match l.toList with
        | [] => some false
        | _ => none
      | _ => none
structure Sim where
  lhs : List Chk
  rhs : List Chk
  env : Env
def putE (R : Env) (d : Option Tmp) (v : Value) : Env := match d with
  | none => R
  | some d => (d, v) :: R
def inN (n : Nat) (d : Option Tmp) : Bool := match d with
  | none => true
  | some d => Nat.ble (d + 1) n
def sim (P : Program) (w : World) (n : Nat) (ops : Array Oper) : List Oper → Nat → List (Nat × It P w) → Env → Sim
  | [], _, _, R => ⟨[], [], R⟩
  | _ :: _, 0, _, R => ⟨[], [], R⟩
  | o :: l, k + 1, its, R => match inN n o.dst with
    | false => ⟨[.bad], [], R⟩
    | true => match grd ops R o with
      | none => ⟨[.bad], [], R⟩
      | some false => sim P w n ops l k its (putE R o.dst undef)
      | some true => match its with
        | (0, it) :: its => let s := sim P w n ops l k its (putE R o.dst it.x); ⟨it.c R o :: s.lhs, it.want :: s.rhs, s.env⟩
        | (j + 1, it) :: its => let r := (execOp (envK R) o).run P w; let s := sim P w n ops l k ((j, it) :: its) (putE R o.dst (valOf r)); ⟨.run (knows R o) r :: s.lhs, .run true (.ok (.value (valOf r)) w) :: s.rhs, s.env⟩
        | [] => let r := (execOp (envK R) o).run P w; let s := sim P w n ops l k [] (putE R o.dst (valOf r)); ⟨.run (knows R o) r :: s.lhs, .run true (.ok (.value (valOf r)) w) :: s.rhs, s.env⟩
section
variable {ro : Option Nat} {P : Program} {Q : Exit → Act → World → Prop} {w : World} {ops : Array Oper} {n : Nat} {ds : List Deferred}
theorem En.putE {a : Act} {R : Env} (h : En n ds a R) {d : Option Tmp} (hd : inN n d = true) (v : Value) : En n ds (a.put d v) (putE R d v) := by
  cases d with
  | none => exact h
  | some d => exact h.put hd v
theorem step_on {a : Act} {R : Env} {o : Oper} {rest : List Oper} (h : Ev a R) (hg : grd ops R o = some true) {x : Value} (hx : (execOp a.eval o).run P w = .ok (.value x) w) (k : L ro P ops Q rest (a.put o.dst x) w) : L ro P ops Q (o :: rest) a w := by
  obtain ⟨d, op, ty, pos, aft, g⟩ := o
  cases g with
  | none => exact go (St.val hx k)
  | some g =>
    obtain ⟨j, want⟩ := g
    unfold grd at hg
    simp only at hg
    split at hg
    · cases hg
    · rename_i t ht
      split at hg
      · rename_i b hb
        simp only [Option.some.injEq] at hg
        have := eq_of_beq hg
        subst this
        exact go_on t ht (h _ _ hb) (St.val hx k)
      · split at hg <;> cases hg
      · cases hg
theorem step_off {a : Act} {R : Env} {o : Oper} {rest : List Oper} (h : Ev a R) (hg : grd ops R o = some false) (k : L ro P ops Q rest (a.put o.dst undef) w) : L ro P ops Q (o :: rest) a w := by
  obtain ⟨d, op, ty, pos, aft, g⟩ := o
  cases g with
  | none => cases hg
  | some g =>
    obtain ⟨j, want⟩ := g
    unfold grd at hg
    simp only at hg
    split at hg
    · cases hg
    · rename_i t ht
      split at hg
      · rename_i b hb
        simp only [Option.some.injEq] at hg
        exact go_off t ht (h _ _ hb) hg k
      · rename_i l hl
        split at hg
        · rename_i he
          have : l = #[] := by cases l; simp_all
          subst this
          exact go_none t ht (h _ _ hl) k
        · cases hg
      · cases hg
def inD (l : List Oper) (t : Nat) : Prop := ∃ o ∈ l, o.dst = some t
theorem put_not {a : Act} {d : Option Tmp} {v : Value} {t : Nat} (h : d ≠ some t) : (a.put d v).eval (.tmp t) = a.eval (.tmp t) := by
  cases d with
  | none => rfl
  | some d =>
    have : d ≠ t := fun e => h (by rw [e])
    exact at_other (by cases hq : Nat.beq d t with | false => rfl | true => exact absurd (Nat.eq_of_beq_eq_true hq) this) v rfl
theorem sim_run : ∀ (l : List Oper) (k : Nat) (its : List (Nat × It P w)) (R : Env) (a : Act), En n ds a R → (sim P w n ops l k its R).lhs = (sim P w n ops l k its R).rhs →
    (∀ a1, En n ds a1 (sim P w n ops l k its R).env → (∀ t, ¬ inD (l.take k) t → a1.eval (.tmp t) = a.eval (.tmp t)) → L ro P ops Q (l.drop k) a1 w) → L ro P ops Q l a w
  | [], k, its, R, a, he, _, K => by
    have := K a he (fun _ _ => rfl)
    rwa [List.drop_nil] at this
  | o :: l, 0, its, R, a, he, _, K => K a he (fun _ _ => rfl)
  | o :: l, k + 1, its, R, a, he, hk, K => by
    have hstep : ∀ x, (∀ a1, En n ds a1 (sim P w n ops (o :: l) (k + 1) its R).env → (∀ t, ¬ inD (l.take k) t → a1.eval (.tmp t) = (a.put o.dst x).eval (.tmp t)) → L ro P ops Q (l.drop k) a1 w) := by
      intro x a1 h1 h2
      refine K a1 h1 fun t ht => ?_
      rw [List.take_succ_cons] at ht
      have hno : o.dst ≠ some t := fun e => ht ⟨o, List.mem_cons_self .., e⟩
      rw [h2 t (fun ⟨q, hq, e⟩ => ht ⟨q, List.mem_cons_of_mem _ hq, e⟩), put_not hno]
    revert hk hstep
    unfold sim
    cases hin : inN n o.dst with
    | false => intro hk; cases hk
    | true =>
      cases hg : grd ops R o with
      | none => intro hk; cases hk
      | some b =>
        cases b with
        | false =>
          intro hk hstep
          exact step_off he.ev hg (sim_run l k its _ _ (he.putE hin _) hk (hstep undef))
        | true =>
          have comp : ∀ its', (Chk.run (knows R o) ((execOp (envK R) o).run P w) :: (sim P w n ops l k its' (putE R o.dst (valOf ((execOp (envK R) o).run P w)))).lhs = Chk.run true (.ok (.value (valOf ((execOp (envK R) o).run P w))) w) :: (sim P w n ops l k its' (putE R o.dst (valOf ((execOp (envK R) o).run P w)))).rhs) →
              (∀ a1, En n ds a1 (sim P w n ops l k its' (putE R o.dst (valOf ((execOp (envK R) o).run P w)))).env → (∀ t, ¬ inD (l.take k) t → a1.eval (.tmp t) = (a.put o.dst (valOf ((execOp (envK R) o).run P w))).eval (.tmp t)) → L ro P ops Q (l.drop k) a1 w) → L ro P ops Q (o :: l) a w := by
            intro its' hk hs
            injection hk with h1 h2
            exact step_on he.ev hg (It.cr_spec he.ev h1) (sim_run l k its' _ _ (he.putE hin _) h2 hs)
          cases its with
          | nil => intro hk hstep; exact comp [] hk (hstep _)
          | cons p its =>
            obtain ⟨j, it⟩ := p
            cases j with
            | zero =>
              intro hk hstep
              injection hk with h1 h2
              exact step_on he.ev hg (it.h a R o he.ev h1) (sim_run l k its _ _ (he.putE hin _) h2 (hstep _))
            | succ j => intro hk hstep; exact comp _ hk (hstep _)
structure Fin where
  lhs : List Chk
  look : List (Option Value)
  ok : Bool
def dOk (lo hi : Nat) (W : Env) (l : List Oper) : Bool := l.all fun o => match o.dst with
  | none => true
  | some d => (Nat.ble lo d && Nat.ble d hi) || (lk W d).isSome
theorem dOk_spec {lo hi : Nat} {W : Env} {l : List Oper} (h : dOk lo hi W l = true) {t : Nat} (ht : inD l t) : ((Nat.ble lo t && Nat.ble t hi) || (lk W t).isSome) = true := by
  obtain ⟨o, ho, e⟩ := ht
  have := List.all_eq_true.1 h o ho
  rw [e] at this
  exact this
theorem En.fin {a a1 : Act} {R E W : Env} {l : List Oper} (h : En n ds a R) (h1 : En n ds a1 E) (hs : ∀ t, ¬ inD l t → a1.eval (.tmp t) = a.eval (.tmp t)) {lo hi : Nat} (hW : W.map (fun p => lk E p.1) = W.map (fun p => some p.2)) (hd : dOk lo hi W l = true) :
    En n ds a1 (W ++ keep lo hi W R) := ⟨h1.sd, fun t v hv => by
  rcases lk_append W _ t v hv with h2 | ⟨h2, h3⟩
  · exact (h1.only W hW).ev t v h2
  · unfold keep at h3
    have h4 := lk_filter (fun q => !((Nat.ble lo q && Nat.ble q hi) || (lk W q).isSome)) R t v h3
    have h5 := h4.1
    rw [hs t (fun hin => by rw [dOk_spec hd hin] at h5; cases h5)]
    exact h.ev t v h4.2⟩
/-- A run of so many operations. -/
theorem run {l : List Oper} {a : Act} {R : Env} (h : En n ds a R) (its : List (Nat × It P w)) (k lo hi : Nat) (W : Env) (K : ∀ a1, En n ds a1 (W ++ keep lo hi W R) → L ro P ops Q (l.drop k) a1 w)
    (hk : Fin.mk (sim P w n ops l k its R).lhs (W.map fun p => lk (sim P w n ops l k its R).env p.1) (dOk lo hi W (l.take k)) = Fin.mk (sim P w n ops l k its R).rhs (W.map fun p => some p.2) true := by kernel_rfl) : L ro P ops Q l a w := by
  injection hk with h1 h2 h3
  exact sim_run l k its R a h h1 fun a1 he hs => K a1 (h.fin he hs h2 h3)
/-- A run to the end. -/
theorem re {l : List Oper} {a : Act} {R : Env} (h : En n ds a R) (its : List (Nat × It P w)) (lo hi : Nat) (W : Env) (K : ∀ a1, En n ds a1 (W ++ keep lo hi W R) → Q .normal a1 w)
    (hk : Fin.mk (sim P w n ops l l.length its R).lhs (W.map fun p => lk (sim P w n ops l l.length its R).env p.1) (dOk lo hi W l) = Fin.mk (sim P w n ops l l.length its R).rhs (W.map fun p => some p.2) true := by kernel_rfl) : L ro P ops Q l a w := by
  injection hk with h1 h2 h3
  refine sim_run l l.length its R a h h1 fun a1 he hs => ?_
  rw [List.drop_length]
  exact nil (K a1 (h.fin he (by simpa using hs) h2 h3))
/-- A region that is one run. -/
theorem rr {l : List Oper} {id : Nat} {a : Act} {R : Env} (h : En n ds a R) (its : List (Nat × It P w)) (lo hi : Nat) (W : Env) (K : ∀ a1, En n ds a1 (W ++ keep lo hi W R) → Q .normal a1 w)
    (hk : Fin.mk (sim P w n l.toArray l l.length its R).lhs (W.map fun p => lk (sim P w n l.toArray l l.length its R).env p.1) (Plan.noDefer l.toArray && dOk lo hi W l) = Fin.mk (sim P w n l.toArray l l.length its R).rhs (W.map fun p => some p.2) true := by kernel_rfl) : Wp ro P (.region id l.toArray false) Q a w := by
  injection hk with h1 h2 h3
  rw [Bool.and_eq_true] at h3
  refine region h3.1 (sim_run l l.length its R a h h1 fun a1 he hs => ?_)
  rw [List.drop_length]
  exact nil (K a1 (h.fin he (by simpa using hs) h2 h3.2))
/-- A statement that is one run, and what is behind it. -/
theorem sr {l : List Oper} {id : Nat} {y : Code} {a : Act} {R : Env} (h : En n ds a R) (its : List (Nat × It P w)) (lo hi : Nat) (W : Env) (K : ∀ a1, En n ds a1 (W ++ keep lo hi W R) → Wp ro P y Q a1 w)
    (hk : Fin.mk (sim P w n l.toArray l l.length its R).lhs (W.map fun p => lk (sim P w n l.toArray l l.length its R).env p.1) (Plan.noDefer l.toArray && dOk lo hi W l) = Fin.mk (sim P w n l.toArray l l.length its R).rhs (W.map fun p => some p.2) true := by kernel_rfl) : Wp ro P (.seq (.region id l.toArray false) y) Q a w :=
  seqd (rr (Q := Exit.then (Wp ro P y Q) Q) h its lo hi W K hk)
/-- A statement that is no single run: its operations, one by one. -/
theorem sg {l : List Oper} {id : Nat} {y : Code} {a : Act} (k : ∀ K : Act → World → Prop, (∀ a w, Wp ro P y Q a w → K a w) → L ro P l.toArray (Exit.then K Q) l a w) (hnd : Plan.noDefer l.toArray = true := by kernel_rfl) : Wp ro P (.seq (.region id l.toArray false) y) Q a w :=
  seq fun K hK => region hnd (k K hK)
theorem nt {K : Act → World → Prop} {a : Act} (h : K a w) : L ro P ops (Exit.then K Q) [] a w := nil h
/-- What an operation gave. -/
theorem pt {rest : List Oper} {a : Act} {R : Env} (h : En n ds a R) {t : Nat} {v : Value} (k : ∀ a1, En n ds a1 ((t, v) :: R) → L ro P ops Q rest a1 w) (hd : Nat.ble (t + 1) n = true := by rfl) : L ro P ops Q rest (a.put (some t) v) w := k _ (h.put hd v)
theorem pn {rest : List Oper} {a : Act} {v : Value} (k : L ro P ops Q rest a w) : L ro P ops Q rest (a.put none v) w := k
def fnOf (R : Env) (f : Operand) (args : Array Operand) : Option (FuncId × List (Option Value)) := match opv R f with
  | some (.func (.func g) ⟨[]⟩ cap) => some (g, args.toList.map (opv R) ++ cap.toList.map some)
  | _ => none
theorem map_opv {a : Act} {R : Env} (h : Ev a R) : ∀ (l : List Operand) (vs : List Value), l.map (opv R) = vs.map some → l.map a.eval = vs
  | [], [], _ => rfl
  | x :: l, v :: vs, e => by
    simp only [List.map_cons, List.cons.injEq] at e
    simp only [List.map_cons, opv_eval h e.1, map_opv h l vs e.2]
  | [], _ :: _, e => by simp at e
  | _ :: _, [], e => by simp at e
/-- A call of a function whose contract is known. -/
theorem cl {a : Act} {R : Env} (h : En n ds a R) {rest : List Oper} {d : Option Tmp} {f : Operand} {args : Array Operand} {ts : Array TypeId} {ty : TypeId} {pos : String} {aft : Array Edge} {gn : FuncId} {av : Array Value}
    (he : ∀ args w, (callFunc gn args).run P w = .ok (.enter gn args) w) {S : Ending → World → Prop} (hc : Calls P gn av w S) (k : ∀ e w1, S e w1 → ∃ v, e = .returned v ∧ ∀ a1, En n ds a1 (putE R d v) → L ro P ops Q rest a1 w1)
    (hk : (fnOf R f args, inN n d) = (some (gn, av.toList.map some), true) := by kernel_rfl) : L ro P ops Q (⟨d, .call ⟨.value f, args, ts⟩, ty, pos, aft, none⟩ :: rest) a w := by
  have hk1 := congrArg Prod.fst hk
  have hk2 : inN n d = true := congrArg Prod.snd hk
  simp only at hk1
  unfold fnOf at hk1
  split at hk1
  · rename_i g cap hf
    simp only [Option.some.injEq, Prod.mk.injEq] at hk1
    obtain ⟨rfl, hav⟩ := hk1
    have hf' := opv_eval h.ev hf
    have hm : args.map a.eval ++ cap = av := by
      have h1 : (args.toList.map (opv R) ++ cap.toList.map (opv R ∘ Operand.const)) = av.toList.map some := by rw [← hav]; rfl
      have h2 := map_opv h.ev (args.toList ++ cap.toList.map Operand.const) av.toList (by rw [List.map_append, List.map_map]; exact h1)
      apply Array.ext'
      rw [← h2]
      simp [Act.eval, Function.comp_def]
    subst hm
    exact go (call g cap (args.map a.eval) hf' rfl he hc fun e w1 hS => by
      obtain ⟨v, hv, hL⟩ := k e w1 hS
      exact ⟨v, hv, hL _ (h.putE hk2 v)⟩)
  · cases hk1
/-- The same, in a test. -/
theorem clg {a : Act} {R : Env} (h : En n ds a R) {rest : List Oper} {d : Option Tmp} {f : Operand} {args : Array Operand} {ts : Array TypeId} {ty : TypeId} {pos : String} {aft : Array Edge} {gn : FuncId} {av : Array Value} {j : Nat} {want : Bool}
    (he : ∀ args w, (callFunc gn args).run P w = .ok (.enter gn args) w) {S : Ending → World → Prop} (hc : Calls P gn av w S) (k : ∀ e w1, S e w1 → ∃ v, e = .returned v ∧ ∀ a1, En n ds a1 (putE R d v) → L ro P ops Q rest a1 w1)
    (hk : (fnOf R f args, inN n d, ((ops[j]?).bind (·.dst)).bind (lk R)) = (some (gn, av.toList.map some), true, some (.bool want)) := by kernel_rfl) : L ro P ops Q (⟨d, .call ⟨.value f, args, ts⟩, ty, pos, aft, some (j, want)⟩ :: rest) a w := by
  have hk1 := congrArg Prod.fst hk
  have hk2 : inN n d = true := congrArg (fun p => p.2.1) hk
  have hk3 : ((ops[j]?).bind (·.dst)).bind (lk R) = some (.bool want) := congrArg (fun p => p.2.2) hk
  obtain ⟨t, ht, htv⟩ := Option.bind_eq_some_iff.1 hk3
  simp only at hk1
  unfold fnOf at hk1
  split at hk1
  · rename_i g cap hf
    simp only [Option.some.injEq, Prod.mk.injEq] at hk1
    obtain ⟨rfl, hav⟩ := hk1
    have hf' := opv_eval h.ev hf
    have hm : args.map a.eval ++ cap = av := by
      have h1 : (args.toList.map (opv R) ++ cap.toList.map (opv R ∘ Operand.const)) = av.toList.map some := by rw [← hav]; rfl
      have h2 := map_opv h.ev (args.toList ++ cap.toList.map Operand.const) av.toList (by rw [List.map_append, List.map_map]; exact h1)
      apply Array.ext'
      rw [← h2]
      simp [Act.eval, Function.comp_def]
    subst hm
    exact go_on t ht (h.ev _ _ htv) (call g cap (args.map a.eval) hf' rfl he hc fun e w1 hS => by
      obtain ⟨v, hv, hL⟩ := k e w1 hS
      exact ⟨v, hv, hL _ (h.putE hk2 v)⟩)
  · cases hk1
/-- An operation in a test that is met. -/
theorem gon {a : Act} {R : Env} (h : En n ds a R) {rest : List Oper} {d : Option Tmp} {op : Op} {ty : TypeId} {pos : String} {aft : Array Edge} {j : Nat} {want : Bool} (k : St ro P ops Q rest ⟨d, op, ty, pos, aft, some (j, want)⟩ a w)
    (hk : ((ops[j]?).bind (·.dst)).bind (lk R) = some (.bool want) := by kernel_rfl) : L ro P ops Q (⟨d, op, ty, pos, aft, some (j, want)⟩ :: rest) a w := by
  obtain ⟨t, ht, htv⟩ := Option.bind_eq_some_iff.1 hk
  exact go_on t ht (h.ev _ _ htv) k
end
/-! ### A call's beginning and end -/
def argE : Nat → List Value → Env
  | _, [] => []
  | i, v :: l => (i, v) :: argE (i + 1) l
theorem lk_argE : ∀ (l : List Value) (i t : Nat) (v : Value), lk (argE i l) t = some v → i ≤ t ∧ l[t - i]? = some v
  | [], _, _, _, h => by simp [argE, lk] at h
  | u :: l, i, t, v, h => by
    simp only [argE, lk] at h
    cases hk : Nat.beq i t with
    | true =>
      rw [hk] at h
      have := Nat.eq_of_beq_eq_true hk
      subst this
      simp only [cond_true, Option.some.injEq] at h
      exact ⟨Nat.le_refl _, by simp [h]⟩
    | false =>
      rw [hk] at h
      obtain ⟨h1, h2⟩ := lk_argE l (i + 1) t v h
      refine ⟨by omega, ?_⟩
      have : t - i = (t - (i + 1)) + 1 := by omega
      rw [this, List.getElem?_cons_succ]
      exact h2
section
variable {P : Program} {fn : Func} {S : Ending → World → Prop} {a : Act} {w : World} {n : Nat} {R : Env}
theorem en {f : FuncId} {c : Code} {l : List Value} (N : Nat) (hf : P.funcs[f]? = some fn) (h : ∀ a, En N [] a (argE 0 l) → Wp none P c (bodyPost P fn S) a w) (hb : fn.body = some c := by rfl) (hn : l.length + (fn.ntmps - l.length) = N := by rfl) : Calls P f l.toArray w S :=
  enter N hf hb hn fun a hz ha => h a ⟨hz, fun t v hv => by
    have := lk_argE l 0 t v hv
    exact ha t v (by simpa using this.2)⟩
def resV (R : Env) : List ResultVar → List (Option Value)
  | [] => []
  | .tmp t :: l => lk R t :: resV R l
  | _ :: l => none :: resV R l
theorem r0 (h : En n [] a R) (hR : S (.returned (.tuple #[])) w) (hf : fn.results = #[] := by rfl) : bodyPost P fn S .ret a w := ret0 h.sd hf hR
theorem e0 (h : En n [] a R) (hR : S (.returned (.tuple #[])) w) (hf : fn.results = #[] := by rfl) : bodyPost P fn S .normal a w := end0 h.sd hf hR
theorem resV_cons {l : List ResultVar} {v : Value} {vs : List (Option Value)} (h : resV R l = some v :: vs) : ∃ t l', l = .tmp t :: l' ∧ lk R t = some v ∧ resV R l' = vs := by
  cases l with
  | nil => cases h
  | cons x l =>
    cases x with
    | tmp t => simp only [resV, List.cons.injEq] at h; exact ⟨t, l, rfl, h.1, h.2⟩
    | cell s t => simp [resV] at h
theorem resV_nil {l : List ResultVar} (h : resV R l = []) : l = [] := by
  cases l with
  | nil => rfl
  | cons x l => cases x <;> simp [resV] at h
theorem r1 (h : En n [] a R) (v : Value) (hR : S (.returned v) w) (hk : resV R fn.results.toList = [some v] := by kernel_rfl) : bodyPost P fn S .ret a w := by
  obtain ⟨t, l, e, ht, hk⟩ := resV_cons hk
  rw [resV_nil hk] at e
  exact ret1 h.sd (t := t) (Array.ext' e) (h.ev _ _ ht) hR
theorem r2 (h : En n [] a R) (v v' : Value) (hR : S (.returned (.tuple #[v, v'])) w) (hk : resV R fn.results.toList = [some v, some v'] := by kernel_rfl) : bodyPost P fn S .ret a w := by
  obtain ⟨t, l, e, ht, hk⟩ := resV_cons hk
  obtain ⟨u, l, e1, hu, hk⟩ := resV_cons hk
  rw [e1, resV_nil hk] at e
  exact ret2 h.sd (t := t) (u := u) (Array.ext' e) (h.ev _ _ ht) (h.ev _ _ hu) hR
theorem r3 (h : En n [] a R) (v v' v'' : Value) (hR : S (.returned (.tuple #[v, v', v''])) w) (hk : resV R fn.results.toList = [some v, some v', some v''] := by kernel_rfl) : bodyPost P fn S .ret a w := by
  obtain ⟨t, l, e, ht, hk⟩ := resV_cons hk
  obtain ⟨u, l, e1, hu, hk⟩ := resV_cons hk
  obtain ⟨s, l, e2, hs, hk⟩ := resV_cons hk
  rw [e1, e2, resV_nil hk] at e
  exact ret3 h.sd (t := t) (u := u) (s := s) (Array.ext' e) (h.ev _ _ ht) (h.ev _ _ hu) (h.ev _ _ hs) hR
end
section
variable {ro : Option Nat} {P : Program} {Q : Exit → Act → World → Prop} {w : World} {n : Nat} {ds : List Deferred} {a : Act} {R : Env}
theorem cp (h : En n ds a R) (p : Prop) [Decidable p] {c : Operand} {x y : Code} (h1 : p → Wp ro P x Q a w) (h2 : ¬ p → Wp ro P y Q a w) (hk : opv R c = some (.bool (decide p)) := by kernel_rfl) : Wp ro P (.cond c x y) Q a w := condP (opv_eval h.ev hk) h1 h2
theorem cb (h : En n ds a R) (t : Bool) {c : Operand} {x y : Code} (h1 : t = true → Wp ro P x Q a w) (h2 : ¬ t = true → Wp ro P y Q a w) (hk : opv R c = some (.bool t) := by kernel_rfl) : Wp ro P (.cond c x y) Q a w :=
  cond (opv_eval h.ev hk) h1 (fun hf => h2 (by rw [hf]; simp))
theorem ct (h : En n ds a R) {c : Operand} {x y : Code} (h1 : Wp ro P x Q a w) (hk : opv R c = some (.bool true) := by kernel_rfl) : Wp ro P (.cond c x y) Q a w := cond_t (opv_eval h.ev hk) h1
theorem cf (h : En n ds a R) {c : Operand} {x y : Code} (h1 : Wp ro P y Q a w) (hk : opv R c = some (.bool false) := by kernel_rfl) : Wp ro P (.cond c x y) Q a w := cond_f (opv_eval h.ev hk) h1
end
/-! ### Regions that draw their order -/
def insN (x : Nat) (l : List Nat) : List Nat := bif l.any (Nat.beq x) then l else x :: l
def ancs (ops : Array Oper) : List (List Nat) := (List.range ops.size).foldl (fun A j => A ++ [(Plan.deps ops j).foldl (fun r d => insN d ((A.getD d []).foldl (fun r x => insN x r) r)) []]) []
def hasK (R : Env) (ops : Array Oper) (o : Oper) : Bool := match o.guard with
  | none => true
  | some (j, _) => match (ops[j]?).bind (·.dst) with
    | none => true
    | some t => (lk R t).isSome
def chkK (P : Program) (R : Env) (ops : Array Oper) (os : List Oper) : Bool := os.all fun o => Plan.isL o || ((Plan.asks o).all (fun t => (lk R t).isSome) && Plan.okP P (envK R) o) || (hasK R ops o && Plan.offE ops (envK R) o)
theorem envK_eval {a : Act} {R : Env} (h : Ev a R) {t : Nat} (ht : (lk R t).isSome = true) : a.eval (.tmp t) = envK R (.tmp t) := by
  obtain ⟨v, hv⟩ := Option.isSome_iff_exists.1 ht
  simp only [envK, hv, Option.getD_some]
  exact h t v hv
theorem chkK_spec {P : Program} {a : Act} {R : Env} {ops : Array Oper} {os : List Oper} (he : Ev a R) (hk : chkK P R ops os = true) : Plan.segChk P ops a os = true := by
  unfold Plan.segChk
  unfold chkK at hk
  rw [List.all_eq_true] at hk ⊢
  intro o ho
  have h := hk o ho
  simp only [Bool.or_eq_true, Bool.and_eq_true] at h ⊢
  rcases h with (h | ⟨h1, h2⟩) | ⟨h1, h2⟩
  · exact .inl (.inl h)
  · refine .inl (.inr ?_)
    rw [← h2]
    refine Plan.okP_congr fun x hx => ?_
    cases x with
    | tmp t => exact envK_eval he (List.all_eq_true.1 h1 t (hx t rfl))
    | _ => rfl
  · refine .inr ?_
    rw [← h2]
    refine Plan.offE_congr fun j w t hg hd => ?_
    unfold hasK at h1
    rw [hg] at h1
    simp only [hd] at h1
    exact envK_eval he h1
section
variable {ro : Option Nat} {P : Program} {Q : Exit → Act → World → Prop} {w : World} {n : Nat} {ds : List Deferred} {a : Act} {R : Env} {l : List Oper}
theorem segrun {os : List Oper} (h : En n ds a R) (its : List (Nat × It P w)) (lo hi : Nat) (W : Env) {K : Act → World → Prop} (hK : ∀ a1, En n ds a1 (W ++ keep lo hi W R) → K a1 w)
    (hk : Fin.mk (sim P w n l.toArray os os.length its R).lhs (W.map fun p => lk (sim P w n l.toArray os os.length its R).env p.1) (dOk lo hi W os && chkK P (sim P w n l.toArray os os.length its R).env l.toArray os) = Fin.mk (sim P w n l.toArray os os.length its R).rhs (W.map fun p => some p.2) true) :
    L ro P l.toArray (Plan.segPost fun a' w' => Plan.segChk P l.toArray a' os = true ∧ K a' w') os a w := by
  injection hk with h1 h2 h3
  rw [Bool.and_eq_true] at h3
  refine sim_run os os.length its R a h h1 fun a1 he hs => ?_
  rw [List.drop_length]
  exact nil ⟨chkK_spec he.ev h3.2, hK a1 (h.fin he (by simpa using hs) h2 h3.1)⟩
def segC (P : Program) (w : World) (n : Nat) (l os : List Oper) (its : List (Nat × It P w)) (lo hi : Nat) (W R : Env) : Fin :=
  ⟨(sim P w n l.toArray os os.length its R).lhs, W.map fun p => lk (sim P w n l.toArray os os.length its R).env p.1, dOk lo hi W os && chkK P (sim P w n l.toArray os os.length its R).env l.toArray os⟩
theorem pz (h : En n ds a R) (its : List (Nat × It P w)) (lo hi : Nat) (W : Env) {s : List Nat} (hK : ∀ a1, En n ds a1 (W ++ keep lo hi W R) → Q .normal a1 w)
    (hk : segC P w n l (Plan.pickAll l s) its lo hi W R = Fin.mk (sim P w n l.toArray (Plan.pickAll l s) (Plan.pickAll l s).length its R).rhs (W.map fun p => some p.2) true := by kernel_rfl) : Plan.wpSegs ro P l Q [(s, none)] a w := by
  have := segrun (ro := ro) h its lo hi W hK hk
  unfold L at this
  exact this
theorem pe (h : En n ds a R) (its : List (Nat × It P w)) (lo hi : Nat) (W : Env) {s : List Nat} {j : Nat} {kp : List Nat} {r : Plan.Plan}
    (hK : ∀ a1, En n ds a1 (W ++ keep lo hi W R) → L ro P l.toArray (Plan.effPost Q fun a'' w'' => Plan.Held P l.toArray kp a1 w w'' ∧ Plan.wpSegs ro P l Q r a'' w'') [Plan.nth l j] a1 w)
    (hk : segC P w n l (Plan.pickAll l s) its lo hi W R = Fin.mk (sim P w n l.toArray (Plan.pickAll l s) (Plan.pickAll l s).length its R).rhs (W.map fun p => some p.2) true := by kernel_rfl) : Plan.wpSegs ro P l Q ((s, some (j, kp)) :: r) a w := by
  have := segrun (ro := ro) (K := fun a' w' => L ro P l.toArray (Plan.effPost Q fun a'' w'' => Plan.Held P l.toArray kp a' w' w'' ∧ Plan.wpSegs ro P l Q r a'' w'') [Plan.nth l j] a' w') h its lo hi W hK hk
  unfold L at this
  exact this
theorem qs (h : En n ds a R) (its : List (Nat × It P w)) (lo hi : Nat) (W : Env) {s : List Nat} {r : Plan.ST} (hK : ∀ a1, En n ds a1 (W ++ keep lo hi W R) → Plan.wpST ro P l Q r a1 w)
    (hk : segC P w n l (Plan.pickAll l s) its lo hi W R = Fin.mk (sim P w n l.toArray (Plan.pickAll l s) (Plan.pickAll l s).length its R).rhs (W.map fun p => some p.2) true := by kernel_rfl) : Plan.wpST ro P l Q (.seg s r) a w := by
  have := segrun (ro := ro) h its lo hi W hK hk
  unfold L at this
  exact this
/-! a stretch with an operation that is no part of a run -/
theorem pz0 {s : List Nat} (h : L ro P l.toArray (Plan.segPost fun a' w' => Plan.segChk P l.toArray a' (Plan.pickAll l s) = true ∧ Q .normal a' w') (Plan.pickAll l s) a w) : Plan.wpSegs ro P l Q [(s, none)] a w := by
  unfold L at h
  exact h
theorem pe0 {s : List Nat} {j : Nat} {kp : List Nat} {r : Plan.Plan}
    (h : L ro P l.toArray (Plan.segPost fun a' w' => Plan.segChk P l.toArray a' (Plan.pickAll l s) = true ∧ L ro P l.toArray (Plan.effPost Q fun a'' w'' => Plan.Held P l.toArray kp a' w' w'' ∧ Plan.wpSegs ro P l Q r a'' w'') [Plan.nth l j] a' w') (Plan.pickAll l s) a w) : Plan.wpSegs ro P l Q ((s, some (j, kp)) :: r) a w := by
  unfold L at h
  exact h
theorem qs0 {s : List Nat} {r : Plan.ST} (h : L ro P l.toArray (Plan.segPost fun a' w' => Plan.segChk P l.toArray a' (Plan.pickAll l s) = true ∧ Plan.wpST ro P l Q r a' w') (Plan.pickAll l s) a w) : Plan.wpST ro P l Q (.seg s r) a w := by
  unfold L at h
  exact h
theorem se {os rest : List Oper} (h : En n ds a R) (its : List (Nat × It P w)) (lo hi : Nat) (W : Env) {K : Act → World → Prop} (hK : ∀ a1, En n ds a1 (W ++ keep lo hi W R) → K a1 w)
    (hk : Fin.mk (sim P w n l.toArray rest rest.length its R).lhs (W.map fun p => lk (sim P w n l.toArray rest rest.length its R).env p.1) (dOk lo hi W rest && chkK P (sim P w n l.toArray rest rest.length its R).env l.toArray os) = Fin.mk (sim P w n l.toArray rest rest.length its R).rhs (W.map fun p => some p.2) true := by kernel_rfl) :
    L ro P l.toArray (Plan.segPost fun a' w' => Plan.segChk P l.toArray a' os = true ∧ K a' w') rest a w := by
  injection hk with h1 h2 h3
  rw [Bool.and_eq_true] at h3
  refine sim_run rest rest.length its R a h h1 fun a1 he hs => ?_
  rw [List.drop_length]
  exact nil ⟨chkK_spec he.ev h3.2, hK a1 (h.fin he (by simpa using hs) h2 h3.1)⟩
theorem qe {j : Nat} {kp : List Nat} {r : Plan.ST} (hK : L ro P l.toArray (Plan.effPost Q fun a'' w'' => Plan.Held P l.toArray kp a w w'' ∧ Plan.wpST ro P l Q r a'' w'') [Plan.nth l j] a w) : Plan.wpST ro P l Q (.eff j kp r) a w := by
  unfold L at hK
  exact hK
theorem qa {p q : Plan.ST} (h1 : Plan.wpST ro P l Q p a w) (h2 : Plan.wpST ro P l Q q a w) : Plan.wpST ro P l Q (.alt p q) a w := ⟨h1, h2⟩
theorem qn (h : Q .normal a w) : Plan.wpST ro P l Q .nil a w := h
theorem eh {ops : Array Oper} {kp : Act → World → Prop} {k2 : Act → World → Prop} (h : kp a w) (k : k2 a w) : L ro P ops (Plan.effPost Q fun a'' w'' => kp a'' w'' ∧ k2 a'' w'') [] a w := nil ⟨h, k⟩
theorem pl {id : Nat} (p : Plan.Plan) (k : ∀ w1, Fr [] w w1 → w1.heap.size = w.heap.size → Plan.wpSegs ro P l Q p a w1)
    (hok : Plan.planOk l (ancs l.toArray) p = true := by kernel_rfl) (hm : P.follows .mixedOrders = true := by kernel_rfl) (hQ : ∀ c a t w, Q (.panic c) { a with tmps := t } w → Q (.panic c) a w := by exact fun _ _ _ _ h => h) : Wp ro P (.region id l.toArray true) Q a w :=
  plan _ p hm hok hQ (k _ (Fr.drew _ _) rfl)
theorem ql {id : Nat} (p : Plan.ST) (k : ∀ w1, Fr [] w w1 → w1.heap.size = w.heap.size → Plan.wpST ro P l Q p a w1)
    (hok : Plan.stPlanOk l (ancs l.toArray) p = true := by kernel_rfl) (hm : P.follows .mixedOrders = true := by kernel_rfl) (hQ : ∀ c a t w, Q (.panic c) { a with tmps := t } w → Q (.panic c) a w := by exact fun _ _ _ _ h => h) : Wp ro P (.region id l.toArray true) Q a w :=
  planT _ p hm hok hQ (k _ (Fr.drew _ _) rfl)
end
end Go.V
