/- A range over a function: the caller's law, a call of yield; a function that holds such a loop. -/
import Derived.Test.YtalhmegjomfbaaaRow
import Derived.RangeFuncCalls
import Derived.RangeFuncLeaves
namespace Go.V
open Go.Plan (FW)
open Go.RowKit Go.Base
set_option linter.unusedVariables false
set_option linter.unusedSimpArgs false
/-- One round, by a call of yield. -/
def Yld (P : Program) (l : Nat) (args : Array Value) (W : World) (R : Ending → World → Prop) : Prop := YieldAt (FW none) 0 P l args W R
section
variable {P : Program} {Q : Exit → Act → World → Prop} {a : Act} {w : World} {ops : Array Oper} {rest : List Oper} {d : Option Tmp} {ty : TypeId} {pos : String} {aft : Array Edge} {g : Option (Nat × Bool)}
/-- A call of yield. -/
theorem yield {f : Operand} {args : Array Operand} {ts : Array TypeId} (l : Nat) (av : Array Value) (hf : a.eval f = .func (.yield l) #[] #[]) (ha : args.map a.eval = av) {R : Ending → World → Prop} (hc : Yld P l av w R)
    (k : ∀ e w1, R e w1 → ∃ v, e = .returned v ∧ L none P ops Q rest (a.put d v) w1) : St none P ops Q rest ⟨d, .call ⟨.value f, args, ts⟩, ty, pos, aft, g⟩ a w := by
  obtain ⟨fn, tmps, assign, body, hy, hR⟩ := hc
  unfold St
  have hr : (execOp a.eval ⟨d, .call ⟨.value f, args, ts⟩, ty, pos, aft, g⟩).run P w = .ok (.round l fn tmps assign body) w := by
    simp only [execOp, resolve, hf, ha, Deferred.ofValue, Sem.run_bind, Sem.run_pure, Result.andThen_ok, invoke, Array.empty_append, Array.append_empty, hy]
  rw [hr]
  refine ⟨(fun h => by cases h), hR.mono fun e w1 h => ?_⟩
  obtain ⟨v, rfl, hk⟩ := k e w1 h
  exact hk
end
/-- Blocks that lie as they lay. -/
def Kept (l : List Nat) (w w' : World) : Prop := w.heap.size ≤ w'.heap.size ∧ ∀ k ∈ l, w'.heap[k]? = w.heap[k]?
theorem Kept.fr {l l' : List Nat} {w w1 w2 : World} (h : Kept l w w1) (f : Fr l' w1 w2) (hl : ∀ k ∈ l, k < w1.heap.size ∧ k ∉ l') : Kept l w w2 :=
  ⟨Nat.le_trans h.1 f.size, fun k hk => (f.block k (hl k hk).1 (hl k hk).2).trans (h.2 k hk)⟩
/-- What a round leaves behind. -/
def rPost {α : Type} (KB : List Nat) (I : List α → World → Prop) (Ix : Code → List α → World → Prop) (s : List α) (W : World) : Exit → Act → World → Prop
  | .normal, _, W' => Kept KB W W' ∧ I s W'
  | .ret, _, W' => Kept KB W W' ∧ Ix .ret s W'
  | .exit i, _, W' => Kept KB W W' ∧ Ix (.exit i) s W'
  | .goto t, _, W' => Kept KB W W' ∧ Ix (.goto t) s W'
  | _, _, _ => False
/-- What an iterator promises of the world w: whoever is told of the parts one by one, and keeps block b. -/
def Iter {α : Type} (P : Program) (gf : Nat) (lb : Array Value) (encs : α → Array Value) (X : World → α → World → Prop) (S Sp : List α → Prop) (b : Nat) (w : World) : Prop :=
  ∀ (W1 : World), Fr [] w W1 → ∀ (l : Nat) (J Jx : List α → World → Prop),
    (∀ pre x W0 W, J pre W0 → Fr [] W0 W → X W0 x W → Sp (pre ++ [x]) → Yld P l (encs x) W (fun e W' => (e = .returned (.bool true) ∧ J (pre ++ [x]) W' ∧ Kept [b] W W') ∨ (e = .returned (.bool false) ∧ Jx (pre ++ [x]) W'))) →
    J [] W1 → Calls P gf (#[.func (.yield l) #[] #[]] ++ lb) W1 (fun e W' => (∃ v, e = .returned v) ∧ ((∃ xs W2, S xs ∧ J xs W2 ∧ Fr [] W2 W') ∨ (∃ pre W2, Sp pre ∧ Jx pre W2 ∧ Fr [] W2 W')))
section
variable {P : Program} {Q : Exit → Act → World → Prop} {a : Act} {w : World}
theorem putObj_fr {W : World} {l : Nat} {o o' : Obj} (h : W.heap[l]? = some o) : Fr [l] W (W.putObj l o') :=
  ⟨rfl, rfl, rfl, by simp [World.putObj], fun k hk hn => World.putObj_heap_other (by simpa using hn)⟩
theorem foldl_size {l : Array (Nat × Value)} : ∀ (t : Array Value), True → (l.foldl (fun t (p, v) => t.setIfInBounds p v) t).size = t.size := by
  intro t _
  rw [← Array.foldl_toList]
  generalize l.toList = m
  induction m generalizing t with
  | nil => rfl
  | cons x m ih => rw [List.foldl_cons, ih]; simp
theorem rng {α : Type} {g : Operand} {ps : Array Tmp} {assign body : Code} {N : Nat} (hz : Sz N a) {gf : Nat} {lb : Array Value} (hg : a.eval g = .func (.func gf) #[] lb) (eg : ∀ args w, (callFunc gf args).run P w = .ok (.enter gf args) w)
    {encs : α → Array Value} {X : World → α → World → Prop} {S Sp : List α → Prop} {b : Nat} (hb : b < w.heap.size) (hit : Iter P gf lb encs X S Sp b w) (hps : ∀ x, (encs x).size = ps.size)
    (I : List α → World → Prop) (Ix : Code → List α → World → Prop) (hI : ∀ pre W W', I pre W → Fr [w.heap.size + 1] W W' → I pre W') (hIx : ∀ c pre W W', Ix c pre W → Fr [w.heap.size + 1] W W' → Ix c pre W')
    (h0 : ∀ W, Fr [] w W → W.heap.size = w.heap.size + 2 → I [] W)
    (hbody : ∀ (l : Nat) (pre : List α) (x : α) (W0 W : World), l = w.heap.size + 1 → I pre W0 → Fr [] W0 W → X W0 x W → Sp (pre ++ [x]) → w.heap.size + 2 ≤ W0.heap.size →
      ∀ a1, Sz N a1 → a1.tmps = (ps.zip (encs x)).foldl (fun t (p, v) => t.setIfInBounds p v) a.tmps →
        Wp (some l) P assign (Exit.then (fun a2 W1 => Kept [w.heap.size, l, b] W W1 ∧ ∀ W2, Fr [l] W1 W2 → Wp (some l) P body (rPost [w.heap.size, l, b] I Ix (pre ++ [x]) W2) a2 W2) (fun _ _ _ => False)) a1 W)
    (hdone : ∀ (xs : List α) (W : World), S xs → I xs W → W.heap[w.heap.size]? = some (.deferred (some [])) → ∀ a1, Sd N [{ target := .collected w.heap.size, args := #[] }] a1 → a1.tmps = a.tmps → Q .normal a1 W)
    (hstop : ∀ (c : Code) (pre : List α) (W : World), Sp pre → Ix c pre W → W.heap[w.heap.size]? = some (.deferred (some [])) → ∀ a1, Sd N [{ target := .collected w.heap.size, args := #[] }] a1 → a1.tmps = a.tmps → Wp none P c Q a1 W) :
    Wp none P (.rangeFunc g ps assign body) Q a w := by
  unfold Wp
  refine wpIn_rangeFunc ?_
  intro fn hfn
  obtain ⟨rec, hrec⟩ : ∃ rec : LoopState → Option Code → Loop, rec = fun st pe => { state := st, pending := pe, fn, tmps := a.tmps, params := ps, assign, body, defers := w.heap.size } := ⟨_, rfl⟩
  obtain ⟨W1, hW1⟩ : ∃ W1, (w.alloc (.deferred (some []))).alloc (.loop (rec .ready none)) = W1 := ⟨_, rfl⟩
  have hs1 : W1.heap.size = w.heap.size + 2 := by rw [← hW1]; simp
  have hL1 : W1.heap[w.heap.size + 1]? = some (.loop (rec .ready none)) := by
    rw [← hW1]; have := World.alloc_heap_new (w.alloc (.deferred (some []))) (.loop (rec .ready none)); rwa [World.size_alloc] at this
  have hK1 : W1.heap[w.heap.size]? = some (.deferred (some [])) := by
    rw [← hW1]; exact (Below.heap_alloc _ _ _ (by simp)).trans (World.alloc_heap_new w _)
  have hF1 : Fr [] w W1 := by rw [← hW1]; exact (Fr.alloc [] w _).new (Fr.alloc [] _ _)
  refine ⟨w.heap.size + 1, [{ target := .collected w.heap.size, args := #[] }], W1, { target := .fn (.func gf) lb, args := #[.func (.yield (w.heap.size + 1)) #[] #[]] }, W1, gf,
    #[.func (.yield (w.heap.size + 1)) #[] #[]] ++ lb, W1, ?_, ?_, (fun _ _ => trivial), ?_, (fun h => by cases h), ?_⟩
  · rw [← hW1, hrec]; exact run_enterLoop_outer _ _ _ _ _
  · simp only [resolve, hg]
    simp [go_sem]
  · simp [invoke, go_sem, eg]
  · refine (callsFW (ro := none) (hit W1 hF1 (w.heap.size + 1)
      (fun pre W => I pre W ∧ w.heap.size + 2 ≤ W.heap.size ∧ W.heap[w.heap.size + 1]? = some (.loop (rec .ready none)) ∧ W.heap[w.heap.size]? = some (.deferred (some [])))
      (fun pre W => ∃ c, Ix c pre W ∧ w.heap.size + 2 ≤ W.heap.size ∧ W.heap[w.heap.size + 1]? = some (.loop (rec .done (some c))) ∧ W.heap[w.heap.size]? = some (.deferred (some []))) ?_ ⟨h0 W1 hF1 hs1, by omega, hL1, hK1⟩)).mono ?_
    · rintro pre x W0 W ⟨hi, hsz, hl0, hk0⟩ hfr hx hsp
      have hl := (hfr.block (w.heap.size + 1) (by omega) (by simp)).trans hl0
      have hk := (hfr.block w.heap.size (by omega) (by simp)).trans hk0
      have hszW := hfr.size
      have hy := run_yield (P := P) (args := encs x) hl (by rw [hrec]; exact hps x)
      rw [hrec] at hy
      refine ⟨fn, _, assign, body, hy, roundIn_of_wpIn trivial ?_⟩
      have hbd := hbody (w.heap.size + 1) pre x W0 W rfl hi hfr hx hsp hsz { tmps := (ps.zip (encs x)).foldl (fun t (p, v) => t.setIfInBounds p v) a.tmps, defers := [] } ⟨by
        show ((ps.zip (encs x)).foldl (fun t (p, v) => t.setIfInBounds p v) a.tmps).size = N
        rw [← hz.size]
        exact foldl_size _ trivial, rfl⟩ rfl
      unfold Wp at hbd
      refine wpIn_mono hbd ?_
      intro e a2 W1' q
      cases e with
      | normal =>
        obtain ⟨hkept, hbdy⟩ := q
        have hkl := (hkept.2 (w.heap.size + 1) (by simp)).trans hl
        have hkD := (hkept.2 w.heap.size (by simp)).trans hk
        have hkb := hkept.2 b (by simp)
        have hkz := hkept.1
        refine ⟨_, run_beginRound hkl (by rw [hrec]), ?_⟩
        have hfp := putObj_fr (o' := .loop { rec .ready none with state := .busy }) hkl
        have hb2 := hbdy _ hfp
        unfold Wp at hb2
        have hl2 : (W1'.putObj (w.heap.size + 1) (.loop { rec .ready none with state := .busy })).heap[w.heap.size + 1]? = some (.loop { rec .ready none with state := .busy }) := World.putObj_heap_same (Array.getElem?_eq_some_iff.1 hkl).1
        have hD2 := (hfp.block w.heap.size (by omega) (by simp)).trans hkD
        have hb2b := (hfp.block b (by omega) (by simp; omega)).trans hkb
        have hz2 := hfp.size
        refine wpIn_mono hb2 ?_
        have fin : ∀ (jump : Option Code) (W3 : World), Kept [w.heap.size, w.heap.size + 1, b] (W1'.putObj (w.heap.size + 1) (.loop { rec .ready none with state := .busy })) W3 →
            ∃ W4, (Instr.endRound (w.heap.size + 1) jump).run P W3 = .ok (.bool jump.isNone) W4 ∧ Fr [w.heap.size + 1] W3 W4 ∧ w.heap.size + 2 ≤ W4.heap.size ∧
              W4.heap[w.heap.size + 1]? = some (.loop (rec (if jump.isNone then .ready else .done) jump)) ∧ W4.heap[w.heap.size]? = some (.deferred (some [])) ∧ Kept [b] W W4 := fun jump W3 hk3 => by
          have hl3 := (hk3.2 (w.heap.size + 1) (by simp)).trans hl2
          have hD3 := (hk3.2 w.heap.size (by simp)).trans hD2
          have hb3 := (hk3.2 b (by simp)).trans hb2b
          have hz3 := hk3.1
          have hfp3 := putObj_fr (o' := .loop (rec (if jump.isNone then .ready else .done) jump)) hl3
          have hz4 := hfp3.size
          refine ⟨_, ?_, hfp3, by omega, World.putObj_heap_same (Array.getElem?_eq_some_iff.1 hl3).1, (hfp3.block w.heap.size (by omega) (by simp)).trans hD3, by omega, ?_⟩
          · have := run_endRound (P := P) jump hl3
            rw [hrec] at this ⊢
            exact this
          · intro k hk'
            simp at hk'
            subst hk'
            exact (hfp3.block k (by omega) (by simp; omega)).trans hb3
        intro e a3 W3 hp
        cases e with
        | normal =>
          obtain ⟨hk3, hi3⟩ := hp
          obtain ⟨W4, hr, hf4, hz4, hl4, hD4, hb4⟩ := fin none W3 hk3
          exact ⟨_, W4, hr, .inl ⟨rfl, ⟨hI _ _ _ hi3 hf4, hz4, hl4, hD4⟩, hb4⟩⟩
        | ret =>
          obtain ⟨hk3, hi3⟩ := hp
          obtain ⟨W4, hr, hf4, hz4, hl4, hD4, hb4⟩ := fin (some .ret) W3 hk3
          exact ⟨_, W4, hr, .inr ⟨rfl, .ret, hIx _ _ _ _ hi3 hf4, hz4, hl4, hD4⟩⟩
        | exit i =>
          obtain ⟨hk3, hi3⟩ := hp
          obtain ⟨W4, hr, hf4, hz4, hl4, hD4, hb4⟩ := fin (some (.exit i)) W3 hk3
          exact ⟨_, W4, hr, .inr ⟨rfl, .exit i, hIx _ _ _ _ hi3 hf4, hz4, hl4, hD4⟩⟩
        | goto t =>
          obtain ⟨hk3, hi3⟩ := hp
          obtain ⟨W4, hr, hf4, hz4, hl4, hD4, hb4⟩ := fin (some (.goto t)) W3 hk3
          exact ⟨_, W4, hr, .inr ⟨rfl, .goto t, hIx _ _ _ _ hi3 hf4, hz4, hl4, hD4⟩⟩
        | panic ch => exact hp.elim
        | outgrown => exact hp.elim
      | _ => exact q.elim
    · rintro e W2 ⟨⟨v, rfl⟩, (⟨xs, W3, hS, ⟨hi, hz3, hl, hk⟩, hf⟩ | ⟨pre, W3, hSp, ⟨c, hi, hz3, hl, hk⟩, hf⟩)⟩
      · have hl' := (hf.block (w.heap.size + 1) (by omega) (by simp)).trans hl
        have hk' := (hf.block w.heap.size (by omega) (by simp)).trans hk
        have hs' := hf.size
        have hfp := putObj_fr (o' := .loop { rec .ready none with state := .exhausted }) hl'
        refine ⟨none, _, by have := run_endLoop (P := P) hl' (by rw [hrec]; simp); rw [hrec] at this; exact this, ?_⟩
        refine hdone xs _ hS (hI _ _ _ (hI _ _ _ hi (hf.mono fun i hi => by cases hi)) (by rw [hrec] at hfp; exact hfp)) ?_ _ ⟨hz.size, by show [_] ++ a.defers = _; rw [hz.defers]; rfl⟩ rfl
        rw [hrec] at hfp
        exact (hfp.block w.heap.size (by omega) (by simp)).trans hk'
      · have hl' := (hf.block (w.heap.size + 1) (by omega) (by simp)).trans hl
        have hk' := (hf.block w.heap.size (by omega) (by simp)).trans hk
        have hs' := hf.size
        have hfp := putObj_fr (o' := .loop { rec .done (some c) with state := .exhausted }) hl'
        refine ⟨some c, _, by have := run_endLoop (P := P) hl' (by rw [hrec]; simp); rw [hrec] at this; exact this, ?_⟩
        have hst := hstop c pre (W2.putObj (w.heap.size + 1) (.loop { rec .done (some c) with state := .exhausted })) hSp (hIx _ _ _ _ (hIx _ _ _ _ hi (hf.mono fun i hi => by cases hi)) hfp) ((hfp.block w.heap.size (by omega) (by simp)).trans hk') { a with defers := { target := .collected w.heap.size, args := #[] } :: a.defers } ⟨hz.size, by show _ :: a.defers = _; rw [hz.defers]⟩ rfl
        unfold Wp at hst
        rw [hrec] at hst
        exact hst
end
/-- What a function that holds such a loop must come to. -/
def mPost (P : Program) (fn : Func) (R : Ending → World → Prop) : Exit → Act → World → Prop
  | .normal, a, w | .ret, a, w => LeavesInM (FW none) 0 P fn a.tmps R a.defers .returning w
  | _, _, _ => False
section
variable {P : Program} {fn : Func} {R : Ending → World → Prop} {a : Act} {w : World} {n : Nat}
theorem enterM {f : FuncId} {c : Code} {args : Array Value} (N : Nat) (hf : P.funcs[f]? = some fn) (hb : fn.body = some c) (hn : args.size + (fn.ntmps - args.size) = N)
    (h : ∀ a, Sz N a → (∀ j v, args[j]? = some v → a.eval (.tmp j) = v) → Wp none P c (mPost P fn R) a w) : Calls P f args w R := by
  refine callsIn_wide.1 (callsIn_of_wp_marks (F := Fence.wide) (n := 0) hf hb trivial ?_)
  have hw := h { tmps := args ++ Array.replicate (fn.ntmps - args.size) undef, defers := [] } ⟨by simp only [Array.size_append, Array.size_replicate]; exact hn, rfl⟩ (by
    intro j v hj
    have hlt : j < args.size := (Array.getElem?_eq_some_iff.1 hj).1
    simp only [Act.eval, Array.getD_eq_getD_getElem?]
    rw [Array.getElem?_append_left hlt, hj]
    rfl)
  unfold Wp at hw
  refine wpIn_mono hw fun e a' w' q => ?_
  cases e <;> first | exact q | exact q.elim
theorem retM1 {D : Nat} (hz : Sd n [{ target := .collected D, args := #[] }] a) (hD : w.heap[D]? = some (.deferred (some []))) {t : Tmp} (hf : fn.results = #[.tmp t]) {v : Value} (hv : a.eval (.tmp t) = v) (hR : ∀ w', Fr [D] w w' → R (.returned v) w') : mPost P fn R .ret a w := by
  show LeavesInM (FW none) 0 P fn a.tmps R a.defers .returning w
  rw [hz.defers]
  exact ⟨by simp, .inl ⟨_, _, rfl, run_takeDeferred hD, ⟨v, (results_tmp hf _ _ _).trans (by rw [← hv]; rfl), hR _ (putObj_fr hD)⟩⟩⟩
theorem retM2 {D : Nat} (hz : Sd n [{ target := .collected D, args := #[] }] a) (hD : w.heap[D]? = some (.deferred (some []))) {t u : Tmp} (hf : fn.results = #[.tmp t, .tmp u]) {v v' : Value} (hv : a.eval (.tmp t) = v) (hv' : a.eval (.tmp u) = v') (hR : ∀ w', Fr [D] w w' → R (.returned (.tuple #[v, v'])) w') : mPost P fn R .ret a w := by
  show LeavesInM (FW none) 0 P fn a.tmps R a.defers .returning w
  rw [hz.defers]
  exact ⟨by simp, .inl ⟨_, _, rfl, run_takeDeferred hD, ⟨.tuple #[v, v'], (results_tmp2 hf _ _ _).trans (by rw [← hv, ← hv']; rfl), hR _ (putObj_fr hD)⟩⟩⟩
end
/-- The block for the rounds' deferred calls: there are none. -/
def Df (w : World) (D : Nat) : Prop := w.heap[D]? = some (.deferred (some []))
section
variable {w w' : World} {D N : Nat} {a a1 : Act}
theorem Df.fr (h : Df w D) {l : List Nat} (f : Fr l w w') (hl : D ∉ l) : Df w' D := (f.block D (Array.getElem?_eq_some_iff.1 h).1 hl).trans h
theorem Kept.refl (l : List Nat) (w : World) : Kept l w w := ⟨Nat.le_refl _, fun _ _ => rfl⟩
theorem Kept.fr3 {x y z : Nat} {w w1 w2 : World} {l' : List Nat} (h : Kept [x, y, z] w w1) (f : Fr l' w1 w2) (h1 : x < w.heap.size) (h2 : y < w.heap.size) (h3 : z < w.heap.size) (g1 : x ∉ l') (g2 : y ∉ l') (g3 : z ∉ l') : Kept [x, y, z] w w2 := by
  have hsz := h.1
  refine h.fr f fun k hk => ?_
  simp at hk
  rcases hk with rfl | rfl | rfl
  · exact ⟨by omega, g1⟩
  · exact ⟨by omega, g2⟩
  · exact ⟨by omega, g3⟩
theorem par_same {p : Nat} {v : Value} (hz : Sz N a) (hp : decide (p < N) = true) (h : a1.tmps = a.tmps.setIfInBounds p v) : a1.eval (.tmp p) = v := by
  have : p < a.tmps.size := by rw [hz.size]; exact of_decide_eq_true hp
  simp [Act.eval, h, this]
theorem par_other {p t : Nat} {v u : Value} (h : a1.tmps = a.tmps.setIfInBounds p v) (hne : Nat.beq p t = false) (hu : a.eval (.tmp t) = u) : a1.eval (.tmp t) = u := by
  have hne' : p ≠ t := Nat.ne_of_beq_eq_false hne
  rw [← hu]
  simp [Act.eval, h, Array.getElem?_setIfInBounds_ne hne']
theorem par_tm {t : Nat} {u : Value} (h : a1.tmps = a.tmps) (hu : a.eval (.tmp t) = u) : a1.eval (.tmp t) = u := by rw [← hu]; simp [Act.eval, h]
end
section
variable {P : Program} {fn : Func} {R : Ending → World → Prop} {a : Act} {w : World} {n D : Nat}
theorem retM (hz : Sd n [{ target := .collected D, args := #[] }] a) (hD : Df w D) (h : ∀ w', Fr [D] w w' → ∃ v, (results fn a.tmps).run P w' = .ok v w' ∧ R (.returned v) w') : mPost P fn R .ret a w := by
  show LeavesInM (FW none) 0 P fn a.tmps R a.defers .returning w
  rw [hz.defers]
  obtain ⟨v, h1, h2⟩ := h _ (putObj_fr hD)
  exact ⟨by simp, .inl ⟨_, _, rfl, run_takeDeferred hD, v, h1, h2⟩⟩
theorem res1 {t : Tmp} (hf : fn.results = #[.tmp t]) {v : Value} (hv : a.eval (.tmp t) = v) : (results fn a.tmps).run P w = .ok v w := (results_tmp hf _ _ _).trans (by rw [← hv]; rfl)
theorem resCC {s t s' t' : Nat} (hf : fn.results = #[.cell s t, .cell s' t']) (ad ad' : Addr) (hs : a.eval (.tmp s) = .pointer (some ad)) (hs' : a.eval (.tmp s') = .pointer (some ad')) {v v' : Value} (hl : (loadVar t ad).run P w = .ok v w) (hl' : (loadVar t' ad').run P w = .ok v' w) :
    (results fn a.tmps).run P w = .ok (.tuple #[v, v']) w := by
  have e1 : a.tmps[s]?.getD undef = .pointer (some ad) := by have := hs; simpa [Act.eval] using this
  have e2 : a.tmps[s']?.getD undef = .pointer (some ad') := by have := hs'; simpa [Act.eval] using this
  simp [results, hf, e1, e2, asAddr, Sem.run_bind, hl, hl']
end
end Go.V
