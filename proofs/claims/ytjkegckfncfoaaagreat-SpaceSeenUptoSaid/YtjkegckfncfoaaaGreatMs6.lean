/- Joined texts: Rng, RngP, Ek, RunM, El, RngQ, Em, Sp, Sq0, Sq, Sr, Ss, St, Da, Db, SlW, Dc, Dd. -/
import Derived.RangeFuncCalls
import Derived.RangeFuncLeaves
import Derived.Test.YtjkegckfncfoaaaGreatProg
import Derived.TacticsIn
import Derived.WalkKit
import Derived.Shelf.SlSortCmp.NoneTotal
import Derived.Test.YtjkegckfncfoaaaGreatMs5
section
namespace Go.V
open Go.Plan (FW)
open Go.RowKit Go.Base
set_option linter.unusedVariables false
set_option linter.unusedSimpArgs false
/-- One round, by a call of yield. -/
def Yld (P : Program) (l : Nat) (args : Array Value) (W : World) (R : Ending → World → Prop) : Prop := YieldAt (FW none) 0 P l args W R
section
variable {P : Program} {Q : Exit → Act → World → Prop} {a : Act} {w : World} {ops : Array Oper} {rest : List Oper} {d : Option Tmp} {ty : TypeId} {pos : String} {aft : Array Edge} {g : Option (Nat × Bool)}
/-- A call of yield. -/
theorem yield {f : Operand} {args : Array Operand} {ts : Array TypeId} (l : Nat) (av : Array Value) (hf : a.eval f = .func (.yield l) #[] #[]) (ha : args.map a.eval = av) {R : Ending → World → Prop} (hc : Yld P l av w R)
    (k : ∀ e w1, R e w1 → ∃ v, e = .returned v ∧ L none P ops Q rest (a.put d v) w1) : St none P ops Q rest ⟨d, .call ⟨.value f, args, ts⟩, ty, pos, aft, g⟩ a w := by
  obtain ⟨fn, tmps, assign, body, hy, hR⟩ := hc
  unfold St
  have hr : (execOp a.eval ⟨d, .call ⟨.value f, args, ts⟩, ty, pos, aft, g⟩).run P w = .ok (.round l fn tmps assign body) w := by
    simp only [execOp, resolve, hf, ha, Deferred.ofValue, Sem.run_bind, Sem.run_pure, Result.andThen_ok, invoke, Array.empty_append, Array.append_empty, hy]
  rw [hr]
  refine ⟨(fun h => by cases h), hR.mono fun e w1 h => ?_⟩
  obtain ⟨v, rfl, hk⟩ := k e w1 h
  exact hk
end
/-- Blocks that lie as they lay. -/
def Kept (l : List Nat) (w w' : World) : Prop := w.heap.size ≤ w'.heap.size ∧ ∀ k ∈ l, w'.heap[k]? = w.heap[k]?
theorem Kept.fr {l l' : List Nat} {w w1 w2 : World} (h : Kept l w w1) (f : Fr l' w1 w2) (hl : ∀ k ∈ l, k < w1.heap.size ∧ k ∉ l') : Kept l w w2 :=
  ⟨Nat.le_trans h.1 f.size, fun k hk => (f.block k (hl k hk).1 (hl k hk).2).trans (h.2 k hk)⟩
/-- What a round leaves behind. -/
def rPost {α : Type} (KB : List Nat) (I : List α → World → Prop) (Ix : Code → List α → World → Prop) (s : List α) (W : World) : Exit → Act → World → Prop
  | .normal, _, W' => Kept KB W W' ∧ I s W'
  | .ret, _, W' => Kept KB W W' ∧ Ix .ret s W'
  | .exit i, _, W' => Kept KB W W' ∧ Ix (.exit i) s W'
  | .goto t, _, W' => Kept KB W W' ∧ Ix (.goto t) s W'
  | _, _, _ => False
/-- What an iterator promises of the world w: whoever is told of the parts one by one, and keeps block b. -/
def Iter {α : Type} (P : Program) (gf : Nat) (lb : Array Value) (encs : α → Array Value) (X : World → α → World → Prop) (S Sp : List α → Prop) (b : Nat) (w : World) : Prop :=
  ∀ (W1 : World), Fr [] w W1 → ∀ (l : Nat) (J Jx : List α → World → Prop),
    (∀ pre x W0 W, J pre W0 → Fr [] W0 W → X W0 x W → Sp (pre ++ [x]) → Yld P l (encs x) W (fun e W' => (e = .returned (.bool true) ∧ J (pre ++ [x]) W' ∧ Kept [b] W W') ∨ (e = .returned (.bool false) ∧ Jx (pre ++ [x]) W'))) →
    J [] W1 → Calls P gf (#[.func (.yield l) #[] #[]] ++ lb) W1 (fun e W' => (∃ v, e = .returned v) ∧ ((∃ xs W2, S xs ∧ J xs W2 ∧ Fr [] W2 W') ∨ (∃ pre W2, Sp pre ∧ Jx pre W2 ∧ Fr [] W2 W')))
section
variable {P : Program} {Q : Exit → Act → World → Prop} {a : Act} {w : World}
theorem putObj_fr {W : World} {l : Nat} {o o' : Obj} (h : W.heap[l]? = some o) : Fr [l] W (W.putObj l o') :=
  ⟨rfl, rfl, rfl, by simp [World.putObj], fun k hk hn => World.putObj_heap_other (by simpa using hn)⟩
theorem foldl_size {l : Array (Nat × Value)} : ∀ (t : Array Value), True → (l.foldl (fun t (p, v) => t.setIfInBounds p v) t).size = t.size := by
  intro t _
  rw [← Array.foldl_toList]
  generalize l.toList = m
  induction m generalizing t with
  | nil => rfl
  | cons x m ih => rw [List.foldl_cons, ih]; simp
theorem rng {α : Type} {g : Operand} {ps : Array Tmp} {assign body : Code} {N : Nat} (hz : Sz N a) {gf : Nat} {lb : Array Value} (hg : a.eval g = .func (.func gf) #[] lb) (eg : ∀ args w, (callFunc gf args).run P w = .ok (.enter gf args) w)
    {encs : α → Array Value} {X : World → α → World → Prop} {S Sp : List α → Prop} {b : Nat} (hb : b < w.heap.size) (hit : Iter P gf lb encs X S Sp b w) (hps : ∀ x, (encs x).size = ps.size)
    (I : List α → World → Prop) (Ix : Code → List α → World → Prop) (hI : ∀ pre W W', I pre W → Fr [w.heap.size + 1] W W' → I pre W') (hIx : ∀ c pre W W', Ix c pre W → Fr [w.heap.size + 1] W W' → Ix c pre W')
    (h0 : ∀ W, Fr [] w W → W.heap.size = w.heap.size + 2 → I [] W)
    (hbody : ∀ (l : Nat) (pre : List α) (x : α) (W0 W : World), l = w.heap.size + 1 → I pre W0 → Fr [] W0 W → X W0 x W → Sp (pre ++ [x]) → w.heap.size + 2 ≤ W0.heap.size →
      ∀ a1, Sz N a1 → a1.tmps = (ps.zip (encs x)).foldl (fun t (p, v) => t.setIfInBounds p v) a.tmps →
        Wp (some l) P assign (Exit.then (fun a2 W1 => Kept [w.heap.size, l, b] W W1 ∧ ∀ W2, Fr [l] W1 W2 → Wp (some l) P body (rPost [w.heap.size, l, b] I Ix (pre ++ [x]) W2) a2 W2) (fun _ _ _ => False)) a1 W)
    (hdone : ∀ (xs : List α) (W : World), S xs → I xs W → W.heap[w.heap.size]? = some (.deferred (some [])) → ∀ a1, Sd N [{ target := .collected w.heap.size, args := #[] }] a1 → a1.tmps = a.tmps → Q .normal a1 W)
    (hstop : ∀ (c : Code) (pre : List α) (W : World), Sp pre → Ix c pre W → W.heap[w.heap.size]? = some (.deferred (some [])) → ∀ a1, Sd N [{ target := .collected w.heap.size, args := #[] }] a1 → a1.tmps = a.tmps → Wp none P c Q a1 W) :
    Wp none P (.rangeFunc g ps assign body) Q a w := by
  unfold Wp
  refine wpIn_rangeFunc ?_
  intro fn hfn
  obtain ⟨rec, hrec⟩ : ∃ rec : LoopState → Option Code → Loop, rec = fun st pe => { state := st, pending := pe, fn, tmps := a.tmps, params := ps, assign, body, defers := w.heap.size } := ⟨_, rfl⟩
  obtain ⟨W1, hW1⟩ : ∃ W1, (w.alloc (.deferred (some []))).alloc (.loop (rec .ready none)) = W1 := ⟨_, rfl⟩
  have hs1 : W1.heap.size = w.heap.size + 2 := by rw [← hW1]; simp
  have hL1 : W1.heap[w.heap.size + 1]? = some (.loop (rec .ready none)) := by
    rw [← hW1]; have := World.alloc_heap_new (w.alloc (.deferred (some []))) (.loop (rec .ready none)); rwa [World.size_alloc] at this
  have hK1 : W1.heap[w.heap.size]? = some (.deferred (some [])) := by
    rw [← hW1]; exact (Below.heap_alloc _ _ _ (by simp)).trans (World.alloc_heap_new w _)
  have hF1 : Fr [] w W1 := by rw [← hW1]; exact (Fr.alloc [] w _).new (Fr.alloc [] _ _)
  refine ⟨w.heap.size + 1, [{ target := .collected w.heap.size, args := #[] }], W1, { target := .fn (.func gf) lb, args := #[.func (.yield (w.heap.size + 1)) #[] #[]] }, W1, gf,
    #[.func (.yield (w.heap.size + 1)) #[] #[]] ++ lb, W1, ?_, ?_, (fun _ _ => trivial), ?_, (fun h => by cases h), ?_⟩
  · rw [← hW1, hrec]; exact run_enterLoop_outer _ _ _ _ _
  · simp only [resolve, hg]
    simp [go_sem]
  · simp [invoke, go_sem, eg]
  · refine (callsFW (ro := none) (hit W1 hF1 (w.heap.size + 1)
      (fun pre W => I pre W ∧ w.heap.size + 2 ≤ W.heap.size ∧ W.heap[w.heap.size + 1]? = some (.loop (rec .ready none)) ∧ W.heap[w.heap.size]? = some (.deferred (some [])))
      (fun pre W => ∃ c, Ix c pre W ∧ w.heap.size + 2 ≤ W.heap.size ∧ W.heap[w.heap.size + 1]? = some (.loop (rec .done (some c))) ∧ W.heap[w.heap.size]? = some (.deferred (some []))) ?_ ⟨h0 W1 hF1 hs1, by omega, hL1, hK1⟩)).mono ?_
    · rintro pre x W0 W ⟨hi, hsz, hl0, hk0⟩ hfr hx hsp
      have hl := (hfr.block (w.heap.size + 1) (by omega) (by simp)).trans hl0
      have hk := (hfr.block w.heap.size (by omega) (by simp)).trans hk0
      have hszW := hfr.size
      have hy := run_yield (P := P) (args := encs x) hl (by rw [hrec]; exact hps x)
      rw [hrec] at hy
      refine ⟨fn, _, assign, body, hy, roundIn_of_wpIn trivial ?_⟩
      have hbd := hbody (w.heap.size + 1) pre x W0 W rfl hi hfr hx hsp hsz { tmps := (ps.zip (encs x)).foldl (fun t (p, v) => t.setIfInBounds p v) a.tmps, defers := [] } ⟨by
        show ((ps.zip (encs x)).foldl (fun t (p, v) => t.setIfInBounds p v) a.tmps).size = N
        rw [← hz.size]
        exact foldl_size _ trivial, rfl⟩ rfl
      unfold Wp at hbd
      refine wpIn_mono hbd ?_
      intro e a2 W1' q
      cases e with
      | normal =>
        obtain ⟨hkept, hbdy⟩ := q
        have hkl := (hkept.2 (w.heap.size + 1) (by simp)).trans hl
        have hkD := (hkept.2 w.heap.size (by simp)).trans hk
        have hkb := hkept.2 b (by simp)
        have hkz := hkept.1
        refine ⟨_, run_beginRound hkl (by rw [hrec]), ?_⟩
        have hfp := putObj_fr (o' := .loop { rec .ready none with state := .busy }) hkl
        have hb2 := hbdy _ hfp
        unfold Wp at hb2
        have hl2 : (W1'.putObj (w.heap.size + 1) (.loop { rec .ready none with state := .busy })).heap[w.heap.size + 1]? = some (.loop { rec .ready none with state := .busy }) := World.putObj_heap_same (Array.getElem?_eq_some_iff.1 hkl).1
        have hD2 := (hfp.block w.heap.size (by omega) (by simp)).trans hkD
        have hb2b := (hfp.block b (by omega) (by simp; omega)).trans hkb
        have hz2 := hfp.size
        refine wpIn_mono hb2 ?_
        have fin : ∀ (jump : Option Code) (W3 : World), Kept [w.heap.size, w.heap.size + 1, b] (W1'.putObj (w.heap.size + 1) (.loop { rec .ready none with state := .busy })) W3 →
            ∃ W4, (Instr.endRound (w.heap.size + 1) jump).run P W3 = .ok (.bool jump.isNone) W4 ∧ Fr [w.heap.size + 1] W3 W4 ∧ w.heap.size + 2 ≤ W4.heap.size ∧
              W4.heap[w.heap.size + 1]? = some (.loop (rec (if jump.isNone then .ready else .done) jump)) ∧ W4.heap[w.heap.size]? = some (.deferred (some [])) ∧ Kept [b] W W4 := fun jump W3 hk3 => by
          have hl3 := (hk3.2 (w.heap.size + 1) (by simp)).trans hl2
          have hD3 := (hk3.2 w.heap.size (by simp)).trans hD2
          have hb3 := (hk3.2 b (by simp)).trans hb2b
          have hz3 := hk3.1
          have hfp3 := putObj_fr (o' := .loop (rec (if jump.isNone then .ready else .done) jump)) hl3
          have hz4 := hfp3.size
          refine ⟨_, ?_, hfp3, by omega, World.putObj_heap_same (Array.getElem?_eq_some_iff.1 hl3).1, (hfp3.block w.heap.size (by omega) (by simp)).trans hD3, by omega, ?_⟩
          · have := run_endRound (P := P) jump hl3
            rw [hrec] at this ⊢
            exact this
          · intro k hk'
            simp at hk'
            subst hk'
            exact (hfp3.block k (by omega) (by simp; omega)).trans hb3
        intro e a3 W3 hp
        cases e with
        | normal =>
          obtain ⟨hk3, hi3⟩ := hp
          obtain ⟨W4, hr, hf4, hz4, hl4, hD4, hb4⟩ := fin none W3 hk3
          exact ⟨_, W4, hr, .inl ⟨rfl, ⟨hI _ _ _ hi3 hf4, hz4, hl4, hD4⟩, hb4⟩⟩
        | ret =>
          obtain ⟨hk3, hi3⟩ := hp
          obtain ⟨W4, hr, hf4, hz4, hl4, hD4, hb4⟩ := fin (some .ret) W3 hk3
          exact ⟨_, W4, hr, .inr ⟨rfl, .ret, hIx _ _ _ _ hi3 hf4, hz4, hl4, hD4⟩⟩
        | exit i =>
          obtain ⟨hk3, hi3⟩ := hp
          obtain ⟨W4, hr, hf4, hz4, hl4, hD4, hb4⟩ := fin (some (.exit i)) W3 hk3
          exact ⟨_, W4, hr, .inr ⟨rfl, .exit i, hIx _ _ _ _ hi3 hf4, hz4, hl4, hD4⟩⟩
        | goto t =>
          obtain ⟨hk3, hi3⟩ := hp
          obtain ⟨W4, hr, hf4, hz4, hl4, hD4, hb4⟩ := fin (some (.goto t)) W3 hk3
          exact ⟨_, W4, hr, .inr ⟨rfl, .goto t, hIx _ _ _ _ hi3 hf4, hz4, hl4, hD4⟩⟩
        | panic ch => exact hp.elim
        | outgrown => exact hp.elim
      | _ => exact q.elim
    · rintro e W2 ⟨⟨v, rfl⟩, (⟨xs, W3, hS, ⟨hi, hz3, hl, hk⟩, hf⟩ | ⟨pre, W3, hSp, ⟨c, hi, hz3, hl, hk⟩, hf⟩)⟩
      · have hl' := (hf.block (w.heap.size + 1) (by omega) (by simp)).trans hl
        have hk' := (hf.block w.heap.size (by omega) (by simp)).trans hk
        have hs' := hf.size
        have hfp := putObj_fr (o' := .loop { rec .ready none with state := .exhausted }) hl'
        refine ⟨none, _, by have := run_endLoop (P := P) hl' (by rw [hrec]; simp); rw [hrec] at this; exact this, ?_⟩
        refine hdone xs _ hS (hI _ _ _ (hI _ _ _ hi (hf.mono fun i hi => by cases hi)) (by rw [hrec] at hfp; exact hfp)) ?_ _ ⟨hz.size, by show [_] ++ a.defers = _; rw [hz.defers]; rfl⟩ rfl
        rw [hrec] at hfp
        exact (hfp.block w.heap.size (by omega) (by simp)).trans hk'
      · have hl' := (hf.block (w.heap.size + 1) (by omega) (by simp)).trans hl
        have hk' := (hf.block w.heap.size (by omega) (by simp)).trans hk
        have hs' := hf.size
        have hfp := putObj_fr (o' := .loop { rec .done (some c) with state := .exhausted }) hl'
        refine ⟨some c, _, by have := run_endLoop (P := P) hl' (by rw [hrec]; simp); rw [hrec] at this; exact this, ?_⟩
        have hst := hstop c pre (W2.putObj (w.heap.size + 1) (.loop { rec .done (some c) with state := .exhausted })) hSp (hIx _ _ _ _ (hIx _ _ _ _ hi (hf.mono fun i hi => by cases hi)) hfp) ((hfp.block w.heap.size (by omega) (by simp)).trans hk') { a with defers := { target := .collected w.heap.size, args := #[] } :: a.defers } ⟨hz.size, by show _ :: a.defers = _; rw [hz.defers]⟩ rfl
        unfold Wp at hst
        rw [hrec] at hst
        exact hst
end
/-- What a function that holds such a loop must come to. -/
def mPost (P : Program) (fn : Func) (R : Ending → World → Prop) : Exit → Act → World → Prop
  | .normal, a, w | .ret, a, w => LeavesInM (FW none) 0 P fn a.tmps R a.defers .returning w
  | _, _, _ => False
section
variable {P : Program} {fn : Func} {R : Ending → World → Prop} {a : Act} {w : World} {n : Nat}
theorem enterM {f : FuncId} {c : Code} {args : Array Value} (N : Nat) (hf : P.funcs[f]? = some fn) (hb : fn.body = some c) (hn : args.size + (fn.ntmps - args.size) = N)
    (h : ∀ a, Sz N a → (∀ j v, args[j]? = some v → a.eval (.tmp j) = v) → Wp none P c (mPost P fn R) a w) : Calls P f args w R := by
  refine callsIn_wide.1 (callsIn_of_wp_marks (F := Fence.wide) (n := 0) hf hb trivial ?_)
  have hw := h { tmps := args ++ Array.replicate (fn.ntmps - args.size) undef, defers := [] } ⟨by simp only [Array.size_append, Array.size_replicate]; exact hn, rfl⟩ (by
    intro j v hj
    have hlt : j < args.size := (Array.getElem?_eq_some_iff.1 hj).1
    simp only [Act.eval, Array.getD_eq_getD_getElem?]
    rw [Array.getElem?_append_left hlt, hj]
    rfl)
  unfold Wp at hw
  refine wpIn_mono hw fun e a' w' q => ?_
  cases e <;> first | exact q | exact q.elim
theorem retM1 {D : Nat} (hz : Sd n [{ target := .collected D, args := #[] }] a) (hD : w.heap[D]? = some (.deferred (some []))) {t : Tmp} (hf : fn.results = #[.tmp t]) {v : Value} (hv : a.eval (.tmp t) = v) (hR : ∀ w', Fr [D] w w' → R (.returned v) w') : mPost P fn R .ret a w := by
  show LeavesInM (FW none) 0 P fn a.tmps R a.defers .returning w
  rw [hz.defers]
  exact ⟨by simp, .inl ⟨_, _, rfl, run_takeDeferred hD, ⟨v, (results_tmp hf _ _ _).trans (by rw [← hv]; rfl), hR _ (putObj_fr hD)⟩⟩⟩
theorem retM2 {D : Nat} (hz : Sd n [{ target := .collected D, args := #[] }] a) (hD : w.heap[D]? = some (.deferred (some []))) {t u : Tmp} (hf : fn.results = #[.tmp t, .tmp u]) {v v' : Value} (hv : a.eval (.tmp t) = v) (hv' : a.eval (.tmp u) = v') (hR : ∀ w', Fr [D] w w' → R (.returned (.tuple #[v, v'])) w') : mPost P fn R .ret a w := by
  show LeavesInM (FW none) 0 P fn a.tmps R a.defers .returning w
  rw [hz.defers]
  exact ⟨by simp, .inl ⟨_, _, rfl, run_takeDeferred hD, ⟨.tuple #[v, v'], (results_tmp2 hf _ _ _).trans (by rw [← hv, ← hv']; rfl), hR _ (putObj_fr hD)⟩⟩⟩
end
/-- The block for the rounds' deferred calls: there are none. -/
def Df (w : World) (D : Nat) : Prop := w.heap[D]? = some (.deferred (some []))
section
variable {w w' : World} {D N : Nat} {a a1 : Act}
theorem Df.fr (h : Df w D) {l : List Nat} (f : Fr l w w') (hl : D ∉ l) : Df w' D := (f.block D (Array.getElem?_eq_some_iff.1 h).1 hl).trans h
theorem Kept.refl (l : List Nat) (w : World) : Kept l w w := ⟨Nat.le_refl _, fun _ _ => rfl⟩
theorem Kept.fr3 {x y z : Nat} {w w1 w2 : World} {l' : List Nat} (h : Kept [x, y, z] w w1) (f : Fr l' w1 w2) (h1 : x < w.heap.size) (h2 : y < w.heap.size) (h3 : z < w.heap.size) (g1 : x ∉ l') (g2 : y ∉ l') (g3 : z ∉ l') : Kept [x, y, z] w w2 := by
  have hsz := h.1
  refine h.fr f fun k hk => ?_
  simp at hk
  rcases hk with rfl | rfl | rfl
  · exact ⟨by omega, g1⟩
  · exact ⟨by omega, g2⟩
  · exact ⟨by omega, g3⟩
theorem par_same {p : Nat} {v : Value} (hz : Sz N a) (hp : decide (p < N) = true) (h : a1.tmps = a.tmps.setIfInBounds p v) : a1.eval (.tmp p) = v := by
  have : p < a.tmps.size := by rw [hz.size]; exact of_decide_eq_true hp
  simp [Act.eval, h, this]
theorem par_other {p t : Nat} {v u : Value} (h : a1.tmps = a.tmps.setIfInBounds p v) (hne : Nat.beq p t = false) (hu : a.eval (.tmp t) = u) : a1.eval (.tmp t) = u := by
  have hne' : p ≠ t := Nat.ne_of_beq_eq_false hne
  rw [← hu]
  simp [Act.eval, h, Array.getElem?_setIfInBounds_ne hne']
theorem par_tm {t : Nat} {u : Value} (h : a1.tmps = a.tmps) (hu : a.eval (.tmp t) = u) : a1.eval (.tmp t) = u := by rw [← hu]; simp [Act.eval, h]
end
section
variable {P : Program} {fn : Func} {R : Ending → World → Prop} {a : Act} {w : World} {n D : Nat}
theorem retM (hz : Sd n [{ target := .collected D, args := #[] }] a) (hD : Df w D) (h : ∀ w', Fr [D] w w' → ∃ v, (results fn a.tmps).run P w' = .ok v w' ∧ R (.returned v) w') : mPost P fn R .ret a w := by
  show LeavesInM (FW none) 0 P fn a.tmps R a.defers .returning w
  rw [hz.defers]
  obtain ⟨v, h1, h2⟩ := h _ (putObj_fr hD)
  exact ⟨by simp, .inl ⟨_, _, rfl, run_takeDeferred hD, v, h1, h2⟩⟩
theorem res1 {t : Tmp} (hf : fn.results = #[.tmp t]) {v : Value} (hv : a.eval (.tmp t) = v) : (results fn a.tmps).run P w = .ok v w := (results_tmp hf _ _ _).trans (by rw [← hv]; rfl)
theorem resCC {s t s' t' : Nat} (hf : fn.results = #[.cell s t, .cell s' t']) (ad ad' : Addr) (hs : a.eval (.tmp s) = .pointer (some ad)) (hs' : a.eval (.tmp s') = .pointer (some ad')) {v v' : Value} (hl : (loadVar t ad).run P w = .ok v w) (hl' : (loadVar t' ad').run P w = .ok v' w) :
    (results fn a.tmps).run P w = .ok (.tuple #[v, v']) w := by
  have e1 : a.tmps[s]?.getD undef = .pointer (some ad) := by have := hs; simpa [Act.eval] using this
  have e2 : a.tmps[s']?.getD undef = .pointer (some ad') := by have := hs'; simpa [Act.eval] using this
  simp [results, hf, e1, e2, asAddr, Sem.run_bind, hl, hl']
end
end Go.V
end
section
namespace Go.V
open Go.Plan (FW)
open Go.RowKit Go.Base
set_option linter.unusedVariables false
set_option linter.unusedSimpArgs false
/-- Blocks that lie as they lay. -/
def KeptP (K : Nat → Prop) (w w' : World) : Prop := w.heap.size ≤ w'.heap.size ∧ ∀ k, k < w.heap.size → K k → w'.heap[k]? = w.heap[k]?
theorem KeptP.refl (K : Nat → Prop) (w : World) : KeptP K w w := ⟨Nat.le_refl _, fun _ _ _ => rfl⟩
theorem KeptP.fr {K : Nat → Prop} {l : List Nat} {w w1 w2 : World} (h : KeptP K w w1) (f : Fr l w1 w2) (hl : ∀ k ∈ l, ¬ K k) : KeptP K w w2 :=
  ⟨Nat.le_trans h.1 f.size, fun k hk hK => (f.block k (Nat.lt_of_lt_of_le hk h.1) fun hm => hl k hm hK).trans (h.2 k hk hK)⟩
theorem KeptP.frP {K P : Nat → Prop} {w w1 w2 : World} (h : KeptP K w w1) (f : FrP P w1 w2) (hl : ∀ k, P k → ¬ K k) : KeptP K w w2 :=
  ⟨Nat.le_trans h.1 f.size, fun k hk hK => (f.block k (Nat.lt_of_lt_of_le hk h.1) fun hm => hl k hm hK).trans (h.2 k hk hK)⟩
theorem SlR.kept {α : Type} {R : Rp α} {Z K : Nat → Prop} {w w' : World} {v : Value} {xs : List α} (h : SlR R Z w v xs) (f : KeptP K w w') (hz : ∀ k, Z k → K k) : SlR R Z w' v xs :=
  h.mono (fun b hb hZ => ⟨hZ, f.2 b hb (hz b hZ)⟩) f.1
/-- A call of a function's value. -/
def CallV (P : Program) (fv : Value) (args : Array Value) (w : World) (R : Ending → World → Prop) : Prop :=
  (∃ l, fv = .func (.yield l) #[] #[] ∧ Yld P l args w R) ∨ (∃ f cap, fv = .func (.func f) #[] cap ∧ (∀ args w, (callFunc f args).run P w = .ok (.enter f args) w) ∧ Calls P f (args ++ cap) w R)
section
variable {P : Program} {Q : Exit → Act → World → Prop} {a : Act} {w : World} {ops : Array Oper} {rest : List Oper} {d : Option Tmp} {ty : TypeId} {pos : String} {aft : Array Edge} {g : Option (Nat × Bool)}
theorem callV {f : Operand} {args : Array Operand} {ts : Array TypeId} (fv : Value) (av : Array Value) (hf : a.eval f = fv) (ha : args.map a.eval = av) {R : Ending → World → Prop} (hc : CallV P fv av w R)
    (k : ∀ e w1, R e w1 → ∃ v, e = .returned v ∧ L none P ops Q rest (a.put d v) w1) : St none P ops Q rest ⟨d, .call ⟨.value f, args, ts⟩, ty, pos, aft, g⟩ a w := by
  rcases hc with ⟨l, rfl, hy⟩ | ⟨fn, cap, rfl, he, hc⟩
  · exact yield l av hf ha hy k
  · exact call fn cap av hf ha he hc k
end
def rPostP {α : Type} (KB : Nat → Prop) (I : List α → World → Prop) (Ix : Code → List α → World → Prop) (s : List α) (W : World) : Exit → Act → World → Prop
  | .normal, _, W' => KeptP KB W W' ∧ I s W'
  | .ret, _, W' => KeptP KB W W' ∧ Ix .ret s W'
  | .exit i, _, W' => KeptP KB W W' ∧ Ix (.exit i) s W'
  | .goto t, _, W' => KeptP KB W W' ∧ Ix (.goto t) s W'
  | _, _, _ => False
/-- What an iterator promises of the world w: whoever is told of the data one by one, and keeps the blocks of KB. -/
def IterP {α : Type} (P : Program) (gf : Nat) (lb : Array Value) (encs : α → Array Value) (X : World → α → World → Prop) (S Sp : List α → Prop) (KB : Nat → Prop) (w : World) : Prop :=
  ∀ (W1 : World), Fr [] w W1 → w.heap.size + 2 ≤ W1.heap.size → ∀ (l : Nat) (J Jx : List α → World → Prop),
    (∀ pre x W0 W, J pre W0 → Fr [] W0 W → X W0 x W → Sp (pre ++ [x]) → Yld P l (encs x) W (fun e W' => (e = .returned (.bool true) ∧ J (pre ++ [x]) W' ∧ KeptP KB W W') ∨ (e = .returned (.bool false) ∧ Jx (pre ++ [x]) W'))) →
    J [] W1 → Calls P gf (#[.func (.yield l) #[] #[]] ++ lb) W1 (fun e W' => (∃ v, e = .returned v) ∧ ((∃ xs W2, S xs ∧ J xs W2 ∧ Fr [] W2 W') ∨ (∃ pre W2, Sp pre ∧ Jx pre W2 ∧ Fr [] W2 W')))
section
variable {P : Program} {Q : Exit → Act → World → Prop} {a : Act} {w : World}
theorem rngP {α : Type} {g : Operand} {ps : Array Tmp} {assign body : Code} {N : Nat} (hz : Sz N a) {gf : Nat} {lb : Array Value} (hg : a.eval g = .func (.func gf) #[] lb) (eg : ∀ args w, (callFunc gf args).run P w = .ok (.enter gf args) w)
    {encs : α → Array Value} {X : World → α → World → Prop} {S Sp : List α → Prop} {KB : Nat → Prop} (hKB : ∀ k, KB k → k ≠ w.heap.size ∧ k ≠ w.heap.size + 1) (hit : IterP P gf lb encs X S Sp KB w) (hps : ∀ x, (encs x).size = ps.size)
    (I : List α → World → Prop) (Ix : Code → List α → World → Prop) (hI : ∀ pre W W', I pre W → Fr [w.heap.size + 1] W W' → I pre W') (hIx : ∀ c pre W W', Ix c pre W → Fr [w.heap.size + 1] W W' → Ix c pre W')
    (h0 : ∀ W, Fr [] w W → W.heap.size = w.heap.size + 2 → I [] W)
    (hbody : ∀ (l : Nat) (pre : List α) (x : α) (W0 W : World), l = w.heap.size + 1 → I pre W0 → Fr [] W0 W → X W0 x W → Sp (pre ++ [x]) → w.heap.size + 2 ≤ W0.heap.size →
      ∀ a1, Sz N a1 → a1.tmps = (ps.zip (encs x)).foldl (fun t (p, v) => t.setIfInBounds p v) a.tmps →
        Wp (some l) P assign (Exit.then (fun a2 W1 => KeptP (fun k => k = w.heap.size ∨ k = l ∨ KB k) W W1 ∧ ∀ W2, Fr [l] W1 W2 → Wp (some l) P body (rPostP (fun k => k = w.heap.size ∨ k = l ∨ KB k) I Ix (pre ++ [x]) W2) a2 W2) (fun _ _ _ => False)) a1 W)
    (hdone : ∀ (xs : List α) (W : World), S xs → I xs W → W.heap[w.heap.size]? = some (.deferred (some [])) → ∀ a1, Sd N [{ target := .collected w.heap.size, args := #[] }] a1 → a1.tmps = a.tmps → Q .normal a1 W)
    (hstop : ∀ (c : Code) (pre : List α) (W : World), Sp pre → Ix c pre W → W.heap[w.heap.size]? = some (.deferred (some [])) → ∀ a1, Sd N [{ target := .collected w.heap.size, args := #[] }] a1 → a1.tmps = a.tmps → Wp none P c Q a1 W) :
    Wp none P (.rangeFunc g ps assign body) Q a w := by
  unfold Wp
  refine wpIn_rangeFunc ?_
  intro fn hfn
  obtain ⟨rec, hrec⟩ : ∃ rec : LoopState → Option Code → Loop, rec = fun st pe => { state := st, pending := pe, fn, tmps := a.tmps, params := ps, assign, body, defers := w.heap.size } := ⟨_, rfl⟩
  obtain ⟨W1, hW1⟩ : ∃ W1, (w.alloc (.deferred (some []))).alloc (.loop (rec .ready none)) = W1 := ⟨_, rfl⟩
  have hs1 : W1.heap.size = w.heap.size + 2 := by rw [← hW1]; simp
  have hL1 : W1.heap[w.heap.size + 1]? = some (.loop (rec .ready none)) := by
    rw [← hW1]; have := World.alloc_heap_new (w.alloc (.deferred (some []))) (.loop (rec .ready none)); rwa [World.size_alloc] at this
  have hK1 : W1.heap[w.heap.size]? = some (.deferred (some [])) := by
    rw [← hW1]; exact (Below.heap_alloc _ _ _ (by simp)).trans (World.alloc_heap_new w _)
  have hF1 : Fr [] w W1 := by rw [← hW1]; exact (Fr.alloc [] w _).new (Fr.alloc [] _ _)
  refine ⟨w.heap.size + 1, [{ target := .collected w.heap.size, args := #[] }], W1, { target := .fn (.func gf) lb, args := #[.func (.yield (w.heap.size + 1)) #[] #[]] }, W1, gf,
    #[.func (.yield (w.heap.size + 1)) #[] #[]] ++ lb, W1, ?_, ?_, (fun _ _ => trivial), ?_, (fun h => by cases h), ?_⟩
  · rw [← hW1, hrec]; exact run_enterLoop_outer _ _ _ _ _
  · simp only [resolve, hg]
    simp [go_sem]
  · simp [invoke, go_sem, eg]
  · refine (callsFW (ro := none) (hit W1 hF1 (by omega) (w.heap.size + 1)
      (fun pre W => I pre W ∧ w.heap.size + 2 ≤ W.heap.size ∧ W.heap[w.heap.size + 1]? = some (.loop (rec .ready none)) ∧ W.heap[w.heap.size]? = some (.deferred (some [])))
      (fun pre W => ∃ c, Ix c pre W ∧ w.heap.size + 2 ≤ W.heap.size ∧ W.heap[w.heap.size + 1]? = some (.loop (rec .done (some c))) ∧ W.heap[w.heap.size]? = some (.deferred (some []))) ?_ ⟨h0 W1 hF1 hs1, by omega, hL1, hK1⟩)).mono ?_
    · rintro pre x W0 W ⟨hi, hsz, hl0, hk0⟩ hfr hx hsp
      have hl := (hfr.block (w.heap.size + 1) (by omega) (by simp)).trans hl0
      have hk := (hfr.block w.heap.size (by omega) (by simp)).trans hk0
      have hszW := hfr.size
      have hy := run_yield (P := P) (args := encs x) hl (by rw [hrec]; exact hps x)
      rw [hrec] at hy
      refine ⟨fn, _, assign, body, hy, roundIn_of_wpIn trivial ?_⟩
      have hbd := hbody (w.heap.size + 1) pre x W0 W rfl hi hfr hx hsp hsz { tmps := (ps.zip (encs x)).foldl (fun t (p, v) => t.setIfInBounds p v) a.tmps, defers := [] } ⟨by
        show ((ps.zip (encs x)).foldl (fun t (p, v) => t.setIfInBounds p v) a.tmps).size = N
        rw [← hz.size]
        exact foldl_size _ trivial, rfl⟩ rfl
      unfold Wp at hbd
      refine wpIn_mono hbd ?_
      intro e a2 W1' q
      cases e with
      | normal =>
        obtain ⟨hkept, hbdy⟩ := q
        have hkz := hkept.1
        have hkl := (hkept.2 (w.heap.size + 1) (by omega) (.inr (.inl rfl))).trans hl
        have hkD := (hkept.2 w.heap.size (by omega) (.inl rfl)).trans hk
        refine ⟨_, run_beginRound hkl (by rw [hrec]), ?_⟩
        have hfp := putObj_fr (o' := .loop { rec .ready none with state := .busy }) hkl
        have hb2 := hbdy _ hfp
        unfold Wp at hb2
        have hl2 : (W1'.putObj (w.heap.size + 1) (.loop { rec .ready none with state := .busy })).heap[w.heap.size + 1]? = some (.loop { rec .ready none with state := .busy }) := World.putObj_heap_same (Array.getElem?_eq_some_iff.1 hkl).1
        have hD2 := (hfp.block w.heap.size (by omega) (by simp)).trans hkD
        have hz2 := hfp.size
        refine wpIn_mono hb2 ?_
        have fin : ∀ (jump : Option Code) (W3 : World), KeptP (fun k => k = w.heap.size ∨ k = w.heap.size + 1 ∨ KB k) (W1'.putObj (w.heap.size + 1) (.loop { rec .ready none with state := .busy })) W3 →
            ∃ W4, (Instr.endRound (w.heap.size + 1) jump).run P W3 = .ok (.bool jump.isNone) W4 ∧ Fr [w.heap.size + 1] W3 W4 ∧ w.heap.size + 2 ≤ W4.heap.size ∧
              W4.heap[w.heap.size + 1]? = some (.loop (rec (if jump.isNone then .ready else .done) jump)) ∧ W4.heap[w.heap.size]? = some (.deferred (some [])) ∧ KeptP KB W W4 := fun jump W3 hk3 => by
          have hz3 := hk3.1
          have hl3 := (hk3.2 (w.heap.size + 1) (by omega) (.inr (.inl rfl))).trans hl2
          have hD3 := (hk3.2 w.heap.size (by omega) (.inl rfl)).trans hD2
          have hfp3 := putObj_fr (o' := .loop (rec (if jump.isNone then .ready else .done) jump)) hl3
          have hz4 := hfp3.size
          refine ⟨_, ?_, hfp3, by omega, World.putObj_heap_same (Array.getElem?_eq_some_iff.1 hl3).1, (hfp3.block w.heap.size (by omega) (by simp)).trans hD3, by omega, ?_⟩
          · have := run_endRound (P := P) jump hl3
            rw [hrec] at this ⊢
            exact this
          · intro k hkl' hKk
            have hne := hKB k hKk
            exact (hfp3.block k (by omega) (by simp; omega)).trans ((hk3.2 k (by omega) (.inr (.inr hKk))).trans ((hfp.block k (by omega) (by simp; omega)).trans (hkept.2 k hkl' (.inr (.inr hKk)))))
        intro e a3 W3 hp
        cases e with
        | normal =>
          obtain ⟨hk3, hi3⟩ := hp
          obtain ⟨W4, hr, hf4, hz4, hl4, hD4, hb4⟩ := fin none W3 hk3
          exact ⟨_, W4, hr, .inl ⟨rfl, ⟨hI _ _ _ hi3 hf4, hz4, hl4, hD4⟩, hb4⟩⟩
        | ret =>
          obtain ⟨hk3, hi3⟩ := hp
          obtain ⟨W4, hr, hf4, hz4, hl4, hD4, hb4⟩ := fin (some .ret) W3 hk3
          exact ⟨_, W4, hr, .inr ⟨rfl, .ret, hIx _ _ _ _ hi3 hf4, hz4, hl4, hD4⟩⟩
        | exit i =>
          obtain ⟨hk3, hi3⟩ := hp
          obtain ⟨W4, hr, hf4, hz4, hl4, hD4, hb4⟩ := fin (some (.exit i)) W3 hk3
          exact ⟨_, W4, hr, .inr ⟨rfl, .exit i, hIx _ _ _ _ hi3 hf4, hz4, hl4, hD4⟩⟩
        | goto t =>
          obtain ⟨hk3, hi3⟩ := hp
          obtain ⟨W4, hr, hf4, hz4, hl4, hD4, hb4⟩ := fin (some (.goto t)) W3 hk3
          exact ⟨_, W4, hr, .inr ⟨rfl, .goto t, hIx _ _ _ _ hi3 hf4, hz4, hl4, hD4⟩⟩
        | panic ch => exact hp.elim
        | outgrown => exact hp.elim
      | _ => exact q.elim
    · rintro e W2 ⟨⟨v, rfl⟩, (⟨xs, W3, hS, ⟨hi, hz3, hl, hk⟩, hf⟩ | ⟨pre, W3, hSp, ⟨c, hi, hz3, hl, hk⟩, hf⟩)⟩
      · have hl' := (hf.block (w.heap.size + 1) (by omega) (by simp)).trans hl
        have hk' := (hf.block w.heap.size (by omega) (by simp)).trans hk
        have hs' := hf.size
        have hfp := putObj_fr (o' := .loop { rec .ready none with state := .exhausted }) hl'
        refine ⟨none, _, by have := run_endLoop (P := P) hl' (by rw [hrec]; simp); rw [hrec] at this; exact this, ?_⟩
        refine hdone xs _ hS (hI _ _ _ (hI _ _ _ hi (hf.mono fun i hi => by cases hi)) (by rw [hrec] at hfp; exact hfp)) ?_ _ ⟨hz.size, by show [_] ++ a.defers = _; rw [hz.defers]; rfl⟩ rfl
        rw [hrec] at hfp
        exact (hfp.block w.heap.size (by omega) (by simp)).trans hk'
      · have hl' := (hf.block (w.heap.size + 1) (by omega) (by simp)).trans hl
        have hk' := (hf.block w.heap.size (by omega) (by simp)).trans hk
        have hs' := hf.size
        have hfp := putObj_fr (o' := .loop { rec .done (some c) with state := .exhausted }) hl'
        refine ⟨some c, _, by have := run_endLoop (P := P) hl' (by rw [hrec]; simp); rw [hrec] at this; exact this, ?_⟩
        have hst := hstop c pre (W2.putObj (w.heap.size + 1) (.loop { rec .done (some c) with state := .exhausted })) hSp (hIx _ _ _ _ (hIx _ _ _ _ hi (hf.mono fun i hi => by cases hi)) hfp) ((hfp.block w.heap.size (by omega) (by simp)).trans hk') { a with defers := { target := .collected w.heap.size, args := #[] } :: a.defers } ⟨hz.size, by show _ :: a.defers = _; rw [hz.defers]⟩ rfl
        unfold Wp at hst
        rw [hrec] at hst
        exact hst
end
section
variable {P : Program} {fn : Func} {R : Ending → World → Prop} {a : Act} {w : World} {n : Nat}
theorem retM0 (hz : Sz n a) (h : ∃ v, (results fn a.tmps).run P w = .ok v w ∧ R (.returned v) w) : mPost P fn R .ret a w := by
  show LeavesInM (FW none) 0 P fn a.tmps R a.defers .returning w
  rw [hz.defers]
  exact h
theorem resCCC {s t s' t' s'' t'' : Nat} (hf : fn.results = #[.cell s t, .cell s' t', .cell s'' t'']) (ad ad' ad'' : Addr) (hs : a.eval (.tmp s) = .pointer (some ad)) (hs' : a.eval (.tmp s') = .pointer (some ad')) (hs'' : a.eval (.tmp s'') = .pointer (some ad'')) {v v' v'' : Value}
    (hl : (loadVar t ad).run P w = .ok v w) (hl' : (loadVar t' ad').run P w = .ok v' w) (hl'' : (loadVar t'' ad'').run P w = .ok v'' w) : (results fn a.tmps).run P w = .ok (.tuple #[v, v', v'']) w := by
  have e1 : a.tmps[s]?.getD undef = .pointer (some ad) := by have := hs; simpa [Act.eval] using this
  have e2 : a.tmps[s']?.getD undef = .pointer (some ad') := by have := hs'; simpa [Act.eval] using this
  have e3 : a.tmps[s'']?.getD undef = .pointer (some ad'') := by have := hs''; simpa [Act.eval] using this
  simp [results, hf, e1, e2, e3, asAddr, Sem.run_bind, hl, hl', hl'']
end
theorem Yld.mono {P : Program} {l : Nat} {args : Array Value} {W : World} {R R' : Ending → World → Prop} (h : Yld P l args W R) (hr : ∀ e w, R e w → R' e w) : Yld P l args W R' := by
  obtain ⟨fn, tmps, assign, body, hy, hR⟩ := h
  exact ⟨fn, tmps, assign, body, hy, hR.mono hr⟩
section
variable {a a1 : Act} {N p q t : Nat} {v u x : Value}
theorem par2_snd (hz : Sz N a) (hq : decide (q < N) = true) (h : a1.tmps = (a.tmps.setIfInBounds p v).setIfInBounds q u) : a1.eval (.tmp q) = u := by
  have : q < a.tmps.size := by rw [hz.size]; exact of_decide_eq_true hq
  simp [Act.eval, h, this]
theorem par2_fst (hz : Sz N a) (hp : decide (p < N) = true) (hne : Nat.beq q p = false) (h : a1.tmps = (a.tmps.setIfInBounds p v).setIfInBounds q u) : a1.eval (.tmp p) = v := by
  have : p < a.tmps.size := by rw [hz.size]; exact of_decide_eq_true hp
  have hne' : q ≠ p := Nat.ne_of_beq_eq_false hne
  simp only [Act.eval, Array.getD_eq_getD_getElem?, h]
  rw [Array.getElem?_setIfInBounds_ne hne']
  simp [this]
theorem par2_other (h : a1.tmps = (a.tmps.setIfInBounds p v).setIfInBounds q u) (h1 : Nat.beq p t = false) (h2 : Nat.beq q t = false) (hx : a.eval (.tmp t) = x) : a1.eval (.tmp t) = x := by
  have h1' : p ≠ t := Nat.ne_of_beq_eq_false h1
  have h2' : q ≠ t := Nat.ne_of_beq_eq_false h2
  rw [← hx]
  simp [Act.eval, h, Array.getElem?_setIfInBounds_ne h1', Array.getElem?_setIfInBounds_ne h2']
end
end Go.V
end
section
namespace Go.Proofs.YtjkegckfncfoaaaGreat
open Go.V Go.Base
open Go.RowKit (Below)
attribute [local irreducible] Act.put Act.eval
set_option linter.unusedVariables false
set_option linter.unusedSimpArgs false
theorem flat_take {β : Type} {l : List (List β)} {i : Nat} (h : i < l.length) : (l.take (i + 1)).flatten = (l.take i).flatten ++ l.getD i [] := by
  rw [List.take_add_one, List.getElem?_eq_getElem h, List.flatten_append, List.getD_eq_getElem?_getD, List.getElem?_eq_getElem h]; simp
theorem flat_take_le {β : Type} (l : List (List β)) (i : Nat) : (l.take i).flatten.length ≤ l.flatten.length := by
  have h : (l.take i).flatten.length + (l.drop i).flatten.length = l.flatten.length := by rw [← List.length_append, ← List.flatten_append, List.take_append_drop]
  omega
theorem _root_.Go.V.SlR.cap {α : Type} {R : Rp α} {Z : Nat → Prop} {w : World} {A : Option Addr} {n c : Nat} {xs : List α} (h : SlR R Z w (.slice A n c) xs) : xs.length ≤ c := by
  obtain ⟨A', c', e, h1, _⟩ := h
  injection e with e1 e2 e3
  omega
set_option maxHeartbeats 4000000 in
set_option maxRecDepth 20000 in
theorem grow_any (w : World) (n : Nat) (hn : n ≤ 1099511627776) : Calls Tryz.prog 135 #[.slice none 0 0, .int .i64 (n : Int)] w (fun e w' => ∃ A c, e = .returned (.slice A 0 c) ∧ OwR itI NoZ w' w.heap.size 117 (.slice A 0 c) [] ∧ Fr [] w w') := by
 have hF := Fr.refl [] w
 refine V.en 27 Tryz.func135 fun a h1 => ?_
 refine V.sr h1 [] 4 4 [] fun a h4 => ?_
 refine V.seq fun K5 k6 => ?_
 refine V.sr h4 [] 5 5 [(6, .bool (decide ((n : Int) < 0)))] fun a h9 => ?_
 refine V.cp h9 ((n : Int) < 0) (fun ht10 => ?_) (fun ht10 => ?_)
 · exact absurd ht10 (by omega)
 ·
  refine V.skip ?_
  refine V.then_n (k6 _ _ ?_)
  refine V.seq fun K11 k12 => ?_
  refine V.sr h9 [(5, .i (0 - 0)), (0, .i ((n : Int) - (0 - 0)))] 8 14 [(1, .int .i64 ((n : Int) - (0 - 0)))] fun a h15 => ?_
  refine V.sr h15 [] 15 15 [(16, .bool (decide (((n : Int) - (0 - 0)) > 0)))] fun a h18 => ?_
  refine V.cp h18 (((n : Int) - (0 - 0)) > 0) (fun ht19 => ?_) (fun ht19 => ?_)
  ·
   refine V.rg ?_
   refine V.run h18 [] 5 17 19 [(20, .slice none 0 0), (21, .int .i64 ((n : Int) - (0 - 0)))] fun a h25 => ?_
   refine V.go (V.appZ (R := itI) (kn := .i64) (n := n) (h25.e (v := (.slice none 0 0))) ((h25.e (v := (.int .i64 ((n : Int) - (0 - 0))))).trans (V.int_eq (by omega))) (by kernel_rfl) (by kernel_rfl) info117 (by kernel_rfl) (by decide) (by omega) (by decide) (by omega) ?_)
   intro g20 c21 w22 hO23 hF24
   have hsw22 := hF24.size
   have hF_26 := hF.new hF24
   refine V.pt h25 fun a h27 => ?_
   refine V.run h27 [] 2 23 23 [(24, .int .i64 0)] fun a h28 => ?_
   refine V.go (V.slc (e := 117) (sz := 7) g20 0 n c21 0 0 c21 (h28.e (v := (.slice (some ⟨g20, 0, none⟩) n c21))) rfl ⟨_, ((h28.e (v := (.int .i64 0)))).trans (V.int_eq (by omega))⟩ rfl (by omega) (by omega) (by omega) (by kernel_rfl) (by kernel_rfl) ?_)
   intro ad29 had30 hae31
   obtain rfl := hae31 rfl
   refine V.pt h28 fun a h32 => ?_
   refine V.re h32 [] 1 0 [(0, .slice (some ⟨g20, 0, none⟩) (0 - 0) (c21 - 0))] fun a h33 => k12 _ _ ?_
   refine V.sr h33 [] 26 26 [(4, .slice (some ⟨g20, 0, none⟩) (0 - 0) (c21 - 0))] fun a h36 => ?_
   refine V.ret ?_
   refine V.r1 h36 (.slice (some ⟨g20, 0, none⟩) (0 - 0) (c21 - 0)) ?_
   exact ⟨_, _, rfl, hO23, hF_26⟩
  ·
   refine V.skip ?_
   refine V.then_n (k12 _ _ ?_)
   refine V.sr h18 [] 26 26 [(4, .slice none 0 0)] fun a h39 => ?_
   refine V.ret ?_
   refine V.r1 h39 (.slice none 0 0) ?_
   exact ⟨_, _, rfl, OwR.nil itI NoZ _ w.heap.size 117, hF⟩
set_option maxHeartbeats 4000000 in
set_option maxRecDepth 20000 in
theorem concat_nil (w : World)  : Calls Tryz.prog 101 #[.slice none 0 0] w (fun e w' => ∃ A c, e = .returned (.slice A 0 c) ∧ OwR itI NoZ w' w.heap.size 117 (.slice A 0 c) [] ∧ Fr [] w w') := by
 have hF := Fr.refl [] w
 refine V.en 36 Tryz.func101 fun a h1 => ?_
 refine V.sr h1 [] 2 2 [] fun a h4 => ?_
 refine V.sr h4 [] 1 0 [(3, .int .i64 0)] fun a h7 => ?_
 refine V.seq fun K8 k9 => ?_
 refine V.sr h7 [] 1 0 [(9, .slice none 0 0), (10, .int .i64 0), (11, .int .i64 0)] fun a h12 => ?_
 refine V.block ?_
 refine V.loopR 2 ?_
 refine V.rnd ?_
 refine V.sr h12 [] 1 0 [(12, .bool false)] fun a h15 => ?_
 refine V.seq fun K16 k17 => ?_
 refine V.cf h15 ?_
 refine V.exit ?_
 refine V.then_e ?_
 refine V.then_e ?_
 refine V.blk_hit ?_
 refine V.then_n (k9 _ _ ?_)
 refine V.sg fun K18 k19 => ?_
 refine V.run h15 [] 1 1 0 [(23, .int .i64 0)] fun a h20 => ?_
 refine V.cl h20 (Go.Proofs.enters_of Tryz.func135 (by kernel_rfl) rfl) (grow_any w 0 (by omega)) ?_
 rintro _ w25 ⟨A21, c22, rfl, hO23, hF24⟩
 refine ⟨_, rfl, fun a h26 => ?_⟩
 have hsw25 := hF24.size
 have hF_27 := hF.new hF24
 have hO23q := hO23.rebase (base' := w.heap.size) (by omega)
 refine V.re h26 [] 1 0 [(6, .slice A21 0 c22)] fun a h28 => k19 _ _ ?_
 refine V.seq fun K29 k30 => ?_
 refine V.sr h28 [] 1 0 [(25, .slice none 0 0), (26, .int .i64 0), (27, .int .i64 0)] fun a h33 => ?_
 refine V.block ?_
 refine V.loopR 2 ?_
 refine V.rnd ?_
 refine V.sr h33 [] 1 0 [(28, .bool false)] fun a h36 => ?_
 refine V.seq fun K37 k38 => ?_
 refine V.cf h36 ?_
 refine V.exit ?_
 refine V.then_e ?_
 refine V.then_e ?_
 refine V.blk_hit ?_
 refine V.then_n (k30 _ _ ?_)
 refine V.sr h36 [] 35 35 [(2, .slice A21 0 c22)] fun a h41 => ?_
 refine V.ret ?_
 refine V.r1 h41 (.slice A21 0 c22) ?_
 exact ⟨_, _, rfl, hO23q, hF_27⟩
set_option maxHeartbeats 4000000 in
set_option maxRecDepth 20000 in
theorem concat_row (w : World) (H : Nat → Prop) (av : List Nat) (g : Nat) (vs vsB : List Value) (xs xsB : List (List (ByteArray × EntV))) (hR : Row idV w g vs 118) (hl : vs.length = xs.length) (hK : Bks itI w 117 H av (vs ++ vsB) (xs ++ xsB)) (hHb : ∀ k, H k → k < w.heap.size) (hx : xs.length ≤ 4398046511104) (hf : xs.flatten.length ≤ 1099511627776) : Calls Tryz.prog 101 #[.slice (some ⟨g, 0, none⟩) xs.length xs.length] w (fun e w' => ∃ A c, e = .returned (.slice A xs.flatten.length c) ∧ OwR itI NoZ w' w.heap.size 117 (.slice A xs.flatten.length c) xs.flatten ∧ Fr [] w w') := by
 have hF := Fr.refl [] w
 have hltr := hR.lt
 refine V.en 36 Tryz.func101 fun a h1 => ?_
 refine V.sr h1 [] 2 2 [] fun a h4 => ?_
 refine V.sr h4 [] 1 0 [(3, .int .i64 0)] fun a h7 => ?_
 refine V.seq fun K8 k9 => ?_
 refine V.sr h7 [] 1 0 [(9, .slice (some ⟨g, 0, none⟩) xs.length xs.length), (10, .int .i64 ((xs.length : Nat) : Int)), (11, .int .i64 0)] fun a h12 => ?_
 refine V.block ?_
 refine V.loop1 (fun (i : Nat) a_ w_ => En 36 [] a_ [(0, .slice (some ⟨g, 0, none⟩) xs.length xs.length), (3, .int .i64 (((xs.take i).flatten.length : Nat) : Int)), (9, .slice (some ⟨g, 0, none⟩) xs.length xs.length), (10, .int .i64 ((xs.length : Nat) : Int)), (11, .int .i64 (i : Int))] ∧ Fr [] w w_ ∧ Row idV w_ g vs 118 ∧ Bks itI w_ 117 H (av) (vs ++ vsB) (xs ++ xsB) ∧ (i ≤ xs.length)) (fun (i : Nat) => xs.length - i) 0 ?_ ?_
 ·
  refine ⟨((h12.eq 3 (v := (.int .i64 0)) (u := (.int .i64 (((xs.take 0).flatten.length : Nat) : Int))) (V.int_eq (by simp))).eq 11 (v := (.int .i64 0)) (u := (.int .i64 (0 : Int))) (V.int_eq (by omega))).only _, hF, hR, hK, (by omega)⟩
 ·
  rintro i a13 w14 ⟨h15, hF_16, hR_17, hK_18, hi⟩
  have hfs19 := hF_16.size
  have hlt20 := hR_17.lt
  have hft := flat_take_le xs (i + 1)
  have hft0 := flat_take_le xs i
  have hbq := flat_getD xs i
  refine V.sr h15 [] 1 0 [(12, .bool (decide ((i : Int) < ((xs.length : Nat) : Int))))] fun a h23 => ?_
  refine V.seq fun K24 k25 => ?_
  refine V.cp h23 ((i : Int) < ((xs.length : Nat) : Int)) (fun ht26 => ?_) (fun ht26 => ?_)
  ·
   refine V.skip ?_
   refine V.then_n (k25 _ _ ?_)
   refine V.seq fun K27 k28 => ?_
   refine V.block ?_
   obtain ⟨A31, c32, hv33⟩ := hK_18.getA hl (i := i) (by omega) nilS
   have hS34 := hK_18.slA hl (i := i) (by omega) hv33
   refine V.sr h23 [(0, .ix g 0 xs.length xs.length .i64 (i : Int) 1 rfl), (0, .l ⟨g, 0 + (i : Int).toNat * 1, none⟩ (.slice A31 ((xs.getD i []).length) c32) ((hR_17.at i nilS (by omega)).trans (congrArg some hv33)))] 13 14 [(5, .slice A31 ((xs.getD i []).length) c32)] fun a h35 => ?_
   refine V.sr h35 [(3, .i ((((xs.take i).flatten.length : Nat) : Int) + (((xs.getD i []).length : Nat) : Int)))] 15 18 [(3, .int .i64 ((((xs.take i).flatten.length : Nat) : Int) + (((xs.getD i []).length : Nat) : Int)))] fun a h38 => ?_
   refine V.seq fun K39 k40 => ?_
   have htk : (xs.take (i + 1)).flatten = (xs.take i).flatten ++ xs.getD i [] := flat_take (by omega)
   have hln : ((xs.take (i + 1)).flatten).length = ((xs.take i).flatten).length + (xs.getD i []).length := by rw [htk, List.length_append]
   refine V.rr h38 [] 19 19 [(20, .bool (decide (((((xs.take i).flatten.length : Nat) : Int) + (((xs.getD i []).length : Nat) : Int)) < 0)))] fun a h41 => ?_
   refine V.then_n (k40 _ _ ?_)
   refine V.cp h41 (((((xs.take i).flatten.length : Nat) : Int) + (((xs.getD i []).length : Nat) : Int)) < 0) (fun ht42 => ?_) (fun ht42 => ?_)
   · exact absurd ht42 (by omega)
   ·
    refine V.skip ?_
    refine V.blk_n ?_
    refine V.then_n (k28 _ _ ?_)
    refine V.rr h41 [(0, .i ((i : Int) + 1))] 22 22 [(11, .int .i64 ((i : Int) + 1))] fun a h43 => ?_
    refine V.then_n ?_
    refine ⟨i + 1, by omega, ?_⟩
    refine ⟨((h43.eq 3 (v := (.int .i64 ((((xs.take i).flatten.length : Nat) : Int) + (((xs.getD i []).length : Nat) : Int)))) (u := (.int .i64 (((xs.take (i + 1)).flatten.length : Nat) : Int))) (V.int_eq (by omega))).eq 11 (v := (.int .i64 ((i : Int) + 1))) (u := (.int .i64 ((i + 1) : Int))) (V.int_eq (by omega))).only _, hF_16, hR_17, hK_18, (by omega)⟩
  ·
   refine V.exit ?_
   refine V.then_e ?_
   refine V.then_e ?_
   refine V.blk_hit ?_
   refine V.then_n (k9 _ _ ?_)
   refine V.seq fun K44 k45 => ?_
   have hft9 := flat_take_le xs i
   refine V.rg ?_
   refine V.run h23 [] 1 1 0 [(23, .int .i64 (((xs.take i).flatten.length : Nat) : Int))] fun a h46 => ?_
   refine V.cl h46 (Go.Proofs.enters_of Tryz.func135 (by kernel_rfl) rfl) (grow_any w14 ((xs.take i).flatten.length) (by omega)) ?_
   rintro _ w51 ⟨A47, c48, rfl, hO49, hF50⟩
   refine ⟨_, rfl, fun a h52 => ?_⟩
   have hsw51 := hF50.size
   have hF_53 := hF_16.new hF50
   have hR_54 := hR_17.fr0 hF50
   have hK_55 := hK_18.fr0 hF50
   have hO49q := hO49.rebase (base' := w.heap.size) (by omega)
   refine V.re h52 [] 1 0 [(6, .slice A47 0 c48)] fun a h56 => k45 _ _ ?_
   refine V.seq fun K57 k58 => ?_
   refine V.sr h56 [] 1 0 [(25, .slice (some ⟨g, 0, none⟩) xs.length xs.length), (26, .int .i64 ((xs.length : Nat) : Int)), (27, .int .i64 0)] fun a h61 => ?_
   refine V.block ?_
   refine V.loop3 (fun (i2 : Nat) (A2 : Option Addr) (c2 : Nat) a_ w_ => En 36 [] a_ [(6, .slice A2 ((xs.take i2).flatten.length) c2), (25, .slice (some ⟨g, 0, none⟩) xs.length xs.length), (26, .int .i64 ((xs.length : Nat) : Int)), (27, .int .i64 (i2 : Int))] ∧ OwR itI NoZ w_ w.heap.size 117 (.slice A2 ((xs.take i2).flatten.length) c2) ((xs.take i2).flatten) ∧ Fr [] w w_ ∧ Row idV w_ g vs 118 ∧ Bks itI w_ 117 H (av) (vs ++ vsB) (xs ++ xsB) ∧ (i2 ≤ xs.length)) (fun (i2 : Nat) (A2 : Option Addr) (c2 : Nat) => xs.length - i2) 0 A47 c48 ?_ ?_
   ·
    refine ⟨((h61.eq 6 (v := (.slice A47 0 c48)) (u := (.slice A47 ((xs.take 0).flatten.length) c48)) (V.sl_eq (by simp))).eq 27 (v := (.int .i64 0)) (u := (.int .i64 (0 : Int))) (V.int_eq (by omega))).only _, (by simpa using hO49q), hF_53, hR_54, hK_55, (by omega)⟩
   ·
    rintro i2 A2 c2 a62 w63 ⟨h64, hO_65, hF_66, hR_67, hK_68, hi2⟩
    have hfs69 := hF_66.size
    have hlt70 := hR_67.lt
    have hft := flat_take_le xs (i2 + 1)
    have hft0 := flat_take_le xs i2
    have hbq := flat_getD xs i2
    refine V.sr h64 [] 1 0 [(28, .bool (decide ((i2 : Int) < ((xs.length : Nat) : Int))))] fun a h73 => ?_
    refine V.seq fun K74 k75 => ?_
    refine V.cp h73 ((i2 : Int) < ((xs.length : Nat) : Int)) (fun ht76 => ?_) (fun ht76 => ?_)
    ·
     refine V.skip ?_
     refine V.then_n (k75 _ _ ?_)
     refine V.seq fun K77 k78 => ?_
     refine V.block ?_
     obtain ⟨A81, c82, hv83⟩ := hK_68.getA hl (i := i2) (by omega) nilS
     have hS84 := hK_68.slA hl (i := i2) (by omega) hv83
     refine V.sr h73 [(0, .ix g 0 xs.length xs.length .i64 (i2 : Int) 1 rfl), (0, .l ⟨g, 0 + (i2 : Int).toNat * 1, none⟩ (.slice A81 ((xs.getD i2 []).length) c82) ((hR_67.at i2 nilS (by omega)).trans (congrArg some hv83)))] 29 30 [(8, .slice A81 ((xs.getD i2 []).length) c82)] fun a h85 => ?_
     have htk : (xs.take (i2 + 1)).flatten = (xs.take i2).flatten ++ xs.getD i2 [] := flat_take (by omega)
     have hln : ((xs.take (i2 + 1)).flatten).length = ((xs.take i2).flatten).length + (xs.getD i2 []).length := by rw [htk, List.length_append]
     refine V.rg ?_
     refine V.run h85 [] 2 1 0 [(31, .slice A2 ((xs.take i2).flatten.length) c2), (32, .slice A81 ((xs.getD i2 []).length) c82)] fun a h91 => ?_
     refine V.go (V.appS (R := itI) (h91.e (v := (.slice A2 ((xs.take i2).flatten.length) c2))) (h91.e (v := (.slice A81 ((xs.getD i2 []).length) c82))) (by kernel_rfl) info117 (by kernel_rfl) (by decide) hO_65 hS84 (fun _ _ h => h) (by (try simp only [List.length_append]); omega) (by decide) (by omega) ?_)
     intro A86 c87 w88 hO89 hF90
     have hsw88 := hF90.size
     have hF_92 := hF_66.own hF90 (own_ge hO_65 (by omega))
     have hR_93 := hR_67.fr hF90 (by first | exact own_notin hO_65 (by omega) | exact own_notin2 hO_65 (by omega))
     have hK_94 := hK_68.frP (FrP.of hF90) (fun k hk => .inr (fun hq => by have h1 := hHb k hq; have h2 := own_ge hO_65 (Nat.le_refl _) k hk; omega))
     refine V.pt h91 fun a h95 => ?_
     refine V.re h95 [] 1 0 [(6, .slice A86 (((xs.take i2).flatten).length + (xs.getD i2 []).length) c87)] fun a h96 => ?_
     refine V.blk_n ?_
     refine V.then_n (k78 _ _ ?_)
     refine V.rr h96 [(0, .i ((i2 : Int) + 1))] 34 34 [(27, .int .i64 ((i2 : Int) + 1))] fun a h97 => ?_
     refine V.then_n ?_
     refine ⟨i2 + 1, A86, c87, by omega, ?_⟩
     refine ⟨((h97.eq 6 (v := (.slice A86 (((xs.take i2).flatten).length + (xs.getD i2 []).length) c87)) (u := (.slice A86 ((xs.take (i2 + 1)).flatten.length) c87)) (V.sl_eq hln.symm)).eq 27 (v := (.int .i64 ((i2 : Int) + 1))) (u := (.int .i64 ((i2 + 1) : Int))) (V.int_eq (by omega))).only _, (by rw [hln, htk]; exact hO89), hF_92, hR_93, hK_94, (by omega)⟩
    ·
     refine V.exit ?_
     refine V.then_e ?_
     refine V.then_e ?_
     refine V.blk_hit ?_
     refine V.then_n (k58 _ _ ?_)
     refine V.sr h73 [] 35 35 [(2, .slice A2 ((xs.take i2).flatten.length) c2)] fun a h100 => ?_
     refine V.ret ?_
     refine V.r1 h100 (.slice A2 ((xs.take i2).flatten.length) c2) ?_
     have hq : (xs.take i2).flatten = xs.flatten := by rw [List.take_of_length_le (by omega)]
     rw [hq] at hO_65 ⊢
     exact ⟨_, _, rfl, hO_65, hF_66⟩
end Go.Proofs.YtjkegckfncfoaaaGreat
end
section
namespace Go.V
open Go.Plan (FW wpL)
open Go.RowKit Go.Base
theorem enM {P : Program} {fn : Func} {S : Ending → World → Prop} {w : World} {f : FuncId} {c : Code} {l : List Value} (N : Nat) (hf : P.funcs[f]? = some fn) (h : ∀ a, En N [] a (argE 0 l) → Wp none P c (mPost P fn S) a w) (hb : fn.body = some c := by rfl) (hn : l.length + (fn.ntmps - l.length) = N := by rfl) : Calls P f l.toArray w S :=
  enterM N hf hb hn fun a hz ha => h a ⟨hz, fun t v hv => by
    have := lk_argE l 0 t v hv
    exact ha t v (by simpa using this.2)⟩
end Go.V
end
section
namespace Go.Proofs.YtjkegckfncfoaaaGreat
open Go.V Go.Base
open Go.RowKit (Below)
attribute [local irreducible] Act.put Act.eval
set_option linter.unusedVariables false
set_option linter.unusedSimpArgs false
set_option maxHeartbeats 4000000 in
set_option maxRecDepth 20000 in
theorem items_N (w : World) (H : Nat → Prop) (av : List Nat) (t gA : Nat) (vsA : List Value) (T : Tb EntV) (hok : T.Ok) (hT : TabN 122 118 117 itI w H av t gA vsA T) (hHb : ∀ k, H k → k < w.heap.size) (hb : T.b.length = 0) : Calls Tryz.prog 73 #[.pointer (some ⟨t, 0, none⟩)] w (fun e w' => ∃ A c, e = .returned (.slice A T.n c) ∧ OwR itI NoZ w' w.heap.size 117 (.slice A T.n c) (T.a ++ T.b).flatten ∧ Fr [] w w') := by
 have hF := Fr.refl [] w
 have hok0 := hok
 have hsum := hok.sum
 obtain ⟨hsd, hpa, hla, hlb, hmv, hmz, hnn, hcn, hks⟩ := hok
 obtain ⟨hB, hRA, hlA, hK, hne, hpt, hpg⟩ := hT
 have hltt := hB.lt
 have hltg := hRA.lt
 refine V.en 19 Tryz.func73 fun a h1 => ?_
 refine V.sr h1 [] 2 2 [] fun a h4 => ?_
 refine V.seq fun K5 k6 => ?_
 refine V.sg fun K7 k8 => ?_
 refine V.run h4 [] 1 1 0 [(3, .pointer (some ⟨t, 0, none⟩))] fun a h9 => ?_
 refine V.cl h9 (Go.Proofs.enters_of Tryz.func64 (by kernel_rfl) rfl) (made_N w t T.seed T.a.length 0 0 gA 0 (.int .i64 (T.moved : Int)) (.int .i64 (T.n : Int)) hB) ?_
 rintro _ w11 ⟨rfl, hF10⟩
 refine ⟨_, rfl, fun a h12 => ?_⟩
 have hsw11 := hF10.size
 have hF_13 := hF.new hF10
 have hB_14 := hB.fr0 hF10
 have hRA_15 := hRA.fr0 hF10
 have hK_16 := hK.fr0 hF10
 refine V.re h12 [] 1 0 [(5, .bool false)] fun a h17 => k8 _ _ ?_
 refine V.cf h17 ?_
 refine V.skip ?_
 refine V.then_n (k6 _ _ ?_)
 refine V.seq fun K18 k19 => ?_
 refine V.pl [([0,1,2,3,4,6,7,8,9,10],some (5,[10])),([],some (11,[])),([],some (12,[])),([13],none)] fun w20 hF21 hsw20 => ?_
 have hF_22 := hF_13.new hF21
 have hB_23 := hB_14.fr0 hF21
 have hRA_24 := hRA_15.fr0 hF21
 have hK_25 := hK_16.fr0 hF21
 refine V.pe h17 [(4, .b hB_23 1), (4, .b hB_23 2)] 6 14 [(10, .slice (some ⟨gA, 0, none⟩) T.a.length T.a.length), (15, .pointer (some ⟨t, 2, none⟩)), (16, .slice none 0 0)] fun a h26 => ?_
 refine V.cl h26 (Go.Proofs.enters_of Tryz.func101 (by kernel_rfl) rfl) (concat_row w20 _ _ gA vsA ([]) T.a ([]) hRA_24 hlA hK_25 (fun k hk => by have := hHb k hk; omega) (by omega) (by omega)) ?_
 rintro _ w33 ⟨A27, c28, rfl, hO29, hF30⟩
 refine ⟨_, rfl, fun a h34 => ?_⟩
 have hsw33 := hF30.size
 have hF_35 := hF_22.new hF30
 have hB_36 := hB_23.fr0 hF30
 have hRA_37 := hRA_24.fr0 hF30
 have hK_38 := hK_25.fr0 hF30
 have hO29q := hO29.rebase (base' := w.heap.size) (by omega)
 refine V.eh (fun _ => held_blk (n := 1) (hx := (h26.e (v := (.pointer (some ⟨t, 2, none⟩))))) hB_23 hB_36 (by kernel_rfl) rfl (by simp only [List.length]; omega)) ?_
 refine V.pe h34 [] 1 0 [] fun a h39 => ?_
 refine V.cl h39 (Go.Proofs.enters_of Tryz.func101 (by kernel_rfl) rfl) (concat_nil w33) ?_
 rintro _ w45 ⟨A40, c41, rfl, hO42, hF43⟩
 refine ⟨_, rfl, fun a h46 => ?_⟩
 have hsw45 := hF43.size
 have hF_47 := hF_35.new hF43
 have hB_48 := hB_36.fr0 hF43
 have hRA_49 := hRA_37.fr0 hF43
 have hK_50 := hK_38.fr0 hF43
 have hO29q_51 := hO29q.fr0 hF43
 have hS44 := hO42.read (Z' := fun _ => True) (fun _ _ _ => trivial) (fun _ _ _ => trivial)
 refine V.eh trivial ?_
 refine V.pe h46 [] 1 0 [] fun a h52 => ?_
 refine V.go (V.appS (R := itI) (h52.e (v := (.slice A27 T.a.flatten.length c28))) (h52.e (v := (.slice A40 0 c41))) (by kernel_rfl) info117 (by kernel_rfl) (by decide) hO29q_51 hS44 (fun _ _ h => h) (by (try simp only [List.length_nil]); omega) (by decide) (by omega) ?_)
 intro A53 c54 w55 hO56 hF57
 have hsw55 := hF57.size
 have hF_58 := hF_47.own hF57 (own_ge hO29q_51 (by omega))
 have hB_59 := hB_48.fr hF57 (by first | exact own_notin hO29q_51 (by omega))
 have hRA_60 := hRA_49.fr hF57 (by first | exact own_notin hO29q_51 (by omega))
 have hK_61 := hK_50.frP (FrP.of hF57) (fun k hk => .inr (fun hq => by have h1 := hHb k hq; have h2 := own_ge hO29q_51 (Nat.le_refl _) k hk; omega))
 refine V.pt h52 fun a h62 => ?_
 refine V.eh trivial ?_
 refine V.pz h62 [] 1 0 [(2, .slice A53 ((T.a.flatten).length + (([] : List (ByteArray × EntV))).length) c54)] fun a h63 => k19 _ _ ?_
 refine V.ret ?_
 refine V.r1 h63 (.slice A53 ((T.a.flatten).length + (([] : List (ByteArray × EntV))).length) c54) ?_
 have hq : T.a.flatten ++ ([] : List (ByteArray × EntV)) = (T.a ++ T.b).flatten := by rw [List.flatten_append, List.eq_nil_of_length_eq_zero hb]; simp only [List.flatten_nil]
 have hn : (T.a.flatten).length + (([] : List (ByteArray × EntV))).length = T.n := by rw [← hok0.cn, ← hq]; simp
 rw [hn, hq] at hO56
 rw [hn]
 exact ⟨_, _, rfl, hO56, hF_58⟩
set_option maxHeartbeats 4000000 in
set_option maxRecDepth 20000 in
theorem items_M (w : World) (H : Nat → Prop) (av : List Nat) (t gA gB : Nat) (vsA vsB : List Value) (T : Tb EntV) (hok : T.Ok) (hT : TabM 122 118 117 itI w H av t gA gB vsA vsB T) (hHb : ∀ k, H k → k < w.heap.size) (hb : T.b.length ≠ 0) : Calls Tryz.prog 73 #[.pointer (some ⟨t, 0, none⟩)] w (fun e w' => ∃ A c, e = .returned (.slice A T.n c) ∧ OwR itI NoZ w' w.heap.size 117 (.slice A T.n c) (T.a ++ T.b).flatten ∧ Fr [] w w') := by
 have hF := Fr.refl [] w
 have hok0 := hok
 have hsum := hok.sum
 obtain ⟨hsd, hpa, hla, hlb, hmv, hmz, hnn, hcn, hks⟩ := hok
 obtain ⟨hB, hRA, hRB, hlA, hlB, hK, hne, hne2, hne3, hpt, hpg, hph⟩ := hT
 have hltg2 := hRB.lt
 have hltt := hB.lt
 have hltg := hRA.lt
 refine V.en 19 Tryz.func73 fun a h1 => ?_
 refine V.sr h1 [] 2 2 [] fun a h4 => ?_
 refine V.seq fun K5 k6 => ?_
 refine V.sg fun K7 k8 => ?_
 refine V.run h4 [] 1 1 0 [(3, .pointer (some ⟨t, 0, none⟩))] fun a h9 => ?_
 refine V.cl h9 (Go.Proofs.enters_of Tryz.func64 (by kernel_rfl) rfl) (made_M w t T.seed T.a.length T.b.length 0 gA gB (.int .i64 (T.moved : Int)) (.int .i64 (T.n : Int)) hB) ?_
 rintro _ w11 ⟨rfl, hF10⟩
 refine ⟨_, rfl, fun a h12 => ?_⟩
 have hsw11 := hF10.size
 have hF_13 := hF.new hF10
 have hB_14 := hB.fr0 hF10
 have hRA_15 := hRA.fr0 hF10
 have hRB_16 := hRB.fr0 hF10
 have hK_17 := hK.fr0 hF10
 refine V.re h12 [] 1 0 [(5, .bool false)] fun a h18 => k8 _ _ ?_
 refine V.cf h18 ?_
 refine V.skip ?_
 refine V.then_n (k6 _ _ ?_)
 refine V.seq fun K19 k20 => ?_
 refine V.pl [([0,1,2,3,4,6,7,8,9,10],some (5,[10])),([],some (11,[])),([],some (12,[])),([13],none)] fun w21 hF22 hsw21 => ?_
 have hF_23 := hF_13.new hF22
 have hB_24 := hB_14.fr0 hF22
 have hRA_25 := hRA_15.fr0 hF22
 have hRB_26 := hRB_16.fr0 hF22
 have hK_27 := hK_17.fr0 hF22
 refine V.pe h18 [(4, .b hB_24 1), (4, .b hB_24 2)] 6 14 [(10, .slice (some ⟨gA, 0, none⟩) T.a.length T.a.length), (15, .pointer (some ⟨t, 2, none⟩)), (16, .slice (some ⟨gB, 0, none⟩) T.b.length T.b.length)] fun a h28 => ?_
 refine V.cl h28 (Go.Proofs.enters_of Tryz.func101 (by kernel_rfl) rfl) (concat_row w21 _ _ gA vsA vsB T.a T.b hRA_25 hlA hK_27 (fun k hk => by have := hHb k hk; omega) (by omega) (by omega)) ?_
 rintro _ w35 ⟨A29, c30, rfl, hO31, hF32⟩
 refine ⟨_, rfl, fun a h36 => ?_⟩
 have hsw35 := hF32.size
 have hF_37 := hF_23.new hF32
 have hB_38 := hB_24.fr0 hF32
 have hRA_39 := hRA_25.fr0 hF32
 have hRB_40 := hRB_26.fr0 hF32
 have hK_41 := hK_27.fr0 hF32
 have hO31q := hO31.rebase (base' := w.heap.size) (by omega)
 refine V.eh (fun _ => held_blk (n := 1) (hx := (h28.e (v := (.pointer (some ⟨t, 2, none⟩))))) hB_24 hB_38 (by kernel_rfl) rfl (by simp only [List.length]; omega)) ?_
 refine V.pe h36 [] 1 0 [] fun a h42 => ?_
 refine V.cl h42 (Go.Proofs.enters_of Tryz.func101 (by kernel_rfl) rfl) (concat_row w35 _ _ gB vsB [] T.b [] hRB_40 hlB (by have h := hK_41.dropNil hlA; rw [List.append_nil, List.append_nil]; exact h) (fun k hk => by have := hHb k hk; omega) (by omega) (by omega)) ?_
 rintro _ w49 ⟨A43, c44, rfl, hO45, hF46⟩
 refine ⟨_, rfl, fun a h50 => ?_⟩
 have hsw49 := hF46.size
 have hF_51 := hF_37.new hF46
 have hB_52 := hB_38.fr0 hF46
 have hRA_53 := hRA_39.fr0 hF46
 have hRB_54 := hRB_40.fr0 hF46
 have hK_55 := hK_41.fr0 hF46
 have hO31q_56 := hO31q.fr0 hF46
 have hS47 := hO45.read (Z' := fun _ => True) (fun _ _ _ => trivial) (fun _ _ _ => trivial)
 refine V.eh trivial ?_
 refine V.pe h50 [] 1 0 [] fun a h57 => ?_
 refine V.go (V.appS (R := itI) (h57.e (v := (.slice A29 T.a.flatten.length c30))) (h57.e (v := (.slice A43 T.b.flatten.length c44))) (by kernel_rfl) info117 (by kernel_rfl) (by decide) hO31q_56 hS47 (fun _ _ h => h) (by (try simp only [List.length_nil]); omega) (by decide) (by omega) ?_)
 intro A58 c59 w60 hO61 hF62
 have hsw60 := hF62.size
 have hF_63 := hF_51.own hF62 (own_ge hO31q_56 (by omega))
 have hB_64 := hB_52.fr hF62 (by first | exact own_notin hO31q_56 (by omega))
 have hRA_65 := hRA_53.fr hF62 (by first | exact own_notin hO31q_56 (by omega))
 have hRB_66 := hRB_54.fr hF62 (by first | exact own_notin hO31q_56 (by omega))
 have hK_67 := hK_55.frP (FrP.of hF62) (fun k hk => .inr (fun hq => by have h1 := hHb k hq; have h2 := own_ge hO31q_56 (Nat.le_refl _) k hk; omega))
 refine V.pt h57 fun a h68 => ?_
 refine V.eh trivial ?_
 refine V.pz h68 [] 1 0 [(2, .slice A58 ((T.a.flatten).length + (T.b.flatten).length) c59)] fun a h69 => k20 _ _ ?_
 refine V.ret ?_
 refine V.r1 h69 (.slice A58 ((T.a.flatten).length + (T.b.flatten).length) c59) ?_
 have hq : T.a.flatten ++ T.b.flatten = (T.a ++ T.b).flatten := by rw [List.flatten_append]
 have hn : (T.a.flatten).length + (T.b.flatten).length = T.n := by rw [← hok0.cn, ← hq]; simp
 rw [hn, hq] at hO61
 rw [hn]
 exact ⟨_, _, rfl, hO61, hF_63⟩
theorem items_any (w : World) (H : Nat → Prop) (av : List Nat) (t : Nat) (T : Tb EntV) (hT : TabX 122 118 117 itI w H av t T) (hHb : ∀ k, H k → k < w.heap.size) :
    Calls Tryz.prog 73 #[.pointer (some ⟨t, 0, none⟩)] w (fun e w' => ∃ A c, e = .returned (.slice A T.n c) ∧ OwR itI NoZ w' w.heap.size 117 (.slice A T.n c) (T.a ++ T.b).flatten ∧ Fr [] w w') := by
  rcases hT.2 with ⟨hb, gA, vsA, h⟩ | ⟨hb, gA, gB, vsA, vsB, h⟩
  · exact items_N w H av t gA vsA T hT.1 h hHb (by rw [hb]; rfl)
  · exact items_M w H av t gA gB vsA vsB T hT.1 h hHb (fun h => hb (List.eq_nil_of_length_eq_zero h))
set_option maxHeartbeats 4000000 in
set_option maxRecDepth 20000 in
theorem all_any (w : World) (q : Option Addr) : Calls Tryz.prog 41 #[.pointer q] w (fun e w' => ∃ b, e = .returned (.func (.func 72) #[] #[.pointer (some ⟨b, 0, none⟩)]) ∧ Blk w' b [.pointer q] 61 ∧ w.heap.size ≤ b ∧ Fr [] w w') := by
 have hF := Fr.refl [] w
 refine V.en 4 Tryz.func41 fun a h1 => ?_
 refine V.sg fun K2 k3 => ?_
 refine V.go (V.mk [(0, .pointer q)] ⟨h1.e, trivial⟩ (by kernel_rfl) [.pointer q] 61 (fun b => .pointer (some ⟨b, 0, none⟩)) (by kernel_rfl) ?_)
 intro w5 b4 heb4 hB6 hF7 hsb4
 have hF_8 := hF.new hF7
 refine V.pt h1 fun a h9 => ?_
 refine V.re h9 [] 2 2 [] fun a h10 => k3 _ _ ?_
 refine V.sr h10 [] 3 3 [(2, .func (.func 72) #[] #[.pointer (some ⟨b4, 0, none⟩)])] fun a h13 => ?_
 refine V.ret ?_
 refine V.r1 h13 (.func (.func 72) #[] #[.pointer (some ⟨b4, 0, none⟩)]) ?_
 exact ⟨b4, rfl, hB6, by omega, hF_8⟩
set_option maxHeartbeats 4000000 in
set_option maxRecDepth 20000 in
theorem all1_any (w : World) (H : Nat → Prop) (av : List Nat) (t : Nat) (T : Tb EntV) (hT : TabX 122 118 117 itI w H av t T) (hHb : ∀ k, H k → k < w.heap.size) (b : Nat) (hB : Blk w b [.pointer (some ⟨t, 0, none⟩)] 61) (fv : Value) (I Ix : Nat → List (ByteArray × EntV) → World → Prop) (hI : ∀ n pre W W', I n pre W → Fr [] W W' → I n pre W') (h0 : ∀ W1, Fr [] w W1 → I W1.heap.size [] W1) (hY : ∀ n pre x W, w.heap.size ≤ n → n ≤ W.heap.size → I n pre W → (∃ rest, pre ++ x :: rest = (T.a ++ T.b).flatten) → CallV Tryz.prog fv #[.string x.1, .agg #[.int .i64 x.2.kind, .string x.2.s, .slice x.2.l.a x.2.l.n x.2.l.c, .slice x.2.z.a x.2.z.n x.2.z.c, .slice x.2.h.a x.2.h.n x.2.h.c, .int .i64 x.2.till]] W (fun e W' => (e = .returned (.bool true) ∧ I n (pre ++ [x]) W' ∧ KeptP (fun k => w.heap.size ≤ k ∧ k < n) W W') ∨ (e = .returned (.bool false) ∧ Ix n (pre ++ [x]) W'))) : Calls Tryz.prog 72 #[fv, .pointer (some ⟨b, 0, none⟩)] w (fun e w' => (∃ v, e = .returned v) ∧ ((∃ n, w.heap.size ≤ n ∧ I n (T.a ++ T.b).flatten w') ∨ (∃ n pre, w.heap.size ≤ n ∧ (∃ rest, pre ++ rest = (T.a ++ T.b).flatten) ∧ Ix n pre w'))) := by
 have hF := Fr.refl [] w
 refine V.en 20 Tryz.func72 fun a h1 => ?_
 refine V.sg fun K2 k3 => ?_
 refine V.run h1 [(0, .b hB 0)] 1 1 0 [(5, .pointer (some ⟨t, 0, none⟩))] fun a h4 => ?_
 refine V.cl h4 (Go.Proofs.enters_of Tryz.func73 (by kernel_rfl) rfl) (items_any w (H) (av) t (T) hT (fun k hk => by have := hHb k hk; omega)) ?_
 rintro _ w10 ⟨A5, c6, rfl, hO7, hF8⟩
 refine ⟨_, rfl, fun a h11 => ?_⟩
 have hsw10 := hF8.size
 have hF_12 := hF.new hF8
 obtain ⟨n, hn⟩ : ∃ n, n = w10.heap.size := ⟨_, rfl⟩
 have hS := hO7.read (Z' := fun k => w.heap.size ≤ k ∧ k < n) (fun _ _ h => h.elim) (fun b hb hl => ⟨hb, by omega⟩)
 have hcn := hT.1.cn
 have hnn := hT.1.nn
 refine V.re h11 [] 1 0 [(7, .int .i64 ((T.n : Nat) : Int)), (8, .int .i64 0)] fun a h13 => k3 _ _ ?_
 refine V.block ?_
 refine V.loop2 (fun (i : Nat) (W0 : World) a_ w_ => En 20 [] a_ [(0, fv), (6, .slice A5 T.n c6), (7, .int .i64 ((T.n : Nat) : Int)), (8, .int .i64 (i : Int))] ∧ Fr [] W0 w_ ∧ SlR itI (fun k => w.heap.size ≤ k ∧ k < n) w_ (.slice A5 T.n c6) ((T.a ++ T.b).flatten) ∧ (i ≤ (T.a ++ T.b).flatten.length) ∧ (w.heap.size ≤ n) ∧ (n ≤ W0.heap.size) ∧ (I n ((T.a ++ T.b).flatten.take i) W0)) (fun (i : Nat) (W0 : World) => (T.a ++ T.b).flatten.length - i) 0 w10 ?_ ?_
 ·
  refine ⟨(h13.eq 8 (v := (.int .i64 0)) (u := (.int .i64 (0 : Int))) (V.int_eq (by omega))).only _, (Fr.refl [] _), hS, (by omega), (by omega), (by omega), (by rw [hn]; exact h0 _ hF_12)⟩
 ·
  rintro i W0 a14 w15 ⟨h16, hFr_17, hS_18, hi, hn0, hnl, hJ⟩
  have hfs19 := hFr_17.size
  refine V.sr h16 [] 1 0 [(9, .bool (decide ((i : Int) < ((T.n : Nat) : Int))))] fun a h22 => ?_
  refine V.seq fun K23 k24 => ?_
  refine V.cp h22 ((i : Int) < ((T.n : Nat) : Int)) (fun ht25 => ?_) (fun ht25 => ?_)
  ·
   refine V.skip ?_
   refine V.then_n (k24 _ _ ?_)
   refine V.seq fun K26 k27 => ?_
   refine V.block ?_
   obtain ⟨g30, o31, hA32, hA32l, hA32z⟩ := hS_18.addr (by omega)
   try dsimp only at hA32z
   obtain ⟨cs33, hok34, hE35⟩ := hS_18.els hA32 (i : Int) (by omega) (by omega)
   refine V.sg fun K28 k29 => ?_
   refine V.run h22 [(0, .ix g30 o31 T.n c6 .i64 (i : Int) 7 hA32)] 1 1 0 [(10, .pointer (some ⟨g30, o31 + (i : Int).toNat * 7, none⟩))] fun a h36 => ?_
   obtain rfl : cs33 = [.string (at_ itI ((T.a ++ T.b).flatten) (i : Int)).1, .int .i64 (at_ itI ((T.a ++ T.b).flatten) (i : Int)).2.kind, .string (at_ itI ((T.a ++ T.b).flatten) (i : Int)).2.s, .slice (at_ itI ((T.a ++ T.b).flatten) (i : Int)).2.l.a (at_ itI ((T.a ++ T.b).flatten) (i : Int)).2.l.n (at_ itI ((T.a ++ T.b).flatten) (i : Int)).2.l.c, .slice (at_ itI ((T.a ++ T.b).flatten) (i : Int)).2.z.a (at_ itI ((T.a ++ T.b).flatten) (i : Int)).2.z.n (at_ itI ((T.a ++ T.b).flatten) (i : Int)).2.z.c, .slice (at_ itI ((T.a ++ T.b).flatten) (i : Int)).2.h.a (at_ itI ((T.a ++ T.b).flatten) (i : Int)).2.h.n (at_ itI ((T.a ++ T.b).flatten) (i : Int)).2.h.c, .int .i64 (at_ itI ((T.a ++ T.b).flatten) (i : Int)).2.till] := hok34
   refine V.run h36 [(0, .ls ⟨g30, o31 + (i : Int).toNat * 7, none⟩ [.string ((at_ itI ((T.a ++ T.b).flatten) (i : Int)).1), .int .i64 (((at_ itI ((T.a ++ T.b).flatten) (i : Int)).2).kind), .string (((at_ itI ((T.a ++ T.b).flatten) (i : Int)).2).s), .slice (((at_ itI ((T.a ++ T.b).flatten) (i : Int)).2).l.a) (((at_ itI ((T.a ++ T.b).flatten) (i : Int)).2).l.n) (((at_ itI ((T.a ++ T.b).flatten) (i : Int)).2).l.c), .slice (((at_ itI ((T.a ++ T.b).flatten) (i : Int)).2).z.a) (((at_ itI ((T.a ++ T.b).flatten) (i : Int)).2).z.n) (((at_ itI ((T.a ++ T.b).flatten) (i : Int)).2).z.c), .slice (((at_ itI ((T.a ++ T.b).flatten) (i : Int)).2).h.a) (((at_ itI ((T.a ++ T.b).flatten) (i : Int)).2).h.n) (((at_ itI ((T.a ++ T.b).flatten) (i : Int)).2).h.c), .int .i64 (((at_ itI ((T.a ++ T.b).flatten) (i : Int)).2).till)] (hE35.cells 0 _ rfl))] 1 1 0 [(11, .agg #[.string ((at_ itI ((T.a ++ T.b).flatten) (i : Int)).1), .int .i64 (((at_ itI ((T.a ++ T.b).flatten) (i : Int)).2).kind), .string (((at_ itI ((T.a ++ T.b).flatten) (i : Int)).2).s), .slice (((at_ itI ((T.a ++ T.b).flatten) (i : Int)).2).l.a) (((at_ itI ((T.a ++ T.b).flatten) (i : Int)).2).l.n) (((at_ itI ((T.a ++ T.b).flatten) (i : Int)).2).l.c), .slice (((at_ itI ((T.a ++ T.b).flatten) (i : Int)).2).z.a) (((at_ itI ((T.a ++ T.b).flatten) (i : Int)).2).z.n) (((at_ itI ((T.a ++ T.b).flatten) (i : Int)).2).z.c), .slice (((at_ itI ((T.a ++ T.b).flatten) (i : Int)).2).h.a) (((at_ itI ((T.a ++ T.b).flatten) (i : Int)).2).h.n) (((at_ itI ((T.a ++ T.b).flatten) (i : Int)).2).h.c), .int .i64 (((at_ itI ((T.a ++ T.b).flatten) (i : Int)).2).till)])] fun a h41 => ?_
   refine V.go (V.mk [] trivial (by kernel_rfl) [.string ⟨#[]⟩, .int .i64 0, .string ⟨#[]⟩, .slice none 0 0, .slice none 0 0, .slice none 0 0, .int .i64 0] 117 (fun b => .pointer (some ⟨b, 0, none⟩)) (by kernel_rfl) ?_)
   intro w38 b37 heb37 hB39 hF40 hsb37
   have hFr_42 := hFr_17.new hF40
   have hS_43 := hS_18.fr0 hF40
   have hE35_44 := hE35.fr0 hF40
   refine V.pt h41 fun a h45 => ?_
   refine V.go (V.stn b37 0 (.agg #[.string ((at_ itI ((T.a ++ T.b).flatten) (i : Int)).1), .int .i64 (((at_ itI ((T.a ++ T.b).flatten) (i : Int)).2).kind), .string (((at_ itI ((T.a ++ T.b).flatten) (i : Int)).2).s), .slice (((at_ itI ((T.a ++ T.b).flatten) (i : Int)).2).l.a) (((at_ itI ((T.a ++ T.b).flatten) (i : Int)).2).l.n) (((at_ itI ((T.a ++ T.b).flatten) (i : Int)).2).l.c), .slice (((at_ itI ((T.a ++ T.b).flatten) (i : Int)).2).z.a) (((at_ itI ((T.a ++ T.b).flatten) (i : Int)).2).z.n) (((at_ itI ((T.a ++ T.b).flatten) (i : Int)).2).z.c), .slice (((at_ itI ((T.a ++ T.b).flatten) (i : Int)).2).h.a) (((at_ itI ((T.a ++ T.b).flatten) (i : Int)).2).h.n) (((at_ itI ((T.a ++ T.b).flatten) (i : Int)).2).h.c), .int .i64 (((at_ itI ((T.a ++ T.b).flatten) (i : Int)).2).till)]) [.string ((at_ itI ((T.a ++ T.b).flatten) (i : Int)).1), .int .i64 (((at_ itI ((T.a ++ T.b).flatten) (i : Int)).2).kind), .string (((at_ itI ((T.a ++ T.b).flatten) (i : Int)).2).s), .slice (((at_ itI ((T.a ++ T.b).flatten) (i : Int)).2).l.a) (((at_ itI ((T.a ++ T.b).flatten) (i : Int)).2).l.n) (((at_ itI ((T.a ++ T.b).flatten) (i : Int)).2).l.c), .slice (((at_ itI ((T.a ++ T.b).flatten) (i : Int)).2).z.a) (((at_ itI ((T.a ++ T.b).flatten) (i : Int)).2).z.n) (((at_ itI ((T.a ++ T.b).flatten) (i : Int)).2).z.c), .slice (((at_ itI ((T.a ++ T.b).flatten) (i : Int)).2).h.a) (((at_ itI ((T.a ++ T.b).flatten) (i : Int)).2).h.n) (((at_ itI ((T.a ++ T.b).flatten) (i : Int)).2).h.c), .int .i64 (((at_ itI ((T.a ++ T.b).flatten) (i : Int)).2).till)] h45.e h45.e rfl rfl (by kernel_rfl) hB39 (by simp) [.string ((at_ itI ((T.a ++ T.b).flatten) (i : Int)).1), .int .i64 (((at_ itI ((T.a ++ T.b).flatten) (i : Int)).2).kind), .string (((at_ itI ((T.a ++ T.b).flatten) (i : Int)).2).s), .slice (((at_ itI ((T.a ++ T.b).flatten) (i : Int)).2).l.a) (((at_ itI ((T.a ++ T.b).flatten) (i : Int)).2).l.n) (((at_ itI ((T.a ++ T.b).flatten) (i : Int)).2).l.c), .slice (((at_ itI ((T.a ++ T.b).flatten) (i : Int)).2).z.a) (((at_ itI ((T.a ++ T.b).flatten) (i : Int)).2).z.n) (((at_ itI ((T.a ++ T.b).flatten) (i : Int)).2).z.c), .slice (((at_ itI ((T.a ++ T.b).flatten) (i : Int)).2).h.a) (((at_ itI ((T.a ++ T.b).flatten) (i : Int)).2).h.n) (((at_ itI ((T.a ++ T.b).flatten) (i : Int)).2).h.c), .int .i64 (((at_ itI ((T.a ++ T.b).flatten) (i : Int)).2).till)] rfl ?_)
   intro w46 hB47 hF48 hsw46
   have hFr_49 := hFr_42.own hF48 (by simp <;> omega)
   have hS_50 := hS_43.fr hF48 (by simp <;> omega)
   have hE35_51 := hE35_44.fr hF48 (by simp <;> omega)
   refine V.nt (k29 _ _ ?_)
   refine V.sg fun K52 k53 => ?_
   refine V.run h45 [(2, .b hB47 0), (1, .bs hB47 1 [.int .i64 (((at_ itI ((T.a ++ T.b).flatten) (i : Int)).2).kind), .string (((at_ itI ((T.a ++ T.b).flatten) (i : Int)).2).s), .slice (((at_ itI ((T.a ++ T.b).flatten) (i : Int)).2).l.a) (((at_ itI ((T.a ++ T.b).flatten) (i : Int)).2).l.n) (((at_ itI ((T.a ++ T.b).flatten) (i : Int)).2).l.c), .slice (((at_ itI ((T.a ++ T.b).flatten) (i : Int)).2).z.a) (((at_ itI ((T.a ++ T.b).flatten) (i : Int)).2).z.n) (((at_ itI ((T.a ++ T.b).flatten) (i : Int)).2).z.c), .slice (((at_ itI ((T.a ++ T.b).flatten) (i : Int)).2).h.a) (((at_ itI ((T.a ++ T.b).flatten) (i : Int)).2).h.n) (((at_ itI ((T.a ++ T.b).flatten) (i : Int)).2).h.c), .int .i64 (((at_ itI ((T.a ++ T.b).flatten) (i : Int)).2).till)])] 5 13 15 [(12, fv), (14, .string ((at_ itI ((T.a ++ T.b).flatten) (i : Int)).1)), (16, .agg #[.int .i64 (((at_ itI ((T.a ++ T.b).flatten) (i : Int)).2).kind), .string (((at_ itI ((T.a ++ T.b).flatten) (i : Int)).2).s), .slice (((at_ itI ((T.a ++ T.b).flatten) (i : Int)).2).l.a) (((at_ itI ((T.a ++ T.b).flatten) (i : Int)).2).l.n) (((at_ itI ((T.a ++ T.b).flatten) (i : Int)).2).l.c), .slice (((at_ itI ((T.a ++ T.b).flatten) (i : Int)).2).z.a) (((at_ itI ((T.a ++ T.b).flatten) (i : Int)).2).z.n) (((at_ itI ((T.a ++ T.b).flatten) (i : Int)).2).z.c), .slice (((at_ itI ((T.a ++ T.b).flatten) (i : Int)).2).h.a) (((at_ itI ((T.a ++ T.b).flatten) (i : Int)).2).h.n) (((at_ itI ((T.a ++ T.b).flatten) (i : Int)).2).h.c), .int .i64 (((at_ itI ((T.a ++ T.b).flatten) (i : Int)).2).till)])] fun a h55 => ?_
   have htk := take_at itI (l := (T.a ++ T.b).flatten) (k := i) (by omega)
   have hcall := hY n ((T.a ++ T.b).flatten.take i) (at_ itI (T.a ++ T.b).flatten (i : Int)) w46 hn0 (by omega) (hI _ _ _ _ hJ hFr_49) ⟨_, by rw [List.append_cons, ← htk]; exact List.take_append_drop (i + 1) _⟩
   refine V.go (V.callV fv #[.string ((at_ itI ((T.a ++ T.b).flatten) (i : Int)).1), .agg #[.int .i64 (((at_ itI ((T.a ++ T.b).flatten) (i : Int)).2).kind), .string (((at_ itI ((T.a ++ T.b).flatten) (i : Int)).2).s), .slice (((at_ itI ((T.a ++ T.b).flatten) (i : Int)).2).l.a) (((at_ itI ((T.a ++ T.b).flatten) (i : Int)).2).l.n) (((at_ itI ((T.a ++ T.b).flatten) (i : Int)).2).l.c), .slice (((at_ itI ((T.a ++ T.b).flatten) (i : Int)).2).z.a) (((at_ itI ((T.a ++ T.b).flatten) (i : Int)).2).z.n) (((at_ itI ((T.a ++ T.b).flatten) (i : Int)).2).z.c), .slice (((at_ itI ((T.a ++ T.b).flatten) (i : Int)).2).h.a) (((at_ itI ((T.a ++ T.b).flatten) (i : Int)).2).h.n) (((at_ itI ((T.a ++ T.b).flatten) (i : Int)).2).h.c), .int .i64 (((at_ itI ((T.a ++ T.b).flatten) (i : Int)).2).till)]] (h55.e (v := (fv))) (args2 (h55.e (v := (.string ((at_ itI ((T.a ++ T.b).flatten) (i : Int)).1)))) (h55.e (v := (.agg #[.int .i64 (((at_ itI ((T.a ++ T.b).flatten) (i : Int)).2).kind), .string (((at_ itI ((T.a ++ T.b).flatten) (i : Int)).2).s), .slice (((at_ itI ((T.a ++ T.b).flatten) (i : Int)).2).l.a) (((at_ itI ((T.a ++ T.b).flatten) (i : Int)).2).l.n) (((at_ itI ((T.a ++ T.b).flatten) (i : Int)).2).l.c), .slice (((at_ itI ((T.a ++ T.b).flatten) (i : Int)).2).z.a) (((at_ itI ((T.a ++ T.b).flatten) (i : Int)).2).z.n) (((at_ itI ((T.a ++ T.b).flatten) (i : Int)).2).z.c), .slice (((at_ itI ((T.a ++ T.b).flatten) (i : Int)).2).h.a) (((at_ itI ((T.a ++ T.b).flatten) (i : Int)).2).h.n) (((at_ itI ((T.a ++ T.b).flatten) (i : Int)).2).h.c), .int .i64 (((at_ itI ((T.a ++ T.b).flatten) (i : Int)).2).till)])))) hcall ?_)
   rintro e w54 (⟨rfl, hJ1, hkp⟩ | ⟨rfl, hJx⟩)
   ·
    refine ⟨_, rfl, ?_⟩
    rw [← htk] at hJ1
    have hS56 := hS_50.kept hkp (fun k hk => hk)
    refine V.pt h55 fun a h57 => ?_
    refine V.re h57 [] 1 0 [(18, .bool false)] fun a h58 => k53 _ _ ?_
    refine V.cf h58 ?_
    refine V.skip ?_
    refine V.blk_n ?_
    refine V.then_n (k27 _ _ ?_)
    refine V.rr h58 [(0, .i ((i : Int) + 1))] 19 19 [(8, .int .i64 ((i : Int) + 1))] fun a h59 => ?_
    refine V.then_n ?_
    refine ⟨i + 1, w54, by omega, ?_⟩
    refine ⟨(h59.eq 8 (v := (.int .i64 ((i : Int) + 1))) (u := (.int .i64 ((i + 1) : Int))) (V.int_eq (by omega))).only _, (Fr.refl [] _), hS56, (by omega), (by omega), (by have := hkp.1; omega), hJ1⟩
   ·
    refine ⟨_, rfl, ?_⟩
    rw [← htk] at hJx
    refine V.pt h55 fun a h60 => ?_
    refine V.re h60 [] 1 0 [(18, .bool true)] fun a h61 => k53 _ _ ?_
    refine V.ct h61 ?_
    refine V.ret ?_
    refine V.blk_r ?_
    refine V.then_r ?_
    refine V.then_r ?_
    refine V.blk_r ?_
    refine V.r0 h61 ?_
    exact ⟨⟨_, rfl⟩, .inr ⟨n, _, hn0, ⟨_, List.take_append_drop (i + 1) _⟩, hJx⟩⟩
  ·
   refine V.exit ?_
   refine V.then_e ?_
   refine V.then_e ?_
   refine V.blk_hit ?_
   refine V.e0 h22 ?_
   exact ⟨⟨_, rfl⟩, .inl ⟨n, hn0, by have h := hI _ _ _ _ hJ hFr_17; rwa [List.take_of_length_le (by omega)] at h⟩⟩
def encP (x : ByteArray × EntV) : Array Value := #[.string x.1, .agg #[.int .i64 x.2.kind, .string x.2.s, .slice x.2.l.a x.2.l.n x.2.l.c, .slice x.2.z.a x.2.z.n x.2.z.c, .slice x.2.h.a x.2.h.n x.2.h.c, .int .i64 x.2.till]]
theorem all1_iter (w : World) (H : Nat → Prop) (av : List Nat) (t : Nat) (T : Tb EntV) (hT : TabX 122 118 117 itI w H av t T) (hHb : ∀ k, H k → k < w.heap.size) (b : Nat) (hB : Blk w b [.pointer (some ⟨t, 0, none⟩)] 61) :
    IterP Tryz.prog 72 #[.pointer (some ⟨b, 0, none⟩)] encP (fun _ _ _ => True) (fun xs => xs = (T.a ++ T.b).flatten) (fun pre => ∃ rest, pre ++ rest = (T.a ++ T.b).flatten) (fun k => k = b ∨ w.heap.size + 2 ≤ k) w := by
  intro W1 f hsz l J Jx hY h0
  refine (all1_any W1 H av t T (hT.fr0 f) (fun k hk => by have := hHb k hk; omega) b (hB.fr0 f) (.func (.yield l) #[] #[]) (fun n pre W => ∃ W0, J pre W0 ∧ Fr [] W0 W) (fun n pre W => Jx pre W) ?_ ?_ ?_).mono ?_
  · rintro n pre W W' ⟨W0, hj, hf⟩ f'
    exact ⟨W0, hj, hf.trans f' (by simp)⟩
  · intro W2 f'
    exact ⟨W1, h0, f'⟩
  · rintro n pre x W hn hnl ⟨W0, hj, hf⟩ ⟨rest, hr⟩
    refine .inl ⟨l, rfl, (hY pre x W0 W hj hf trivial ⟨rest, by simpa using hr⟩).mono ?_⟩
    rintro e W' (⟨he, hj', hk⟩ | ⟨he, hj'⟩)
    · exact .inl ⟨he, ⟨W', hj', Fr.refl _ _⟩, hk.1, fun k hlt hK => hk.2 k hlt (.inr (by omega))⟩
    · exact .inr ⟨he, hj'⟩
  · rintro e W' ⟨he, ⟨n, hn, W0, hj, hf⟩ | ⟨n, pre, hn, hp, hj⟩⟩
    · exact ⟨he, .inl ⟨_, W0, rfl, hj, hf⟩⟩
    · exact ⟨he, .inr ⟨pre, W', hp, hj, Fr.refl _ _⟩⟩
end Go.Proofs.YtjkegckfncfoaaaGreat
end
section
namespace Go.V
open Go.Plan (FW)
open Go.RowKit Go.Base
set_option linter.unusedVariables false
set_option linter.unusedSimpArgs false
def rPostQ {α : Type} (KB : Nat → Prop) (I : List α → World → Prop) (Ix : Code → List α → World → Prop) (s : List α) (W : World) : Exit → Act → World → Prop
  | .normal, _, W' => KeptP KB W W' ∧ I s W'
  | .ret, _, W' => KeptP KB W W' ∧ Ix .ret s W'
  | .exit i, _, W' => KeptP KB W W' ∧ Ix (.exit i) s W'
  | .goto t, _, W' => KeptP KB W W' ∧ Ix (.goto t) s W'
  | _, _, _ => False
/-- What an iterator promises of the world w: whoever is told of the data one by one, and keeps the blocks of KB n; n: where the iterator's own blocks end. -/
def IterQ {α : Type} (P : Program) (gf : Nat) (lb : Array Value) (encs : α → Array Value) (S Sp : List α → Prop) (KB : Nat → Nat → Prop) (w : World) : Prop :=
  ∀ (W1 : World), Fr [] w W1 → w.heap.size + 2 ≤ W1.heap.size → ∀ (l : Nat) (J Jx : Nat → List α → World → Prop),
    (∀ n pre x W0 W, W1.heap.size ≤ n → n ≤ W.heap.size → J n pre W0 → Fr [] W0 W → Sp (pre ++ [x]) → Yld P l (encs x) W (fun e W' => (e = .returned (.bool true) ∧ J n (pre ++ [x]) W' ∧ KeptP (KB n) W W') ∨ (e = .returned (.bool false) ∧ Jx n (pre ++ [x]) W'))) →
    (∀ W2, Fr [] W1 W2 → J W2.heap.size [] W2) → Calls P gf (#[.func (.yield l) #[] #[]] ++ lb) W1 (fun e W' => (∃ v, e = .returned v) ∧ ((∃ n xs W2, W1.heap.size ≤ n ∧ S xs ∧ J n xs W2 ∧ Fr [] W2 W') ∨ (∃ n pre W2, W1.heap.size ≤ n ∧ Sp pre ∧ Jx n pre W2 ∧ Fr [] W2 W')))
section
variable {P : Program} {Q : Exit → Act → World → Prop} {a : Act} {w : World}
theorem rngQ {α : Type} {g : Operand} {ps : Array Tmp} {assign body : Code} {N : Nat} (hz : Sz N a) {gf : Nat} {lb : Array Value} (hg : a.eval g = .func (.func gf) #[] lb) (eg : ∀ args w, (callFunc gf args).run P w = .ok (.enter gf args) w)
    {encs : α → Array Value} {S Sp : List α → Prop} {KB : Nat → Nat → Prop} (hKB : ∀ n k, w.heap.size + 2 ≤ n → KB n k → k ≠ w.heap.size ∧ k ≠ w.heap.size + 1) (hit : IterQ P gf lb encs S Sp KB w) (hps : ∀ x, (encs x).size = ps.size)
    (I : Nat → List α → World → Prop) (Ix : Code → Nat → List α → World → Prop) (hI : ∀ n pre W W', I n pre W → Fr [w.heap.size + 1] W W' → I n pre W') (hIx : ∀ c n pre W W', Ix c n pre W → Fr [w.heap.size + 1] W W' → Ix c n pre W')
    (h0 : ∀ W, Fr [] w W → w.heap.size + 2 ≤ W.heap.size → I W.heap.size [] W)
    (hbody : ∀ (l n : Nat) (pre : List α) (x : α) (W0 W : World), l = w.heap.size + 1 → w.heap.size + 2 ≤ n → n ≤ W.heap.size → I n pre W0 → Fr [] W0 W → Sp (pre ++ [x]) → w.heap.size + 2 ≤ W0.heap.size →
      ∀ a1, Sz N a1 → a1.tmps = (ps.zip (encs x)).foldl (fun t (p, v) => t.setIfInBounds p v) a.tmps →
        Wp (some l) P assign (Exit.then (fun a2 W1 => KeptP (fun k => k = w.heap.size ∨ k = l ∨ KB n k) W W1 ∧ ∀ W2, Fr [l] W1 W2 → Wp (some l) P body (rPostQ (fun k => k = w.heap.size ∨ k = l ∨ KB n k) (I n) (fun c => Ix c n) (pre ++ [x]) W2) a2 W2) (fun _ _ _ => False)) a1 W)
    (hdone : ∀ (n : Nat) (xs : List α) (W : World), w.heap.size + 2 ≤ n → S xs → I n xs W → W.heap[w.heap.size]? = some (.deferred (some [])) → ∀ a1, Sd N [{ target := .collected w.heap.size, args := #[] }] a1 → a1.tmps = a.tmps → Q .normal a1 W)
    (hstop : ∀ (c : Code) (n : Nat) (pre : List α) (W : World), w.heap.size + 2 ≤ n → Sp pre → Ix c n pre W → W.heap[w.heap.size]? = some (.deferred (some [])) → ∀ a1, Sd N [{ target := .collected w.heap.size, args := #[] }] a1 → a1.tmps = a.tmps → Wp none P c Q a1 W) :
    Wp none P (.rangeFunc g ps assign body) Q a w := by
  unfold Wp
  refine wpIn_rangeFunc ?_
  intro fn hfn
  obtain ⟨rec, hrec⟩ : ∃ rec : LoopState → Option Code → Loop, rec = fun st pe => { state := st, pending := pe, fn, tmps := a.tmps, params := ps, assign, body, defers := w.heap.size } := ⟨_, rfl⟩
  obtain ⟨W1, hW1⟩ : ∃ W1, (w.alloc (.deferred (some []))).alloc (.loop (rec .ready none)) = W1 := ⟨_, rfl⟩
  have hs1 : W1.heap.size = w.heap.size + 2 := by rw [← hW1]; simp
  have hL1 : W1.heap[w.heap.size + 1]? = some (.loop (rec .ready none)) := by
    rw [← hW1]; have := World.alloc_heap_new (w.alloc (.deferred (some []))) (.loop (rec .ready none)); rwa [World.size_alloc] at this
  have hK1 : W1.heap[w.heap.size]? = some (.deferred (some [])) := by
    rw [← hW1]; exact (Below.heap_alloc _ _ _ (by simp)).trans (World.alloc_heap_new w _)
  have hF1 : Fr [] w W1 := by rw [← hW1]; exact (Fr.alloc [] w _).new (Fr.alloc [] _ _)
  refine ⟨w.heap.size + 1, [{ target := .collected w.heap.size, args := #[] }], W1, { target := .fn (.func gf) lb, args := #[.func (.yield (w.heap.size + 1)) #[] #[]] }, W1, gf,
    #[.func (.yield (w.heap.size + 1)) #[] #[]] ++ lb, W1, ?_, ?_, (fun _ _ => trivial), ?_, (fun h => by cases h), ?_⟩
  · rw [← hW1, hrec]; exact run_enterLoop_outer _ _ _ _ _
  · simp only [resolve, hg]
    simp [go_sem]
  · simp [invoke, go_sem, eg]
  · refine (callsFW (ro := none) (hit W1 hF1 (by omega) (w.heap.size + 1)
      (fun n pre W => I n pre W ∧ w.heap.size + 2 ≤ W.heap.size ∧ W.heap[w.heap.size + 1]? = some (.loop (rec .ready none)) ∧ W.heap[w.heap.size]? = some (.deferred (some [])))
      (fun n pre W => ∃ c, Ix c n pre W ∧ w.heap.size + 2 ≤ W.heap.size ∧ W.heap[w.heap.size + 1]? = some (.loop (rec .done (some c))) ∧ W.heap[w.heap.size]? = some (.deferred (some []))) ?_ ?_)).mono ?_
    · rintro n pre x W0 W hn1 hn2 ⟨hi, hsz, hl0, hk0⟩ hfr hsp
      have hl := (hfr.block (w.heap.size + 1) (by omega) (by simp)).trans hl0
      have hk := (hfr.block w.heap.size (by omega) (by simp)).trans hk0
      have hszW := hfr.size
      have hy := run_yield (P := P) (args := encs x) hl (by rw [hrec]; exact hps x)
      rw [hrec] at hy
      refine ⟨fn, _, assign, body, hy, roundIn_of_wpIn trivial ?_⟩
      have hbd := hbody (w.heap.size + 1) n pre x W0 W rfl (by omega) hn2 hi hfr hsp hsz { tmps := (ps.zip (encs x)).foldl (fun t (p, v) => t.setIfInBounds p v) a.tmps, defers := [] } ⟨by
        show ((ps.zip (encs x)).foldl (fun t (p, v) => t.setIfInBounds p v) a.tmps).size = N
        rw [← hz.size]
        exact foldl_size _ trivial, rfl⟩ rfl
      unfold Wp at hbd
      refine wpIn_mono hbd ?_
      intro e a2 W1' q
      cases e with
      | normal =>
        obtain ⟨hkept, hbdy⟩ := q
        have hkz := hkept.1
        have hkl := (hkept.2 (w.heap.size + 1) (by omega) (.inr (.inl rfl))).trans hl
        have hkD := (hkept.2 w.heap.size (by omega) (.inl rfl)).trans hk
        refine ⟨_, run_beginRound hkl (by rw [hrec]), ?_⟩
        have hfp := putObj_fr (o' := .loop { rec .ready none with state := .busy }) hkl
        have hb2 := hbdy _ hfp
        unfold Wp at hb2
        have hl2 : (W1'.putObj (w.heap.size + 1) (.loop { rec .ready none with state := .busy })).heap[w.heap.size + 1]? = some (.loop { rec .ready none with state := .busy }) := World.putObj_heap_same (Array.getElem?_eq_some_iff.1 hkl).1
        have hD2 := (hfp.block w.heap.size (by omega) (by simp)).trans hkD
        have hz2 := hfp.size
        refine wpIn_mono hb2 ?_
        have fin : ∀ (jump : Option Code) (W3 : World), KeptP (fun k => k = w.heap.size ∨ k = w.heap.size + 1 ∨ KB n k) (W1'.putObj (w.heap.size + 1) (.loop { rec .ready none with state := .busy })) W3 →
            ∃ W4, (Instr.endRound (w.heap.size + 1) jump).run P W3 = .ok (.bool jump.isNone) W4 ∧ Fr [w.heap.size + 1] W3 W4 ∧ w.heap.size + 2 ≤ W4.heap.size ∧
              W4.heap[w.heap.size + 1]? = some (.loop (rec (if jump.isNone then .ready else .done) jump)) ∧ W4.heap[w.heap.size]? = some (.deferred (some [])) ∧ KeptP (KB n) W W4 := fun jump W3 hk3 => by
          have hz3 := hk3.1
          have hl3 := (hk3.2 (w.heap.size + 1) (by omega) (.inr (.inl rfl))).trans hl2
          have hD3 := (hk3.2 w.heap.size (by omega) (.inl rfl)).trans hD2
          have hfp3 := putObj_fr (o' := .loop (rec (if jump.isNone then .ready else .done) jump)) hl3
          have hz4 := hfp3.size
          refine ⟨_, ?_, hfp3, by omega, World.putObj_heap_same (Array.getElem?_eq_some_iff.1 hl3).1, (hfp3.block w.heap.size (by omega) (by simp)).trans hD3, by omega, ?_⟩
          · have := run_endRound (P := P) jump hl3
            rw [hrec] at this ⊢
            exact this
          · intro k hkl' hKk
            have hne := hKB n k (by omega) hKk
            exact (hfp3.block k (by omega) (by simp; omega)).trans ((hk3.2 k (by omega) (.inr (.inr hKk))).trans ((hfp.block k (by omega) (by simp; omega)).trans (hkept.2 k hkl' (.inr (.inr hKk)))))
        intro e a3 W3 hp
        cases e with
        | normal =>
          obtain ⟨hk3, hi3⟩ := hp
          obtain ⟨W4, hr, hf4, hz4, hl4, hD4, hb4⟩ := fin none W3 hk3
          exact ⟨_, W4, hr, .inl ⟨rfl, ⟨hI _ _ _ _ hi3 hf4, hz4, hl4, hD4⟩, hb4⟩⟩
        | ret =>
          obtain ⟨hk3, hi3⟩ := hp
          obtain ⟨W4, hr, hf4, hz4, hl4, hD4, hb4⟩ := fin (some .ret) W3 hk3
          exact ⟨_, W4, hr, .inr ⟨rfl, .ret, hIx _ _ _ _ _ hi3 hf4, hz4, hl4, hD4⟩⟩
        | exit i =>
          obtain ⟨hk3, hi3⟩ := hp
          obtain ⟨W4, hr, hf4, hz4, hl4, hD4, hb4⟩ := fin (some (.exit i)) W3 hk3
          exact ⟨_, W4, hr, .inr ⟨rfl, .exit i, hIx _ _ _ _ _ hi3 hf4, hz4, hl4, hD4⟩⟩
        | goto t =>
          obtain ⟨hk3, hi3⟩ := hp
          obtain ⟨W4, hr, hf4, hz4, hl4, hD4, hb4⟩ := fin (some (.goto t)) W3 hk3
          exact ⟨_, W4, hr, .inr ⟨rfl, .goto t, hIx _ _ _ _ _ hi3 hf4, hz4, hl4, hD4⟩⟩
        | panic ch => exact hp.elim
        | outgrown => exact hp.elim
      | _ => exact q.elim
    · intro W2 hf2
      have hs2 := hf2.size
      exact ⟨h0 W2 (hF1.new hf2) (by omega), by omega, (hf2.block _ (by omega) (by simp)).trans hL1, (hf2.block _ (by omega) (by simp)).trans hK1⟩
    · rintro e W2 ⟨⟨v, rfl⟩, (⟨n, xs, W3, hn, hS, ⟨hi, hz3, hl, hk⟩, hf⟩ | ⟨n, pre, W3, hn, hSp, ⟨c, hi, hz3, hl, hk⟩, hf⟩)⟩
      · have hl' := (hf.block (w.heap.size + 1) (by omega) (by simp)).trans hl
        have hk' := (hf.block w.heap.size (by omega) (by simp)).trans hk
        have hs' := hf.size
        have hfp := putObj_fr (o' := .loop { rec .ready none with state := .exhausted }) hl'
        refine ⟨none, _, by have := run_endLoop (P := P) hl' (by rw [hrec]; simp); rw [hrec] at this; exact this, ?_⟩
        refine hdone n xs _ (by omega) hS (hI _ _ _ _ (hI _ _ _ _ hi (hf.mono fun i hi => by cases hi)) (by rw [hrec] at hfp; exact hfp)) ?_ _ ⟨hz.size, by show [_] ++ a.defers = _; rw [hz.defers]; rfl⟩ rfl
        rw [hrec] at hfp
        exact (hfp.block w.heap.size (by omega) (by simp)).trans hk'
      · have hl' := (hf.block (w.heap.size + 1) (by omega) (by simp)).trans hl
        have hk' := (hf.block w.heap.size (by omega) (by simp)).trans hk
        have hs' := hf.size
        have hfp := putObj_fr (o' := .loop { rec .done (some c) with state := .exhausted }) hl'
        refine ⟨some c, _, by have := run_endLoop (P := P) hl' (by rw [hrec]; simp); rw [hrec] at this; exact this, ?_⟩
        have hst := hstop c n pre (W2.putObj (w.heap.size + 1) (.loop { rec .done (some c) with state := .exhausted })) (by omega) hSp (hIx _ _ _ _ _ (hIx _ _ _ _ _ hi (hf.mono fun i hi => by cases hi)) hfp) ((hfp.block w.heap.size (by omega) (by simp)).trans hk') { a with defers := { target := .collected w.heap.size, args := #[] } :: a.defers } ⟨hz.size, by show _ :: a.defers = _; rw [hz.defers]⟩ rfl
        unfold Wp at hst
        rw [hrec] at hst
        exact hst
end
end Go.V
end
section
namespace Go.Proofs.YtjkegckfncfoaaaGreat
open Go.V Go.Base
open Go.RowKit (Below)
attribute [local irreducible] Act.put Act.eval
set_option linter.unusedVariables false
set_option linter.unusedSimpArgs false
theorem all1_iterQ (w : World) (H : Nat → Prop) (av : List Nat) (t : Nat) (T : Tb EntV) (hT : TabX 122 118 117 itI w H av t T) (hHb : ∀ k, H k → k < w.heap.size) (b : Nat) (hB : Blk w b [.pointer (some ⟨t, 0, none⟩)] 61) :
    IterQ Tryz.prog 72 #[.pointer (some ⟨b, 0, none⟩)] encP (fun xs => xs = (T.a ++ T.b).flatten) (fun pre => ∃ rest, pre ++ rest = (T.a ++ T.b).flatten) (fun n k => w.heap.size + 2 ≤ k ∧ k < n) w := by
  intro W1 f hsz l J Jx hY h0
  refine (all1_any W1 H av t T (hT.fr0 f) (fun k hk => by have := hHb k hk; omega) b (hB.fr0 f) (.func (.yield l) #[] #[]) (fun n pre W => ∃ W0, J n pre W0 ∧ Fr [] W0 W) (fun n pre W => Jx n pre W) ?_ ?_ ?_).mono ?_
  · rintro n pre W W' ⟨W0, hj, hf⟩ f'
    exact ⟨W0, hj, hf.trans f' (by simp)⟩
  · intro W2 f'
    exact ⟨W2, h0 W2 f', Fr.refl _ _⟩
  · rintro n pre x W hn hnl ⟨W0, hj, hf⟩ ⟨rest, hr⟩
    refine .inl ⟨l, rfl, (hY n pre x W0 W hn hnl hj hf ⟨rest, by simpa using hr⟩).mono ?_⟩
    rintro e W' (⟨he, hj', hk⟩ | ⟨he, hj'⟩)
    · exact .inl ⟨he, ⟨W', hj', Fr.refl _ _⟩, hk.1, fun k hlt hK => hk.2 k hlt ⟨by omega, hK.2⟩⟩
    · exact .inr ⟨he, hj'⟩
  · rintro e W' ⟨he, ⟨n, hn, W0, hj, hf⟩ | ⟨n, pre, hn, hp, hj⟩⟩
    · exact ⟨he, .inl ⟨n, _, W0, hn, rfl, hj, hf⟩⟩
    · exact ⟨he, .inr ⟨n, pre, W', hn, hp, hj, Fr.refl _ _⟩⟩
end Go.Proofs.YtjkegckfncfoaaaGreat
end
section
namespace Go.Proofs.YtjkegckfncfoaaaGreat
open Go.V Go.Base
open Go.RowKit (Below)
attribute [local irreducible] Act.put Act.eval
set_option linter.unusedVariables false
set_option linter.unusedSimpArgs false
/-! ### Keys of which it is so -/
def keysP (p : Int → Bool) (l : List (ByteArray × EntV)) : List ByteArray := (l.filter fun x => p x.2.till).map (·.1)
theorem keysP_t {p : Int → Bool} {l : List (ByteArray × EntV)} {x : ByteArray × EntV} (h : p x.2.till = true) : keysP p (l ++ [x]) = keysP p l ++ [x.1] := by unfold keysP; rw [List.filter_append, List.map_append]; simp [h]
theorem keysP_f {p : Int → Bool} {l : List (ByteArray × EntV)} {x : ByteArray × EntV} (h : p x.2.till = false) : keysP p (l ++ [x]) = keysP p l := by unfold keysP; rw [List.filter_append]; simp [h]
theorem keysP_le (p : Int → Bool) (l : List (ByteArray × EntV)) : (keysP p l).length ≤ l.length := by unfold keysP; rw [List.length_map]; exact List.length_filter_le _ _
def srtK (l : List ByteArray) : List ByteArray := (sortS l).map ofL
theorem srtK_len (l : List ByteArray) : (srtK l).length = l.length := by unfold srtK; rw [List.length_map, sort_len]
theorem sort_own {w : World} {base : Nat} {A : Option Addr} {c : Nat} {l : List ByteArray} (h : OwR Rp.str NoZ w base 9 (.slice A l.length c) l) (hl : l.length ≤ 1099511627776) :
    Calls Tryz.prog 69 #[.slice A l.length c] w (fun e w' => e = .returned (.tuple #[]) ∧ OwR Rp.str NoZ w' base 9 (.slice A (srtK l).length c) (srtK l) ∧ Fr ((Value.slice A l.length c).ownBlock.toList) w w') := by
  rcases h.caseS with ⟨he, rfl⟩ | ⟨g, c', he⟩
  · injection he with e1 e2 e3
    subst e1; subst e3
    refine (sort_none none 0 0 rfl).mono fun e w' ⟨h1, h2⟩ => ⟨h1, ?_, h2.mono (by simp)⟩
    rw [show srtK [] = [] by simp [srtK, sortS]]
    exact OwR.nil ..
  · injection he with e1 e2 e3
    subst e1; subst e3
    refine (sort_any h hl).mono fun e w' ⟨h1, h2, h3⟩ => ⟨h1, ?_, h3.mono (by simp [Value.ownBlock])⟩
    rw [srtK_len]; exact h2
set_option maxHeartbeats 4000000 in
set_option maxRecDepth 20000 in
theorem sorted0_any (w : World) (H Vb : Nat → Prop) (sp t : Nat) (T : Tb EntV) (D : ByteArray → Option EnD) (hq : SpX w H Vb sp t T D) (pf : Nat) (he : ∀ args w, (callFunc pf args).run Tryz.prog w = .ok (.enter pf args) w) (p : Int → Bool) (hpf : ∀ W (v : EntV), Fr [] w W → Calls Tryz.prog pf #[.agg #[.int .i64 v.kind, .string v.s, .slice v.l.a v.l.n v.l.c, .slice v.z.a v.z.n v.z.c, .slice v.h.a v.h.n v.h.c, .int .i64 v.till]] W (fun e W' => e = .returned (.bool (p v.till)) ∧ Fr [] W W')) : Calls Tryz.prog 34 #[.pointer (some ⟨sp, 0, none⟩), .func (.func pf) #[] #[]] w (fun e w' => ∃ A c, e = .returned (.slice A (srtK (keysP p (T.a ++ T.b).flatten)).length c) ∧ OwR Rp.str NoZ w' w.heap.size 9 (.slice A (srtK (keysP p (T.a ++ T.b).flatten)).length c) (srtK (keysP p (T.a ++ T.b).flatten)) ∧ Fr [] w w') := by
 have hF := Fr.refl [] w
 have hX := hq
 have hB := hq.hB
 have hspl := hB.lt
 have hX0 := hq.lt
 have hcn := hq.hT.1.cn
 have hM := hq.hM
 refine V.enM 28 Tryz.func34 fun a h1 => ?_
 refine V.sg fun K2 k3 => ?_
 refine V.go (V.mk [(1, .func (.func pf) #[] #[])] ⟨h1.e, trivial⟩ (by kernel_rfl) [.func (.func pf) #[] #[]] 86 (fun b => .pointer (some ⟨b, 0, none⟩)) (by kernel_rfl) ?_)
 intro w5 b4 heb4 hB6 hF7 hsb4
 have hX_8 := hX.fr0 hF7
 have hB_9 := hB.fr0 hF7
 have hF_10 := hF.new hF7
 refine V.pt h1 fun a h11 => ?_
 refine V.re h11 [] 4 4 [] fun a h12 => k3 _ _ ?_
 refine V.sg fun K13 k14 => ?_
 refine V.go (V.mk [] trivial (by kernel_rfl) [.slice none 0 0] 25 (fun b => .pointer (some ⟨b, 0, none⟩)) (by kernel_rfl) ?_)
 intro w16 b15 heb15 hB17 hF18 hsb15
 have hX_19 := hX_8.fr0 hF18
 have hB_20 := hB_9.fr0 hF18
 have hF_21 := hF_10.new hF18
 have hB6_22 := hB6.fr0 hF18
 refine V.pt h12 fun a h23 => ?_
 refine V.nt (k14 _ _ ?_)
 refine V.seq fun K24 k25 => ?_
 refine V.sg fun K26 k27 => ?_
 refine V.run h23 [] 1 1 0 [(8, .pointer (some ⟨sp, 0, none⟩))] fun a h28 => ?_
 refine V.cl h28 (Go.Proofs.enters_of Tryz.func29 (by kernel_rfl) rfl) (isp_any w16 sp t hX_19.hB) ?_
 rintro _ w30 ⟨rfl, hF29⟩
 refine ⟨_, rfl, fun a h31 => ?_⟩
 have hsw30 := hF29.size
 have hX_32 := hX_19.fr0 hF29
 have hB_33 := hB_20.fr0 hF29
 have hF_34 := hF_21.new hF29
 have hB6_35 := hB6_22.fr0 hF29
 have hB17_36 := hB17.fr0 hF29
 refine V.re h31 [] 1 0 [(10, .bool false)] fun a h37 => k27 _ _ ?_
 refine V.cf h37 ?_
 refine V.skip ?_
 refine V.then_n (k25 _ _ ?_)
 refine V.seq fun K38 k39 => ?_
 refine V.sg fun K40 k41 => ?_
 refine V.run h37 [(3, .b hB_33 0)] 4 11 13 [(14, .pointer (some ⟨t, 0, none⟩))] fun a h42 => ?_
 refine V.cl h42 (Go.Proofs.enters_of Tryz.func41 (by kernel_rfl) rfl) (all_any w30 (some ⟨t, 0, none⟩)) ?_
 rintro _ w46 ⟨b43, rfl, hB44, hleb43, hF45⟩
 refine ⟨_, rfl, fun a h47 => ?_⟩
 have hsw46 := hF45.size
 have hX_48 := hX_32.fr0 hF45
 have hB_49 := hB_33.fr0 hF45
 have hF_50 := hF_34.new hF45
 have hB6_51 := hB6_35.fr0 hF45
 have hB17_52 := hB17_36.fr0 hF45
 have hlthB44 := hB44.lt
 refine V.nt (k41 _ _ ?_)
 refine V.block ?_
 refine V.rngQ h47.sd h47.e (Go.Proofs.enters_of Tryz.func72 (by kernel_rfl) rfl) (KB := fun nq k => w46.heap.size + 2 ≤ k ∧ k < nq) (fun nq k hnq hk => by (try dsimp only at hk); omega) (all1_iterQ w46 (H) [] t (T) hX_48.hT (fun k hk => (hX_48.hH k hk).2.2) b43 hB44) (fun _ => rfl) (fun (nq : Nat) (pre : List (ByteArray × EntV)) W_ => ∃ (A : Option Addr), ∃ (c : Nat), Blk W_ b4 [.func (.func pf) #[] #[]] 86 ∧ Blk W_ b15 [.slice A ((keysP p pre).length) c] 25 ∧ OwR Rp.str NoZ W_ nq 9 (.slice A (keysP p pre).length c) (keysP p pre) ∧ Fr [] w W_ ∧ (w46.heap.size + 2 ≤ nq)) (fun _ _ _ _ => False) ?_ ?_ ?_ ?_ ?_ ?_
 ·
  rintro nq pre W W1 ⟨A, c, hB3, hB5, hO, hFr, hnq0⟩ hf
  have := hB3.lt
  have := hB5.lt
  have := hFr.size
  exact ⟨A, c, (by exact hB3.fr1 hf (by omega)), (by exact hB5.fr1 hf (by omega)), (by exact hO.frn hf (fun h => h) (by first | exact own_ne hO (by omega))), (by exact hFr.own hf (by simp <;> omega)), hnq0⟩
 · rintro _ _ _ _ _ h _
   exact h.elim
 ·
  rintro W hf hszW
  have hX_53 := hX_48.fr0 hf
  have hB_54 := hB_49.fr0 hf
  have hF_55 := hF_50.new hf
  have hB6_56 := hB6_51.fr0 hf
  have hB17_57 := hB17_52.fr0 hf
  have hB44_58 := hB44.fr0 hf
  exact ⟨none, 0, hB6_56, hB17_57, (OwR.nil ..), hF_55, hszW⟩
 ·
  rintro l nq pre x W0 W hl hnq hnqW ⟨A, c, hB3, hB5, hO, hFr, hnq0⟩ hfr hsp hsz a1 hz1 htm
  subst hl
  obtain ⟨rest, hrest⟩ := id hsp
  have hrl := congrArg List.length hrest
  rw [hcn] at hrl
  simp only [List.length_append, List.length_singleton] at hrl
  have hkl := keysP_le p pre
  have hszfr := hfr.size
  have hlt59 := hB3.lt
  have hlt60 := hB5.lt
  have hfs61 := hFr.size
  have hB3_62 := hB3.fr0 hfr
  have hB5_63 := hB5.fr0 hfr
  have hO_64 := hO.fr0 hfr
  have hFr_65 := hFr.new hfr
  have hK := KeptP.refl (fun k => k = w46.heap.size ∨ k = w46.heap.size + 1 ∨ (w46.heap.size + 2 ≤ k ∧ k < nq)) W
  have htm1 : a1.tmps = (a.tmps.setIfInBounds 16 (.string x.1)).setIfInBounds 17 (.agg #[.int .i64 x.2.kind, .string x.2.s, .slice x.2.l.a x.2.l.n x.2.l.c, .slice x.2.z.a x.2.z.n x.2.z.c, .slice x.2.h.a x.2.h.n x.2.h.c, .int .i64 x.2.till]) := by simpa [encP] using htm
  have s16 : a1.eval (.tmp 16) = (.string x.1) := par2_fst h47.sd rfl rfl htm1
  have hE := (En.nil hz1).add s16
  have s17 : a1.eval (.tmp 17) = (.agg #[.int .i64 x.2.kind, .string x.2.s, .slice x.2.l.a x.2.l.n x.2.l.c, .slice x.2.z.a x.2.z.n x.2.z.c, .slice x.2.h.a x.2.h.n x.2.h.c, .int .i64 x.2.till]) := par2_snd h47.sd rfl htm1
  replace hE := hE.add s17
  have s3_66 : a1.eval (.tmp 3) = (.pointer (some ⟨b4, 0, none⟩)) := par2_other htm1 rfl rfl h47.e
  replace hE := hE.add s3_66
  have s5_67 : a1.eval (.tmp 5) = (.pointer (some ⟨b15, 0, none⟩)) := par2_other htm1 rfl rfl h47.e
  replace hE := hE.add s5_67
  refine V.sr hE [] 1 0 [(6, .string x.1)] fun a h70 => ?_
  refine V.rg ?_
  refine V.go (V.mk [] trivial (by kernel_rfl) [.int .i64 0, .string ⟨#[]⟩, .slice none 0 0, .slice none 0 0, .slice none 0 0, .int .i64 0] 79 (fun b => .pointer (some ⟨b, 0, none⟩)) (by kernel_rfl) ?_)
  intro w72 b71 heb71 hB73 hF74 hsb71
  have hB3_75 := hB3_62.fr0 hF74
  have hB5_76 := hB5_63.fr0 hF74
  have hO_77 := hO_64.fr0 hF74
  have hFr_78 := hFr_65.new hF74
  have hK_79 := hK.fr hF74 (by simp)
  refine V.pt h70 fun a h80 => ?_
  refine V.go (V.stn b71 0 (.agg #[.int .i64 x.2.kind, .string x.2.s, .slice x.2.l.a x.2.l.n x.2.l.c, .slice x.2.z.a x.2.z.n x.2.z.c, .slice x.2.h.a x.2.h.n x.2.h.c, .int .i64 x.2.till]) [.int .i64 x.2.kind, .string x.2.s, .slice x.2.l.a x.2.l.n x.2.l.c, .slice x.2.z.a x.2.z.n x.2.z.c, .slice x.2.h.a x.2.h.n x.2.h.c, .int .i64 x.2.till] h80.e h80.e rfl rfl (by kernel_rfl) hB73 (by simp) [.int .i64 x.2.kind, .string x.2.s, .slice x.2.l.a x.2.l.n x.2.l.c, .slice x.2.z.a x.2.z.n x.2.z.c, .slice x.2.h.a x.2.h.n x.2.h.c, .int .i64 x.2.till] rfl ?_)
  intro w81 hB82 hF83 hsw81
  have hB3_84 := hB3_75.fr1 hF83 (by omega)
  have hB5_85 := hB5_76.fr1 hF83 (by omega)
  have hO_86 := hO_77.frn hF83 (fun h => h) (by first | exact own_ne hO_77 (by omega) | exact own_ne2 hO (by omega))
  have hFr_87 := hFr_78.own hF83 (by simp <;> omega)
  have hK_88 := hK_79.fr hF83 (by intro k hk; simp only [List.mem_singleton] at hk; subst hk; intro h; (try dsimp only at h); omega)
  refine V.nil ?_
  refine ⟨hK_88, fun W2 hf2 => ?_⟩
  have hszf2 := hf2.size
  have hB3_89 := hB3_84.fr1 hf2 (by omega)
  have hB5_90 := hB5_85.fr1 hf2 (by omega)
  have hO_91 := hO_86.frn hf2 (fun h => h) (by first | exact own_ne hO_86 (by omega) | exact own_ne2 hO (by omega))
  have hFr_92 := hFr_87.own hf2 (by simp <;> omega)
  have hB82_93 := hB82.fr1 hf2 (by omega)
  have hK2 := KeptP.refl (fun k => k = w46.heap.size ∨ k = w46.heap.size + 1 ∨ (w46.heap.size + 2 ≤ k ∧ k < nq)) W2
  refine V.block ?_
  refine V.sg fun K94 k95 => ?_
  refine V.run h80 [(0, .b hB3_89 0), (0, .bs hB82_93 0 [.int .i64 x.2.kind, .string x.2.s, .slice x.2.l.a x.2.l.n x.2.l.c, .slice x.2.z.a x.2.z.n x.2.z.c, .slice x.2.h.a x.2.h.n x.2.h.c, .int .i64 x.2.till])] 2 1 0 [(18, .func (.func pf) #[] #[]), (19, .agg #[.int .i64 x.2.kind, .string x.2.s, .slice x.2.l.a x.2.l.n x.2.l.c, .slice x.2.z.a x.2.z.n x.2.z.c, .slice x.2.h.a x.2.h.n x.2.h.c, .int .i64 x.2.till])] fun a h96 => ?_
  refine V.cl h96 he (hpf W2 x.2 hFr_92) ?_
  rintro _ w98 ⟨rfl, hF97⟩
  refine ⟨_, rfl, fun a h99 => ?_⟩
  have hsw98 := hF97.size
  have hB3_100 := hB3_89.fr0 hF97
  have hB5_101 := hB5_90.fr0 hF97
  have hO_102 := hO_91.fr0 hF97
  have hFr_103 := hFr_92.new hF97
  have hB82_104 := hB82_93.fr0 hF97
  have hK2_105 := hK2.fr hF97 (by simp)
  refine V.nt (k95 _ _ ?_)
  refine V.cb h99 (p x.2.till) (fun ht106 => ?_) (fun ht106 => ?_)
  ·
   refine V.rg ?_
   refine V.run h99 [(0, .b hB5_101 0)] 2 1 0 [(21, .slice A ((keysP p pre).length) c), (22, .string x.1)] fun a h107 => ?_
   refine V.go (V.mk [(22, .string x.1)] ⟨h107.e, trivial⟩ (by kernel_rfl) [.string x.1] 9 (fun b => .slice (some ⟨b, 0, none⟩) 1 1) (by kernel_rfl) ?_)
   intro w109 b108 heb108 hB110 hF111 hsb108
   have hB3_112 := hB3_100.fr0 hF111
   have hB5_113 := hB5_101.fr0 hF111
   have hO_114 := hO_102.fr0 hF111
   have hFr_115 := hFr_103.new hF111
   have hB82_116 := hB82_104.fr0 hF111
   have hK2_117 := hK2_105.fr hF111 (by simp)
   refine V.pt h107 fun a h118 => ?_
   refine V.go (V.app (R := Rp.str) (ys := ([x.1])) (news := [.string x.1]) (h118.e (v := (.slice A ((keysP p pre).length) c))) ⟨b108, 0, none⟩ 1 1 (h118.e (v := (.slice (some ⟨b108, 0, none⟩) 1 1))) (by kernel_rfl) (info9) (by kernel_rfl) (by decide) hO_114 rfl ⟨_, [], rfl, rfl, rfl⟩ (blk_cells hB110 0 _ rfl) (by first | omega | (simp; omega)) (by decide) (by omega) ?_)
   intro A119 c120 w121 hO122z hF123 hatw121
   have hsw121 := hF123.size
   have hB3_124 := hB3_112.fr hF123 (by first | exact own_notin hO_114 (by omega) | exact own_notin2 hO (by omega))
   have hB5_125 := hB5_113.fr hF123 (by first | exact own_notin hO_114 (by omega) | exact own_notin2 hO (by omega))
   have hFr_126 := hFr_115.own hF123 (own_ge hO_114 (by omega))
   have hB82_127 := hB82_116.fr hF123 (by first | exact own_notin hO_114 (by omega) | exact own_notin2 hO (by omega))
   have hK2_128 := hK2_117.fr hF123 (by intro k hk; have hog := own_ge hO_114 (Nat.le_refl _) k hk; intro h; (try dsimp only at h); omega)
   have hO122 := hO122z.zone (Z' := NoZ) (fun _ _ q => q.1) (fun _ _ q => q)
   refine V.pt h118 fun a h129 => ?_
   refine V.go (V.stn b15 0 (.slice A119 (((keysP p pre).length) + 1) c120) [.slice A119 (((keysP p pre).length) + 1) c120] h129.e h129.e rfl rfl (by kernel_rfl) hB5_125 (by simp) [.slice A119 (((keysP p pre).length) + 1) c120] rfl ?_)
   intro w130 hB131 hF132 hsw130
   have hB3_133 := hB3_124.fr1 hF132 (by omega)
   have hFr_134 := hFr_126.own hF132 (by simp <;> omega)
   have hB82_135 := hB82_127.fr1 hF132 (by omega)
   have hK2_136 := hK2_128.fr hF132 (by intro k hk; simp only [List.mem_singleton] at hk; subst hk; intro h; (try dsimp only at h); omega)
   have hO122_137 := hO122.frn hF132 (fun h => h) (by first | exact own_ne hO122 (by omega) | exact own_ne2 hO122 (by omega))
   refine V.nil ?_
   refine V.blk_n ?_
   have hkp := keysP_t (p := p) (l := pre) (x := x) ht106
   exact ⟨hK2_136, A119, c120, hB3_133, (by rw [hkp, List.length_append]; exact hB131), (by rw [hkp, List.length_append]; exact hO122_137), hFr_134, hnq0⟩
  ·
   refine V.skip ?_
   refine V.blk_n ?_
   have hkp := keysP_f (p := p) (l := pre) (x := x) (by have := ht106; simpa using this)
   exact ⟨hK2_105, A, c, hB3_100, (by rw [hkp]; exact hB5_101), (by rw [hkp]; exact hO_102), hFr_103, hnq0⟩
 ·
  rintro nq xs W hnq hS ⟨A, c, hB3, hB5, hO, hFr, hnq0⟩ hD a2 hz2 htm2
  obtain ⟨pre, hprexs⟩ : ∃ pre, pre = xs := ⟨_, rfl⟩; subst hprexs
  have hE := En.nil hz2
  have hlt138 := hB3.lt
  have hlt139 := hB5.lt
  have hfs140 := hFr.size
  have hDf : Df W (w46.heap.size) := hD
  have hDlt := (Array.getElem?_eq_some_iff.1 hD).1
  have s5_141 : a2.eval (.tmp 5) = (.pointer (some ⟨b15, 0, none⟩)) := par_tm htm2 h47.e
  replace hE := hE.add s5_141
  refine V.blk_n ?_
  refine V.then_n (k39 _ _ ?_)
  refine V.seq fun K142 k143 => ?_
  have hkl9 := keysP_le p pre
  have hpl9 : pre.length = T.n := by rw [hS]; exact hcn
  refine V.rg ?_
  refine V.run hE [(0, .b hB5 0)] 1 1 0 [(25, .slice A ((keysP p pre).length) c)] fun a h144 => ?_
  refine V.cl h144 (Go.Proofs.enters_of Tryz.func69 (by kernel_rfl) rfl) (sort_own (c := c) (l := (keysP p pre)) hO (by omega)) ?_
  rintro _ w147 ⟨rfl, hO145, hF146⟩
  refine ⟨_, rfl, fun a h148 => ?_⟩
  have hsw147 := hF146.size
  have hB3_149 := hB3.fr hF146 (by first | exact own_notin hO (by omega))
  have hB5_150 := hB5.fr hF146 (by first | exact own_notin hO (by omega))
  have hFr_151 := hFr.own hF146 (own_ge hO (by omega))
  have hDf_152 := hDf.fr hF146 (own_notin hO (by omega))
  refine V.nt (k143 _ _ ?_)
  refine V.sr h148 [(0, .b hB5_150 0)] 27 27 [(4, .slice A ((keysP p pre).length) c)] fun a h155 => ?_
  refine V.ret ?_
  refine V.retM h155.sd hDf_152 (fun w156 hF157 => ?_)
  have hsw156 := hF157.size
  have hB3_158 := hB3_149.fr1 hF157 (by omega)
  have hB5_159 := hB5_150.fr1 hF157 (by omega)
  have hFr_160 := hFr_151.own hF157 (by simp <;> omega)
  have hO145_161 := hO145.frn hF157 (fun h => h) (by first | exact own_ne hO145 (by omega))
  refine ⟨_, V.res1 rfl (h155.e (v := (.slice A ((keysP p pre).length) c))), ?_⟩
  have hsl := srtK_len (keysP p (T.a ++ T.b).flatten)
  subst hS
  exact ⟨A, c, by rw [hsl], hO145_161.rebase (by omega), hFr_160⟩
 · rintro _ _ _ _ _ _ h
   exact h.elim
set_option maxHeartbeats 4000000 in
set_option maxRecDepth 20000 in
theorem sorted1_any (w : World) (H Vb : Nat → Prop) (sp t : Nat) (T : Tb EntV) (D : ByteArray → Option EnD) (hq : SpX w H Vb sp t T D) (pf : Nat) (u : Addr) (he : ∀ args w, (callFunc pf args).run Tryz.prog w = .ok (.enter pf args) w) (p : Int → Bool) (hpf : ∀ W (v : EntV), Fr [] w W → Calls Tryz.prog pf #[.agg #[.int .i64 v.kind, .string v.s, .slice v.l.a v.l.n v.l.c, .slice v.z.a v.z.n v.z.c, .slice v.h.a v.h.n v.h.c, .int .i64 v.till], .pointer (some u)] W (fun e W' => e = .returned (.bool (p v.till)) ∧ Fr [] W W')) : Calls Tryz.prog 34 #[.pointer (some ⟨sp, 0, none⟩), .func (.func pf) #[] #[.pointer (some u)]] w (fun e w' => ∃ A c, e = .returned (.slice A (srtK (keysP p (T.a ++ T.b).flatten)).length c) ∧ OwR Rp.str NoZ w' w.heap.size 9 (.slice A (srtK (keysP p (T.a ++ T.b).flatten)).length c) (srtK (keysP p (T.a ++ T.b).flatten)) ∧ Fr [] w w') := by
 have hF := Fr.refl [] w
 have hX := hq
 have hB := hq.hB
 have hspl := hB.lt
 have hX0 := hq.lt
 have hcn := hq.hT.1.cn
 have hM := hq.hM
 refine V.enM 28 Tryz.func34 fun a h1 => ?_
 refine V.sg fun K2 k3 => ?_
 refine V.go (V.mk [(1, .func (.func pf) #[] #[.pointer (some u)])] ⟨h1.e, trivial⟩ (by kernel_rfl) [.func (.func pf) #[] #[.pointer (some u)]] 86 (fun b => .pointer (some ⟨b, 0, none⟩)) (by kernel_rfl) ?_)
 intro w5 b4 heb4 hB6 hF7 hsb4
 have hX_8 := hX.fr0 hF7
 have hB_9 := hB.fr0 hF7
 have hF_10 := hF.new hF7
 refine V.pt h1 fun a h11 => ?_
 refine V.re h11 [] 4 4 [] fun a h12 => k3 _ _ ?_
 refine V.sg fun K13 k14 => ?_
 refine V.go (V.mk [] trivial (by kernel_rfl) [.slice none 0 0] 25 (fun b => .pointer (some ⟨b, 0, none⟩)) (by kernel_rfl) ?_)
 intro w16 b15 heb15 hB17 hF18 hsb15
 have hX_19 := hX_8.fr0 hF18
 have hB_20 := hB_9.fr0 hF18
 have hF_21 := hF_10.new hF18
 have hB6_22 := hB6.fr0 hF18
 refine V.pt h12 fun a h23 => ?_
 refine V.nt (k14 _ _ ?_)
 refine V.seq fun K24 k25 => ?_
 refine V.sg fun K26 k27 => ?_
 refine V.run h23 [] 1 1 0 [(8, .pointer (some ⟨sp, 0, none⟩))] fun a h28 => ?_
 refine V.cl h28 (Go.Proofs.enters_of Tryz.func29 (by kernel_rfl) rfl) (isp_any w16 sp t hX_19.hB) ?_
 rintro _ w30 ⟨rfl, hF29⟩
 refine ⟨_, rfl, fun a h31 => ?_⟩
 have hsw30 := hF29.size
 have hX_32 := hX_19.fr0 hF29
 have hB_33 := hB_20.fr0 hF29
 have hF_34 := hF_21.new hF29
 have hB6_35 := hB6_22.fr0 hF29
 have hB17_36 := hB17.fr0 hF29
 refine V.re h31 [] 1 0 [(10, .bool false)] fun a h37 => k27 _ _ ?_
 refine V.cf h37 ?_
 refine V.skip ?_
 refine V.then_n (k25 _ _ ?_)
 refine V.seq fun K38 k39 => ?_
 refine V.sg fun K40 k41 => ?_
 refine V.run h37 [(3, .b hB_33 0)] 4 11 13 [(14, .pointer (some ⟨t, 0, none⟩))] fun a h42 => ?_
 refine V.cl h42 (Go.Proofs.enters_of Tryz.func41 (by kernel_rfl) rfl) (all_any w30 (some ⟨t, 0, none⟩)) ?_
 rintro _ w46 ⟨b43, rfl, hB44, hleb43, hF45⟩
 refine ⟨_, rfl, fun a h47 => ?_⟩
 have hsw46 := hF45.size
 have hX_48 := hX_32.fr0 hF45
 have hB_49 := hB_33.fr0 hF45
 have hF_50 := hF_34.new hF45
 have hB6_51 := hB6_35.fr0 hF45
 have hB17_52 := hB17_36.fr0 hF45
 have hlthB44 := hB44.lt
 refine V.nt (k41 _ _ ?_)
 refine V.block ?_
 refine V.rngQ h47.sd h47.e (Go.Proofs.enters_of Tryz.func72 (by kernel_rfl) rfl) (KB := fun nq k => w46.heap.size + 2 ≤ k ∧ k < nq) (fun nq k hnq hk => by (try dsimp only at hk); omega) (all1_iterQ w46 (H) [] t (T) hX_48.hT (fun k hk => (hX_48.hH k hk).2.2) b43 hB44) (fun _ => rfl) (fun (nq : Nat) (pre : List (ByteArray × EntV)) W_ => ∃ (A : Option Addr), ∃ (c : Nat), Blk W_ b4 [.func (.func pf) #[] #[.pointer (some u)]] 86 ∧ Blk W_ b15 [.slice A ((keysP p pre).length) c] 25 ∧ OwR Rp.str NoZ W_ nq 9 (.slice A (keysP p pre).length c) (keysP p pre) ∧ Fr [] w W_ ∧ (w46.heap.size + 2 ≤ nq)) (fun _ _ _ _ => False) ?_ ?_ ?_ ?_ ?_ ?_
 ·
  rintro nq pre W W1 ⟨A, c, hB3, hB5, hO, hFr, hnq0⟩ hf
  have := hB3.lt
  have := hB5.lt
  have := hFr.size
  exact ⟨A, c, (by exact hB3.fr1 hf (by omega)), (by exact hB5.fr1 hf (by omega)), (by exact hO.frn hf (fun h => h) (by first | exact own_ne hO (by omega))), (by exact hFr.own hf (by simp <;> omega)), hnq0⟩
 · rintro _ _ _ _ _ h _
   exact h.elim
 ·
  rintro W hf hszW
  have hX_53 := hX_48.fr0 hf
  have hB_54 := hB_49.fr0 hf
  have hF_55 := hF_50.new hf
  have hB6_56 := hB6_51.fr0 hf
  have hB17_57 := hB17_52.fr0 hf
  have hB44_58 := hB44.fr0 hf
  exact ⟨none, 0, hB6_56, hB17_57, (OwR.nil ..), hF_55, hszW⟩
 ·
  rintro l nq pre x W0 W hl hnq hnqW ⟨A, c, hB3, hB5, hO, hFr, hnq0⟩ hfr hsp hsz a1 hz1 htm
  subst hl
  obtain ⟨rest, hrest⟩ := id hsp
  have hrl := congrArg List.length hrest
  rw [hcn] at hrl
  simp only [List.length_append, List.length_singleton] at hrl
  have hkl := keysP_le p pre
  have hszfr := hfr.size
  have hlt59 := hB3.lt
  have hlt60 := hB5.lt
  have hfs61 := hFr.size
  have hB3_62 := hB3.fr0 hfr
  have hB5_63 := hB5.fr0 hfr
  have hO_64 := hO.fr0 hfr
  have hFr_65 := hFr.new hfr
  have hK := KeptP.refl (fun k => k = w46.heap.size ∨ k = w46.heap.size + 1 ∨ (w46.heap.size + 2 ≤ k ∧ k < nq)) W
  have htm1 : a1.tmps = (a.tmps.setIfInBounds 16 (.string x.1)).setIfInBounds 17 (.agg #[.int .i64 x.2.kind, .string x.2.s, .slice x.2.l.a x.2.l.n x.2.l.c, .slice x.2.z.a x.2.z.n x.2.z.c, .slice x.2.h.a x.2.h.n x.2.h.c, .int .i64 x.2.till]) := by simpa [encP] using htm
  have s16 : a1.eval (.tmp 16) = (.string x.1) := par2_fst h47.sd rfl rfl htm1
  have hE := (En.nil hz1).add s16
  have s17 : a1.eval (.tmp 17) = (.agg #[.int .i64 x.2.kind, .string x.2.s, .slice x.2.l.a x.2.l.n x.2.l.c, .slice x.2.z.a x.2.z.n x.2.z.c, .slice x.2.h.a x.2.h.n x.2.h.c, .int .i64 x.2.till]) := par2_snd h47.sd rfl htm1
  replace hE := hE.add s17
  have s3_66 : a1.eval (.tmp 3) = (.pointer (some ⟨b4, 0, none⟩)) := par2_other htm1 rfl rfl h47.e
  replace hE := hE.add s3_66
  have s5_67 : a1.eval (.tmp 5) = (.pointer (some ⟨b15, 0, none⟩)) := par2_other htm1 rfl rfl h47.e
  replace hE := hE.add s5_67
  refine V.sr hE [] 1 0 [(6, .string x.1)] fun a h70 => ?_
  refine V.rg ?_
  refine V.go (V.mk [] trivial (by kernel_rfl) [.int .i64 0, .string ⟨#[]⟩, .slice none 0 0, .slice none 0 0, .slice none 0 0, .int .i64 0] 79 (fun b => .pointer (some ⟨b, 0, none⟩)) (by kernel_rfl) ?_)
  intro w72 b71 heb71 hB73 hF74 hsb71
  have hB3_75 := hB3_62.fr0 hF74
  have hB5_76 := hB5_63.fr0 hF74
  have hO_77 := hO_64.fr0 hF74
  have hFr_78 := hFr_65.new hF74
  have hK_79 := hK.fr hF74 (by simp)
  refine V.pt h70 fun a h80 => ?_
  refine V.go (V.stn b71 0 (.agg #[.int .i64 x.2.kind, .string x.2.s, .slice x.2.l.a x.2.l.n x.2.l.c, .slice x.2.z.a x.2.z.n x.2.z.c, .slice x.2.h.a x.2.h.n x.2.h.c, .int .i64 x.2.till]) [.int .i64 x.2.kind, .string x.2.s, .slice x.2.l.a x.2.l.n x.2.l.c, .slice x.2.z.a x.2.z.n x.2.z.c, .slice x.2.h.a x.2.h.n x.2.h.c, .int .i64 x.2.till] h80.e h80.e rfl rfl (by kernel_rfl) hB73 (by simp) [.int .i64 x.2.kind, .string x.2.s, .slice x.2.l.a x.2.l.n x.2.l.c, .slice x.2.z.a x.2.z.n x.2.z.c, .slice x.2.h.a x.2.h.n x.2.h.c, .int .i64 x.2.till] rfl ?_)
  intro w81 hB82 hF83 hsw81
  have hB3_84 := hB3_75.fr1 hF83 (by omega)
  have hB5_85 := hB5_76.fr1 hF83 (by omega)
  have hO_86 := hO_77.frn hF83 (fun h => h) (by first | exact own_ne hO_77 (by omega) | exact own_ne2 hO (by omega))
  have hFr_87 := hFr_78.own hF83 (by simp <;> omega)
  have hK_88 := hK_79.fr hF83 (by intro k hk; simp only [List.mem_singleton] at hk; subst hk; intro h; (try dsimp only at h); omega)
  refine V.nil ?_
  refine ⟨hK_88, fun W2 hf2 => ?_⟩
  have hszf2 := hf2.size
  have hB3_89 := hB3_84.fr1 hf2 (by omega)
  have hB5_90 := hB5_85.fr1 hf2 (by omega)
  have hO_91 := hO_86.frn hf2 (fun h => h) (by first | exact own_ne hO_86 (by omega) | exact own_ne2 hO (by omega))
  have hFr_92 := hFr_87.own hf2 (by simp <;> omega)
  have hB82_93 := hB82.fr1 hf2 (by omega)
  have hK2 := KeptP.refl (fun k => k = w46.heap.size ∨ k = w46.heap.size + 1 ∨ (w46.heap.size + 2 ≤ k ∧ k < nq)) W2
  refine V.block ?_
  refine V.sg fun K94 k95 => ?_
  refine V.run h80 [(0, .b hB3_89 0), (0, .bs hB82_93 0 [.int .i64 x.2.kind, .string x.2.s, .slice x.2.l.a x.2.l.n x.2.l.c, .slice x.2.z.a x.2.z.n x.2.z.c, .slice x.2.h.a x.2.h.n x.2.h.c, .int .i64 x.2.till])] 2 1 0 [(18, .func (.func pf) #[] #[.pointer (some u)]), (19, .agg #[.int .i64 x.2.kind, .string x.2.s, .slice x.2.l.a x.2.l.n x.2.l.c, .slice x.2.z.a x.2.z.n x.2.z.c, .slice x.2.h.a x.2.h.n x.2.h.c, .int .i64 x.2.till])] fun a h96 => ?_
  refine V.cl h96 he (hpf W2 x.2 hFr_92) ?_
  rintro _ w98 ⟨rfl, hF97⟩
  refine ⟨_, rfl, fun a h99 => ?_⟩
  have hsw98 := hF97.size
  have hB3_100 := hB3_89.fr0 hF97
  have hB5_101 := hB5_90.fr0 hF97
  have hO_102 := hO_91.fr0 hF97
  have hFr_103 := hFr_92.new hF97
  have hB82_104 := hB82_93.fr0 hF97
  have hK2_105 := hK2.fr hF97 (by simp)
  refine V.nt (k95 _ _ ?_)
  refine V.cb h99 (p x.2.till) (fun ht106 => ?_) (fun ht106 => ?_)
  ·
   refine V.rg ?_
   refine V.run h99 [(0, .b hB5_101 0)] 2 1 0 [(21, .slice A ((keysP p pre).length) c), (22, .string x.1)] fun a h107 => ?_
   refine V.go (V.mk [(22, .string x.1)] ⟨h107.e, trivial⟩ (by kernel_rfl) [.string x.1] 9 (fun b => .slice (some ⟨b, 0, none⟩) 1 1) (by kernel_rfl) ?_)
   intro w109 b108 heb108 hB110 hF111 hsb108
   have hB3_112 := hB3_100.fr0 hF111
   have hB5_113 := hB5_101.fr0 hF111
   have hO_114 := hO_102.fr0 hF111
   have hFr_115 := hFr_103.new hF111
   have hB82_116 := hB82_104.fr0 hF111
   have hK2_117 := hK2_105.fr hF111 (by simp)
   refine V.pt h107 fun a h118 => ?_
   refine V.go (V.app (R := Rp.str) (ys := ([x.1])) (news := [.string x.1]) (h118.e (v := (.slice A ((keysP p pre).length) c))) ⟨b108, 0, none⟩ 1 1 (h118.e (v := (.slice (some ⟨b108, 0, none⟩) 1 1))) (by kernel_rfl) (info9) (by kernel_rfl) (by decide) hO_114 rfl ⟨_, [], rfl, rfl, rfl⟩ (blk_cells hB110 0 _ rfl) (by first | omega | (simp; omega)) (by decide) (by omega) ?_)
   intro A119 c120 w121 hO122z hF123 hatw121
   have hsw121 := hF123.size
   have hB3_124 := hB3_112.fr hF123 (by first | exact own_notin hO_114 (by omega) | exact own_notin2 hO (by omega))
   have hB5_125 := hB5_113.fr hF123 (by first | exact own_notin hO_114 (by omega) | exact own_notin2 hO (by omega))
   have hFr_126 := hFr_115.own hF123 (own_ge hO_114 (by omega))
   have hB82_127 := hB82_116.fr hF123 (by first | exact own_notin hO_114 (by omega) | exact own_notin2 hO (by omega))
   have hK2_128 := hK2_117.fr hF123 (by intro k hk; have hog := own_ge hO_114 (Nat.le_refl _) k hk; intro h; (try dsimp only at h); omega)
   have hO122 := hO122z.zone (Z' := NoZ) (fun _ _ q => q.1) (fun _ _ q => q)
   refine V.pt h118 fun a h129 => ?_
   refine V.go (V.stn b15 0 (.slice A119 (((keysP p pre).length) + 1) c120) [.slice A119 (((keysP p pre).length) + 1) c120] h129.e h129.e rfl rfl (by kernel_rfl) hB5_125 (by simp) [.slice A119 (((keysP p pre).length) + 1) c120] rfl ?_)
   intro w130 hB131 hF132 hsw130
   have hB3_133 := hB3_124.fr1 hF132 (by omega)
   have hFr_134 := hFr_126.own hF132 (by simp <;> omega)
   have hB82_135 := hB82_127.fr1 hF132 (by omega)
   have hK2_136 := hK2_128.fr hF132 (by intro k hk; simp only [List.mem_singleton] at hk; subst hk; intro h; (try dsimp only at h); omega)
   have hO122_137 := hO122.frn hF132 (fun h => h) (by first | exact own_ne hO122 (by omega) | exact own_ne2 hO122 (by omega))
   refine V.nil ?_
   refine V.blk_n ?_
   have hkp := keysP_t (p := p) (l := pre) (x := x) ht106
   exact ⟨hK2_136, A119, c120, hB3_133, (by rw [hkp, List.length_append]; exact hB131), (by rw [hkp, List.length_append]; exact hO122_137), hFr_134, hnq0⟩
  ·
   refine V.skip ?_
   refine V.blk_n ?_
   have hkp := keysP_f (p := p) (l := pre) (x := x) (by have := ht106; simpa using this)
   exact ⟨hK2_105, A, c, hB3_100, (by rw [hkp]; exact hB5_101), (by rw [hkp]; exact hO_102), hFr_103, hnq0⟩
 ·
  rintro nq xs W hnq hS ⟨A, c, hB3, hB5, hO, hFr, hnq0⟩ hD a2 hz2 htm2
  obtain ⟨pre, hprexs⟩ : ∃ pre, pre = xs := ⟨_, rfl⟩; subst hprexs
  have hE := En.nil hz2
  have hlt138 := hB3.lt
  have hlt139 := hB5.lt
  have hfs140 := hFr.size
  have hDf : Df W (w46.heap.size) := hD
  have hDlt := (Array.getElem?_eq_some_iff.1 hD).1
  have s5_141 : a2.eval (.tmp 5) = (.pointer (some ⟨b15, 0, none⟩)) := par_tm htm2 h47.e
  replace hE := hE.add s5_141
  refine V.blk_n ?_
  refine V.then_n (k39 _ _ ?_)
  refine V.seq fun K142 k143 => ?_
  have hkl9 := keysP_le p pre
  have hpl9 : pre.length = T.n := by rw [hS]; exact hcn
  refine V.rg ?_
  refine V.run hE [(0, .b hB5 0)] 1 1 0 [(25, .slice A ((keysP p pre).length) c)] fun a h144 => ?_
  refine V.cl h144 (Go.Proofs.enters_of Tryz.func69 (by kernel_rfl) rfl) (sort_own (c := c) (l := (keysP p pre)) hO (by omega)) ?_
  rintro _ w147 ⟨rfl, hO145, hF146⟩
  refine ⟨_, rfl, fun a h148 => ?_⟩
  have hsw147 := hF146.size
  have hB3_149 := hB3.fr hF146 (by first | exact own_notin hO (by omega))
  have hB5_150 := hB5.fr hF146 (by first | exact own_notin hO (by omega))
  have hFr_151 := hFr.own hF146 (own_ge hO (by omega))
  have hDf_152 := hDf.fr hF146 (own_notin hO (by omega))
  refine V.nt (k143 _ _ ?_)
  refine V.sr h148 [(0, .b hB5_150 0)] 27 27 [(4, .slice A ((keysP p pre).length) c)] fun a h155 => ?_
  refine V.ret ?_
  refine V.retM h155.sd hDf_152 (fun w156 hF157 => ?_)
  have hsw156 := hF157.size
  have hB3_158 := hB3_149.fr1 hF157 (by omega)
  have hB5_159 := hB5_150.fr1 hF157 (by omega)
  have hFr_160 := hFr_151.own hF157 (by simp <;> omega)
  have hO145_161 := hO145.frn hF157 (fun h => h) (by first | exact own_ne hO145 (by omega))
  refine ⟨_, V.res1 rfl (h155.e (v := (.slice A ((keysP p pre).length) c))), ?_⟩
  have hsl := srtK_len (keysP p (T.a ++ T.b).flatten)
  subst hS
  exact ⟨A, c, by rw [hsl], hO145_161.rebase (by omega), hFr_160⟩
 · rintro _ _ _ _ _ _ h
   exact h.elim
end Go.Proofs.YtjkegckfncfoaaaGreat
end
section
namespace Go.Proofs.YtjkegckfncfoaaaGreat
open Go.V Go.Base
open Go.RowKit (Below)
attribute [local irreducible] Act.put Act.eval
set_option linter.unusedVariables false
set_option linter.unusedSimpArgs false
set_option maxHeartbeats 4000000 in
set_option maxRecDepth 20000 in
theorem nanS_eq (w : World) (x : ByteArray) : Calls Tryz.prog 76 #[.string x] w (fun e w' => e = .returned (.bool false) ∧ w = w') := by
 refine V.en 6 Tryz.func76 fun a h1 => ?_
 refine V.sr h1 [] 2 2 [] fun a h4 => ?_
 refine V.sr h4 [(2, .q (.bool false) (V.t_snsame x))] 3 5 [(2, .bool false)] fun a h7 => ?_
 refine V.ret ?_
 refine V.r1 h7 (.bool false) ?_
 exact ⟨rfl, rfl⟩
set_option maxHeartbeats 4000000 in
set_option maxRecDepth 20000 in
theorem cmpS_eq (w : World) (x y : ByteArray) : Calls Tryz.prog 44 #[.string x, .string y] w (fun e w' => e = .returned (.int .i64 (cmpS x y)) ∧ w = w') := by
 refine V.en 20 Tryz.func44 fun a h1 => ?_
 refine V.sr h1 [] 4 4 [] fun a h4 => ?_
 refine V.sg fun K5 k6 => ?_
 refine V.run h4 [] 1 1 0 [(7, .string x)] fun a h7 => ?_
 refine V.cl h7 (Go.Proofs.enters_of Tryz.func76 (by kernel_rfl) rfl) (nanS_eq w x) ?_
 rintro _ _ ⟨rfl, rfl⟩
 refine ⟨_, rfl, fun a h8 => ?_⟩
 refine V.re h8 [] 1 0 [(5, .bool false)] fun a h9 => k6 _ _ ?_
 refine V.sg fun K10 k11 => ?_
 refine V.run h9 [] 1 1 0 [(9, .string y)] fun a h12 => ?_
 refine V.cl h12 (Go.Proofs.enters_of Tryz.func76 (by kernel_rfl) rfl) (nanS_eq w y) ?_
 rintro _ _ ⟨rfl, rfl⟩
 refine ⟨_, rfl, fun a h13 => ?_⟩
 refine V.re h13 [] 1 0 [(6, .bool false)] fun a h14 => k11 _ _ ?_
 refine V.seq fun K15 k16 => ?_
 refine V.sr h14 [] 1 0 [(11, .bool false)] fun a h19 => ?_
 refine V.cf h19 ?_
 refine V.skip ?_
 refine V.then_n (k16 _ _ ?_)
 refine V.seq fun K20 k21 => ?_
 refine V.sr h19 [] 1 0 [(13, .bool false)] fun a h24 => ?_
 refine V.cf h24 ?_
 refine V.skip ?_
 refine V.then_n (k21 _ _ ?_)
 refine V.seq fun K25 k26 => ?_
 refine V.sr h24 [(2, .q (.bool (decide (slt x y))) V.t_slss)] 14 15 [(16, .bool (decide (slt x y)))] fun a h29 => ?_
 refine V.cp h29 (slt x y) (fun ht30 => ?_) (fun ht30 => ?_)
 ·
  refine V.sr h29 [] 1 0 [(4, .int .i64 (-1))] fun a h33 => ?_
  refine V.ret ?_
  refine V.then_r ?_
  refine V.r1 h33 (.int .i64 (-1)) ?_
  exact ⟨congrArg (fun b => Ending.returned (Value.int .i64 b)) (by unfold cmpS; first | (rw [if_pos (by assumption)]; done) | (rw [if_neg (by assumption), if_pos (by assumption)]; done) | (rw [if_neg (by assumption), if_neg (by assumption)])), rfl⟩
 ·
  refine V.skip ?_
  refine V.then_n (k26 _ _ ?_)
  refine V.seq fun K34 k35 => ?_
  refine V.sr h29 [(2, .q (.bool (decide (slt y x))) V.t_sgtr)] 17 18 [(19, .bool (decide (slt y x)))] fun a h38 => ?_
  refine V.cp h38 (slt y x) (fun ht39 => ?_) (fun ht39 => ?_)
  ·
   refine V.sr h38 [] 1 0 [(4, .int .i64 1)] fun a h42 => ?_
   refine V.ret ?_
   refine V.then_r ?_
   refine V.r1 h42 (.int .i64 1) ?_
   exact ⟨congrArg (fun b => Ending.returned (Value.int .i64 b)) (by unfold cmpS; first | (rw [if_pos (by assumption)]; done) | (rw [if_neg (by assumption), if_pos (by assumption)]; done) | (rw [if_neg (by assumption), if_neg (by assumption)])), rfl⟩
  ·
   refine V.skip ?_
   refine V.then_n (k35 _ _ ?_)
   refine V.sr h38 [] 1 0 [(4, .int .i64 0)] fun a h45 => ?_
   refine V.ret ?_
   refine V.r1 h45 (.int .i64 0) ?_
   exact ⟨congrArg (fun b => Ending.returned (Value.int .i64 b)) (by unfold cmpS; first | (rw [if_pos (by assumption)]; done) | (rw [if_neg (by assumption), if_pos (by assumption)]; done) | (rw [if_neg (by assumption), if_neg (by assumption)])), rfl⟩
end Go.Proofs.YtjkegckfncfoaaaGreat
end
section
namespace Go.Proofs.YtjkegckfncfoaaaGreat
open Go.V Go.Base
open Go.RowKit (Below)
attribute [local irreducible] Act.put Act.eval
set_option linter.unusedVariables false
set_option linter.unusedSimpArgs false
open Go.Shelf Go.RowKit Go.Lib Go.Sort
instance : Inhabited EntV := ⟨EntV.nil⟩
def encE (x : ByteArray × EntV) : List Value := [.string x.1, .int .i64 x.2.kind, .string x.2.s, .slice x.2.l.a x.2.l.n x.2.l.c, .slice x.2.z.a x.2.z.n x.2.z.c, .slice x.2.h.a x.2.h.n x.2.h.c, .int .i64 x.2.till]
set_option maxHeartbeats 1000000 in
theorem byKey43 (x y : ByteArray × EntV) (W : World) : Calls Tryz.prog 43 #[.agg (encE x).toArray, .agg (encE y).toArray] W fun e w' => e = .returned (.int .i64 (cmpS x.1 y.1)) ∧ ∃ q os', w' = grow (W.drewN q) os' := by
  show Calls Tryz.prog 43 #[.agg #[.string x.1, .int .i64 x.2.kind, .string x.2.s, .slice x.2.l.a x.2.l.n x.2.l.c, .slice x.2.z.a x.2.z.n x.2.z.c, .slice x.2.h.a x.2.h.n x.2.h.c, .int .i64 x.2.till], .agg #[.string y.1, .int .i64 y.2.kind, .string y.2.s, .slice y.2.l.a y.2.l.n y.2.l.c, .slice y.2.z.a y.2.z.n y.2.z.c, .slice y.2.h.a y.2.h.n y.2.h.c, .int .i64 y.2.till]] W _
  have hcon := fun W' => cmpS_eq W' x.1 y.1
  generalize cmpS x.1 y.1 = r at hcon ⊢
  go_enter Tryz.func43, Tryz.ntmps43
  go_wp2_with (go_at_call 44; refine (hcon _).mono ?_; rintro e w' ⟨rfl, rfl⟩)
  go_ret
  exact ⟨rfl, 0, _, by rw [alloc_eq_grow, alloc_eq_grow, grow_grow]; rfl⟩
theorem encE_len (x : ByteArray × EntV) : (encE x).length = 7 := rfl
theorem fm7 : ∀ (rs : List (ByteArray × EntV)) (t : Nat), t < rs.length * 7 → (rs.flatMap encE)[t]? = some ((encE (rs.getD (t / 7) default))[t % 7]!)
  | [], t, h => by simp at h
  | x :: rs, t, h => by
    rw [List.flatMap_cons]
    by_cases ht : t < 7
    · have h0 : t / 7 = 0 := by omega
      have h1 : t % 7 = t := by omega
      rw [List.getElem?_append_left (by rw [encE_len]; exact ht), h0, h1, List.getElem?_eq_getElem (by rw [encE_len]; exact ht)]
      show some (encE x)[t] = some ((encE x)[t]!)
      rw [getElem!_pos _ t (by rw [encE_len]; exact ht)]
      rfl
    · have h0 : t / 7 = (t - 7) / 7 + 1 := by omega
      have h1 : t % 7 = (t - 7) % 7 := by omega
      rw [List.getElem?_append_right (by rw [encE_len]; omega), encE_len, fm7 rs (t - 7) (by simp at h; omega), h0, h1]
      rfl
theorem fm7_len (rs : List (ByteArray × EntV)) : (rs.flatMap encE).length = rs.length * 7 := by
  induction rs with
  | nil => rfl
  | cons x rs ih => rw [List.flatMap_cons, List.length_append, ih, encE_len, List.length_cons]; omega
theorem flat7 (rs : List (ByteArray × EntV)) : (flatK encE 7 rs.toArray).toList = rs.flatMap encE := by
  apply List.ext_getElem?
  intro t
  by_cases ht : t < rs.length * 7
  · have hsz : t < (flatK encE 7 rs.toArray).size := by simpa using ht
    rw [fm7 rs t ht, Array.getElem?_toList, Array.getElem?_eq_getElem hsz]
    have h1 := get_flatK encE 7 rs.toArray t (by simpa using ht)
    rw [getElem!_pos _ t hsz] at h1
    rw [h1, getElem!_pos rs.toArray (t / 7) (by simp; omega)]
    simp only [List.getElem_toArray, List.getD_eq_getElem?_getD, List.getElem?_eq_getElem (show t / 7 < rs.length by omega), Option.getD_some]
  · rw [List.getElem?_eq_none (by simp; omega), List.getElem?_eq_none (by rw [fm7_len]; omega)]
theorem cells_ent {Z : Nat → Prop} {w : World} : ∀ {l : List (ByteArray × EntV)} {cs : List Value}, Cells entR Z w l cs ↔ cs = l.flatMap encE
  | [], cs => Iff.rfl
  | x :: l, cs => by
    constructor
    · rintro ⟨c, r, rfl, h1, h2⟩
      have h1' : c = encE x := h1
      rw [h1', cells_ent.1 h2, List.flatMap_cons]
    · rintro rfl
      exact ⟨encE x, l.flatMap encE, List.flatMap_cons, rfl, (cells_ent (Z := Z) (l := l)).2 rfl⟩
section
variable {w : World} {base g n c : Nat} {e : TypeId} {l : List (ByteArray × EntV)}
theorem openE (h : OwR entR NoZ w base e (.slice (some ⟨g, 0, none⟩) n c) l) : ∃ cur, Blk w g cur e ∧ cur.length = c * 7 ∧ n = l.length ∧ n ≤ c ∧ c ≤ maxLen ∧ base ≤ g ∧ cur.take (n * 7) = l.flatMap encE := by
  obtain ⟨cs, h1, h2, h3⟩ := h
  rcases h1.2 with ⟨he, _⟩ | ⟨g', cap, cur, he, hg, hh, hnc, hcm, hs, ht⟩
  · cases he
  · injection he with e1 e2 e3
    injection e1 with e1
    injection e1 with e1
    subst e1; subst e2; subst e3
    exact ⟨cur.toList, by simpa [Blk] using hh, by have hz7 : entR.sz = 7 := rfl; rw [hz7] at hs; simpa using hs, rfl, hnc, hcm, hg, by have hq := cells_ent.1 h2; rw [← hq]; exact ht⟩
theorem mkE {cur : List Value} (hB : Blk w g cur e) (hc : cur.length = c * 7) (hn : l.length ≤ c) (hcm : c ≤ maxLen) (hg : base ≤ g) (ht : cur.take (l.length * 7) = l.flatMap encE) : OwR entR NoZ w base e (.slice (some ⟨g, 0, none⟩) l.length c) l := by
  refine ⟨l.flatMap encE, ⟨fm7_len l, .inr ⟨g, c, cur.toArray, rfl, hg, hB, hn, hcm, by have hz7 : entR.sz = 7 := rfl; rw [hz7]; simpa using hc, by have hz7 : entR.sz = 7 := rfl; rw [hz7]; simpa using ht⟩⟩, cells_ent.2 rfl, fun b _ hz => hz⟩
theorem caseE {v : Value} (h : OwR entR NoZ w base e v l) : (v = .slice none 0 0 ∧ l = []) ∨ ∃ g c, v = .slice (some ⟨g, 0, none⟩) l.length c := by
  obtain ⟨cs, h1, h2, h3⟩ := h
  rcases h1.2 with ⟨he, hn⟩ | ⟨g', cap, cur, he, _⟩
  · exact .inl ⟨he, List.eq_nil_of_length_eq_zero hn⟩
  · exact .inr ⟨g', cap, he⟩
theorem swoE : SWO (ltOf fun x y : ByteArray × EntV => cmpS x.1 y.1) := by
  have hl : ∀ x y : ByteArray × EntV, ltOf (fun x y : ByteArray × EntV => cmpS x.1 y.1) x y = decide (slt x.1 y.1) := fun x y => by
    unfold ltOf
    exact decide_eq_decide.2 (cmpS_neg _ _)
  refine ⟨fun x => ?_, fun x y z h1 h2 => ?_, fun x y z h1 h2 => ?_⟩
  · rw [hl]; exact decide_eq_false (slt_irr _)
  · rw [hl] at *; exact decide_eq_true (slt_trans (of_decide_eq_true h1) (of_decide_eq_true h2))
  · rw [hl] at *
    refine decide_eq_false fun h => ?_
    rcases slt_tri x.1 y.1 with q | q | q
    · exact (of_decide_eq_false h1) q
    · rw [q] at h; exact (of_decide_eq_false h2) h
    · exact (of_decide_eq_false h2) (slt_trans q h)
def SrtE (l : List (ByteArray × EntV)) : Prop := ∀ i j (hj : j < l.length) (hi : i < j), ¬ slt l[j].1 (l[i]'(by omega)).1
theorem sortE_any (h : OwR entR NoZ w base 39 (.slice (some ⟨g, 0, none⟩) l.length c) l) (hl : l.length ≤ 1099511627776) :
    Calls Tryz.prog 42 #[.slice (some ⟨g, 0, none⟩) l.length c, .func (.func 43) #[] #[]] w (fun e w' => e = .returned (.tuple #[]) ∧ ∃ l', l'.Perm l ∧ SrtE l' ∧ OwR entR NoZ w' base 39 (.slice (some ⟨g, 0, none⟩) l'.length c) l' ∧ Fr [g] w w') := by
  obtain ⟨cur, hB, hcl, hn, hnc, hcm, hg, htk⟩ := openE h
  have hlt := hB.lt
  have hH : HoldsK encE 7 w g 0 l.toArray := by
    intro j hj
    have hj' : j < l.length * 7 := by simpa using hj
    refine ⟨?_, hB.frozen _⟩
    rw [Nat.zero_add, hB.cell]
    have h1 : (cur.take (l.length * 7))[j]? = (l.flatMap encE)[j]? := by rw [htk]
    rw [List.getElem?_take_of_lt hj'] at h1
    rw [h1, ← flat7, Array.getElem?_toList, getElem!_pos _ j hj, Array.getElem?_eq_getElem hj]
    rfl
  have hc := AnyQ.slices_SortFunc Tryz.laysSlF06_f42 7 Tryz.isAgg39 Tryz.sizeOf39 encE encE_len (fun x v hv => by simp [encE] at hv; rcases hv with rfl | rfl | rfl | rfl | rfl | rfl | rfl <;> rfl) (fun x y => cmpS x.1 y.1) swoE 43 #[] g 0 c l.toArray w (enters_of Tryz.func43 (by kernel_rfl) rfl) (fun _ _ _ _ x y => byKey43 x y _) hH hlt (by simp; omega)
  have hsz : l.toArray.size = l.length := rfl
  refine Calls.mono (show Calls Tryz.prog 42 #[.slice (some ⟨g, 0, none⟩) l.length c, .func (.func 43) #[] #[]] w _ from hc) ?_
  rintro e w' ⟨rfl, d', n, os, hp, hs, rfl⟩
  obtain ⟨l', rfl⟩ : ∃ l' : List (ByteArray × EntV), d' = l'.toArray := ⟨d'.toList, by simp⟩
  have hlen : l'.length = l.length := by have := hp.1; simpa using this
  have hperm : l'.Perm l := by
    have := hp.2.2
    rw [hsz] at this
    have e1 : (l'.toArray.extract 0 l.length).toList = l' := by rw [← hlen]; simp
    have e2 : (l.toArray.extract 0 l.length).toList = l := by simp
    rw [e1, e2] at this
    exact this
  have hw : sortWorldK encE 7 w g 0 n l'.toArray os = grow (putRow id (Sort.ahead w n) g 0 (flatK encE 7 l'.toArray)) os := rfl
  rw [hw]
  have hblk : (grow (putRow id (Sort.ahead w n) g 0 (flatK encE 7 l'.toArray)) os).heap[g]? = some (.cells (putCells id 0 (flatK encE 7 l'.toArray) cur.toArray) 39 (0, 0)) := by
    rw [heap_grow_old _ _ (by simp [putRow, mapBlock]; exact hlt)]
    simp only [putRow, mapBlock, Sort.ahead, Array.getElem?_modify, if_true]
    have : w.heap[g]? = some (.cells cur.toArray 39 (0, 0)) := hB
    rw [this]
    rfl
  refine ⟨rfl, l', hperm, ?_, mkE (cur := (putCells id 0 (flatK encE 7 l'.toArray) cur.toArray).toList) (by unfold Blk; rw [hblk]) (by simp [putCells, hcl]) (by omega) hcm hg ?_, ?_⟩
  · intro i j hj hi
    have := hs i j (Nat.zero_le _) hi (by rw [hsz]; omega)
    unfold ltOf at this
    rw [getElem!_pos l'.toArray j (by simpa using hj), getElem!_pos l'.toArray i (by simp; omega)] at this
    simp only [List.getElem_toArray] at this
    exact fun hq => (of_decide_eq_false this) ((cmpS_neg _ _).2 hq)
  · apply List.ext_getElem?
    intro j
    rw [List.getElem?_take]
    split
    · rename_i hj
      have hjc : j < cur.length := by
        have : l'.length * 7 ≤ c * 7 := Nat.mul_le_mul_right _ (by omega)
        omega
      have hjf : j < (flatK encE 7 l'.toArray).size := by simpa using hj
      rw [← flat7]
      simp only [putCells, Array.getElem?_toList, Array.getElem?_mapIdx, List.getElem?_toArray, List.getElem?_eq_getElem hjc, Option.map_some]
      rw [if_pos ⟨Nat.zero_le _, by rw [Nat.zero_add]; exact hjf⟩, Nat.sub_zero, getElem!_pos _ j hjf, Array.getElem?_eq_getElem hjf]
      rfl
    · rename_i hj
      rw [List.getElem?_eq_none (by rw [fm7_len]; omega)]
  · refine ⟨rfl, rfl, rfl, ?_, fun k hk hne => ?_⟩
    · simp [putRow, mapBlock, Sort.ahead]
    · rw [heap_grow_old _ _ (by simp [putRow, mapBlock, Sort.ahead]; exact hk)]
      simp only [putRow, mapBlock, Sort.ahead, Array.getElem?_modify]
      rw [if_neg (fun e => hne (by simp [e]))]
end
end Go.Proofs.YtjkegckfncfoaaaGreat
end
section
namespace Go.Proofs.YtjkegckfncfoaaaGreat
open Go.V Go.Base
open Go.RowKit (Below)
attribute [local irreducible] Act.put Act.eval
set_option linter.unusedVariables false
set_option linter.unusedSimpArgs false
/-! ### What is in a space's table -/
theorem vl_flat {seed : Nat} {k : ByteArray} : ∀ {a : List (List (ByteArray × EntV))} (m n : Nat), (∀ i, ∀ x ∈ a.getD i [], bkt seed n x.1 = m + i) → vl k a.flatten = if m ≤ bkt seed n k ∧ bkt seed n k < m + a.length then vl k (a.getD (bkt seed n k - m) []) else []
  | [], m, n, h => by rw [if_neg (by rintro ⟨h1, h2⟩; rw [List.length_nil] at h2; omega)]; rfl
  | x :: a, m, n, h => by
    have ih := vl_flat (seed := seed) (k := k) (a := a) (m + 1) n fun i y hy => by have := h (i + 1) y (by simpa using hy); omega
    rw [List.flatten_cons, vl_app, ih]
    by_cases he : bkt seed n k = m
    · rw [if_neg (by omega), List.append_nil, if_pos (by simp; omega), he, Nat.sub_self]; rfl
    · have hx : vl k x = [] := vl_none fun y hy e => he (by have := h 0 y (by simpa using hy); rw [e] at this; omega)
      rw [hx, List.nil_append]
      by_cases hc : m + 1 ≤ bkt seed n k ∧ bkt seed n k < m + 1 + a.length
      · rw [if_pos hc, if_pos (by simp; omega)]
        have h1 : bkt seed n k - m = (bkt seed n k - (m + 1)) + 1 := by omega
        rw [h1]; rfl
      · rw [if_neg hc, if_neg (by simp; omega)]
theorem va_flat {seed : Nat} {k : ByteArray} {a : List (List (ByteArray × EntV))} (h : placed seed a) : vl k a.flatten = va seed a k := by
  rw [vl_flat 0 a.length fun i x hx => by rw [h i x hx]; omega]
  unfold va
  split
  · rfl
  · rename_i hc
    rw [List.getD_eq_getElem?_getD, List.getElem?_eq_none (by omega)]; rfl
theorem vt_items {T : Tb EntV} (hw : T.Wf) (k : ByteArray) : vl k (T.a ++ T.b).flatten = vt T k := by
  rw [List.flatten_append, vl_app, va_flat hw.pa, va_flat hw.pb]; rfl
theorem vl_mem {k : ByteArray} {l : List (ByteArray × EntV)} {v : EntV} : v ∈ vl k l ↔ (k, v) ∈ l := by
  unfold vl
  rw [List.mem_filterMap]
  constructor
  · rintro ⟨x, hx, h⟩
    split at h
    · rename_i e; injection h with h; subst e; subst h; exact hx
    · cases h
  · exact fun h => ⟨(k, v), h, if_pos rfl⟩
theorem keys_nodup : ∀ {l : List (ByteArray × EntV)}, (∀ k, (vl k l).length ≤ 1) → (l.map (·.1)).Nodup
  | [], _ => List.nodup_nil
  | x :: l, h => by
    rw [List.map_cons, List.nodup_cons]
    refine ⟨fun hm => ?_, keys_nodup fun k => ?_⟩
    · obtain ⟨y, hy, he⟩ := List.mem_map.1 hm
      have h1 := h x.1
      rw [vl_cons, if_pos rfl] at h1
      have h2 : y.2 ∈ vl x.1 l := vl_mem.2 (by rw [← he]; exact hy)
      have := List.length_pos_of_mem h2
      simp at h1
      rw [h1] at h2
      simp at h2
    · have h1 := h k
      rw [vl_cons, List.length_append] at h1
      omega
section
variable {w : World} {H Vb : Nat → Prop} {sp t : Nat} {T : Tb EntV} {D : ByteArray → Option EnD} (hq : SpX w H Vb sp t T D)
include hq
theorem SpX.items_nodup : ((T.a ++ T.b).flatten.map (·.1)).Nodup := keys_nodup fun k => by rw [vt_items hq.hw]; exact hq.hw.un k
theorem SpX.item {x : ByteArray × EntV} (hx : x ∈ (T.a ++ T.b).flatten) : ∃ xd Al cl Az cz Ah ch, D xd.key = some xd ∧ okD xd ∧ x = (xd.key, ⟨xd.k, xd.s, ⟨Al, xd.l.length, cl⟩, ⟨Az, xd.z.length, cz⟩, ⟨Ah, xd.h.length, ch⟩, xd.till⟩) ∧
    SlR Rp.str Vb w (.slice Al xd.l.length cl) xd.l ∧ SlR scR Vb w (.slice Az xd.z.length cz) xd.z ∧ SlR fdR Vb w (.slice Ah xd.h.length ch) xd.h := by
  have hv : x.2 ∈ vt T x.1 := by rw [← vt_items hq.hw]; exact vl_mem.2 hx
  rcases hq.hE x.1 with ⟨h1, _⟩ | ⟨v, xd, h1, h2, h3, h4, h5, h6, h7, h8, h9, h10, h11, h12, h13⟩
  · rw [h1] at hv; simp at hv
  · rw [h1] at hv
    simp at hv
    obtain ⟨k, ⟨kd, s, ⟨Al, nl, cl⟩, ⟨Az, nz, cz⟩, ⟨Ah, nh, ch⟩, tl⟩⟩ := x
    subst hv
    dsimp only at h2 h3 h5 h6 h7 h8 h9 h10 h11 h12 h13
    subst h3; subst h5; subst h6; subst h7; subst h8; subst h9; subst h10
    exact ⟨xd, Al, cl, Az, cz, Ah, ch, h2, h4, rfl, h11, h12, h13⟩
theorem SpX.item_of {k : ByteArray} {xd : EnD} (hD : D k = some xd) : ∃ v, (k, v) ∈ (T.a ++ T.b).flatten ∧ v.till = xd.till := by
  rcases hq.hE k with ⟨_, h2⟩ | ⟨v, x, h1, h2, h3, h4, h5⟩
  · rw [hD] at h2; cases h2
  · rw [hD] at h2
    injection h2 with h2
    subst h2
    exact ⟨v, vl_mem.1 (by rw [vt_items hq.hw, h1]; exact List.mem_cons_self ..), h5.2.2.1⟩
end
/-! ### Rows of keys; of entries -/
def KeysOf (D : ByteArray → Option EnD) (p : Int → Bool) (l : List ByteArray) : Prop := Inc l ∧ ∀ k, k ∈ l ↔ ∃ x, D k = some x ∧ p x.till = true
theorem srtK_mem {l : List ByteArray} {k : ByteArray} : k ∈ srtK l ↔ k ∈ l := by
  unfold srtK sortS
  rw [List.mem_map]
  constructor
  · rintro ⟨a, ha, rfl⟩
    obtain ⟨b, hb, rfl⟩ := List.mem_map.1 ((List.mergeSort_perm _ _).mem_iff.1 ha)
    rw [ofL_toL]; exact hb
  · exact fun h => ⟨toL k, (List.mergeSort_perm _ _).mem_iff.2 (List.mem_map.2 ⟨k, h, rfl⟩), ofL_toL k⟩
theorem srtK_inc {l : List ByteArray} (h : l.Nodup) : Inc (srtK l) := by
  have hs : (sortS l).Pairwise (fun x y => x ≤ y) := by
    have := List.pairwise_mergeSort (le := fun x y : List UInt8 => decide (x ≤ y)) (fun a b c h1 h2 => by simp at *; exact List.le_trans h1 h2) (fun a b => by simp; exact List.le_total a b) (l.map toL)
    exact this.imp fun h => by simpa using h
  have hn : (sortS l).Nodup := (List.mergeSort_perm _ _).nodup_iff.2 (List.Pairwise.map toL (fun {a b} hne (e : toL a = toL b) => hne (toL_inj e)) h)
  unfold Inc srtK
  rw [List.pairwise_map]
  refine (hs.and hn).imp fun {a b} ⟨h1, h2⟩ => ?_
  rcases slt_tri (ofL a) (ofL b) with h | h | h
  · exact h
  · exact absurd (by rw [← toL_ofL a, ← toL_ofL b, h]) h2
  · rw [slt_iff, toL_ofL, toL_ofL] at h
    exact absurd h (List.not_lt.2 h1)
theorem keys_of {w : World} {H Vb : Nat → Prop} {sp t : Nat} {T : Tb EntV} {D : ByteArray → Option EnD} (hq : SpX w H Vb sp t T D) (p : Int → Bool) : KeysOf D p (srtK (keysP p (T.a ++ T.b).flatten)) := by
  refine ⟨srtK_inc (List.Nodup.sublist (List.Sublist.map _ (List.filter_sublist ..)) hq.items_nodup), fun k => ?_⟩
  rw [srtK_mem]
  unfold keysP
  rw [List.mem_map]
  constructor
  · rintro ⟨x, hx, rfl⟩
    obtain ⟨hm, hp⟩ := List.mem_filter.1 hx
    obtain ⟨xd, _, _, _, _, _, _, hD, _, rfl, _⟩ := hq.item hm
    exact ⟨xd, hD, hp⟩
  · rintro ⟨x, hD, hp⟩
    obtain ⟨v, hm, ht⟩ := hq.item_of hD
    exact ⟨(k, v), List.mem_filter.2 ⟨hm, by rw [ht]; exact hp⟩, rfl⟩
end Go.Proofs.YtjkegckfncfoaaaGreat
end
section
namespace Go.Proofs.YtjkegckfncfoaaaGreat
open Go.V Go.Base
open Go.RowKit (Below)
attribute [local irreducible] Act.put Act.eval
set_option linter.unusedVariables false
set_option linter.unusedSimpArgs false
theorem info39 : (Tryz.prog.info? 39).map (fun i => (i.zero, i.size, i.bytes)) = some (some (.agg #[.string ⟨#[]⟩, .int .i64 0, .string ⟨#[]⟩, .slice none 0 0, .slice none 0 0, .slice none 0 0, .int .i64 0]), 7, 120) := by kernel_rfl
/-! ### Rows of entries, and their data -/
def All2 {α β : Type} (P : α → β → Prop) : List α → List β → Prop
  | [], [] => True
  | a :: l, b :: m => P a b ∧ All2 P l m
  | _, _ => False
section
variable {α β : Type} {P Q : α → β → Prop}
theorem All2.len : ∀ {l : List α} {m : List β}, All2 P l m → l.length = m.length
  | [], [], _ => rfl
  | a :: l, b :: m, h => by rw [List.length_cons, List.length_cons, All2.len h.2]
  | [], b :: m, h => h.elim
  | a :: l, [], h => h.elim
theorem All2.imp (f : ∀ a b, P a b → Q a b) : ∀ {l : List α} {m : List β}, All2 P l m → All2 Q l m
  | [], [], _ => trivial
  | a :: l, b :: m, h => ⟨f a b h.1, All2.imp f h.2⟩
  | [], b :: m, h => h.elim
  | a :: l, [], h => h.elim
theorem All2.app {l' : List α} {m' : List β} (h' : All2 P l' m') : ∀ {l : List α} {m : List β}, All2 P l m → All2 P (l ++ l') (m ++ m')
  | [], [], _ => h'
  | a :: l, b :: m, h => ⟨h.1, All2.app h' h.2⟩
  | [], b :: m, h => h.elim
  | a :: l, [], h => h.elim
theorem All2.get : ∀ {l : List α} {m : List β}, All2 P l m → ∀ {i : Nat} {b : β}, m[i]? = some b → ∃ a, l[i]? = some a ∧ P a b
  | [], [], _, i, b, h => by simp at h
  | a :: l, c :: m, h, 0, b, hb => by simp at hb; subst hb; exact ⟨a, rfl, h.1⟩
  | a :: l, c :: m, h, i + 1, b, hb => by simpa using All2.get h.2 (i := i) (by simpa using hb)
  | [], c :: m, h, _, _, _ => h.elim
  | a :: l, [], h, _, _, _ => h.elim
theorem All2.perm {l' l : List α} (hp : l'.Perm l) : ∀ {m : List β}, All2 P l m → ∃ m', m'.Perm m ∧ All2 P l' m' := by
  induction hp with
  | nil => exact fun {m} h => ⟨m, .refl _, h⟩
  | cons x _ ih =>
    intro m h
    cases m with
    | nil => exact h.elim
    | cons b m =>
      obtain ⟨m', h1, h2⟩ := ih h.2
      exact ⟨b :: m', h1.cons b, h.1, h2⟩
  | swap x y l =>
    intro m h
    match m, h with
    | b :: c :: m, h => exact ⟨c :: b :: m, .swap b c m, h.2.1, h.1, h.2.2⟩
    | [b], h => exact h.2.elim
    | [], h => exact h.elim
  | trans _ _ ih1 ih2 =>
    intro m h
    obtain ⟨m1, h1, h2⟩ := ih2 h
    obtain ⟨m2, h3, h4⟩ := ih1 h2
    exact ⟨m2, h3.trans h1, h4⟩
end
def AllE (Z : Nat → Prop) (w : World) (rs : List (ByteArray × EntV)) (xs : List EnD) : Prop := All2 (fun r x => r.1 = x.key ∧ EntIs Z w r.2 x) rs xs
section
variable {Z Z' : Nat → Prop} {w w1 : World} {rs : List (ByteArray × EntV)} {xs : List EnD} {nq N m : Nat} {v : Value}
theorem AllE.perm {rs' : List (ByteArray × EntV)} (hp : rs'.Perm rs) (h : AllE Z w rs xs) : ∃ xs', xs'.Perm xs ∧ AllE Z w rs' xs' := All2.perm hp h
theorem AllE.nil : AllE Z w [] [] := trivial
theorem AllE.fr {l : List Nat} (h : AllE Z w rs xs) (f : Fr l w w1) (hl : ∀ k ∈ l, ¬ Z k) : AllE Z w1 rs xs := All2.imp (fun a b q => ⟨q.1, q.2.frP (FrP.of f) fun k hz hm => hl k hm hz⟩) h
theorem AllE.fr0 (h : AllE Z w rs xs) (f : Fr [] w w1) : AllE Z w1 rs xs := h.fr f fun k hk => absurd hk (by simp)
theorem AllE.zone (h : AllE Z w rs xs) (hz : ∀ k, Z k → Z' k) : AllE Z' w rs xs := All2.imp (fun a b q => ⟨q.1, q.2.zone hz⟩) h
theorem AllE.raise (h : AllE (Zi nq N v) w rs xs) (hm : N ≤ m) : AllE (Zi nq m v) w rs xs := h.zone fun k q => ⟨q.1, Nat.lt_of_lt_of_le q.2.1 hm, q.2.2⟩
theorem AllE.add {Al Az Ah : Option Addr} {cl cz ch b1 b2 b3 : Nat} {x : EnD} (h : AllE (Zi nq N v) w rs xs) {v1 : Value} {N1 : Nat} (hz : ∀ k, Zi nq N v k → Zi nq N1 v1 k) (o1 : OwR Rp.str NoZ w b1 9 (.slice Al x.l.length cl) x.l) (o2 : OwR scR NoZ w b2 107 (.slice Az x.z.length cz) x.z) (o3 : OwR fdR NoZ w b3 110 (.slice Ah x.h.length ch) x.h)
    (hd : ∀ k, ((Value.slice Al x.l.length cl).ownBlock = some k ∨ (Value.slice Az x.z.length cz).ownBlock = some k ∨ (Value.slice Ah x.h.length ch).ownBlock = some k) → Zi nq N1 v1 k) :
    AllE (Zi nq N1 v1) w (rs ++ [(x.key, ⟨x.k, x.s, ⟨Al, x.l.length, cl⟩, ⟨Az, x.z.length, cz⟩, ⟨Ah, x.h.length, ch⟩, x.till⟩)]) (xs ++ [x]) :=
  have h1 : AllE (Zi nq N1 v1) w [(x.key, ⟨x.k, x.s, ⟨Al, x.l.length, cl⟩, ⟨Az, x.z.length, cz⟩, ⟨Ah, x.h.length, ch⟩, x.till⟩)] [x] := ⟨⟨rfl, rfl, rfl, rfl, rfl, rfl, rfl, own_zone o1 (fun _ _ _ _ q => q) fun b q => hd b (.inl q), own_zone o2 (fun _ _ _ _ q => q) fun b q => hd b (.inr (.inl q)), own_zone o3 (fun _ _ _ _ q => q) fun b q => hd b (.inr (.inr q))⟩, trivial⟩
  All2.app h1 (h.zone hz)
theorem encE_ok {r : ByteArray × EntV} {x : EnD} (h : r.1 = x.key) (q : EntIs Z w r.2 x) : enR.ok Z w x (encE r) := by
  obtain ⟨k, ⟨kd, s, ⟨Al, nl, cl⟩, ⟨Az, nz, cz⟩, ⟨Ah, nh, ch⟩, tl⟩⟩ := r
  obtain ⟨h1, h2, h3, h4, h5, h6, h7, h8, h9⟩ := q
  dsimp only at h h1 h2 h3 h4 h5 h6 h7 h8 h9
  subst h; subst h1; subst h2; subst h3; subst h4; subst h5; subst h6
  exact ⟨_, _, _, rfl, h7, h8, h9⟩
/-- A row of entries is a row of their data. -/
theorem AllE.row {Zr : Nat → Prop} {A : Option Addr} {c : Nat} (hS : SlR entR Zr w (.slice A rs.length c) rs) (h : AllE Z w rs xs) (hz : ∀ k, Z k → Z' k) (hr : ∀ k, Zr k → Z' k) : SlR enR Z' w (.slice A xs.length c) xs := by
  obtain ⟨A', c', e, l1, l2, l3⟩ := hS
  injection e with e1 e2 e3
  subst e1; subst e3
  have hl := All2.len h
  refine ⟨A, c, rfl, by omega, by omega, fun i x hi => ?_⟩
  obtain ⟨r, hr1, hk, he⟩ := All2.get h hi
  obtain ⟨g, o, cs, hA, hZ, hg, hok, hc⟩ := l3 i r hr1
  have hok' : cs = encE r := hok
  subst hok'
  exact ⟨g, o, encE r, hA, hr g hZ, hg, (encE_ok hk (he.zone hz)), hc⟩
end
/-! ### The image -/
def imgD (D : ByteArray → Option EnD) (l : List (ByteArray × EntV)) : List EnD := l.filterMap fun x => D x.1
theorem imgD_add {D : ByteArray → Option EnD} {l : List (ByteArray × EntV)} {x : ByteArray × EntV} {xd : EnD} (h : D x.1 = some xd) : imgD D (l ++ [x]) = imgD D l ++ [xd] := by unfold imgD; rw [List.filterMap_append]; simp [h]
def ImgL (D : ByteArray → Option EnD) (l : List EnD) : Prop := l.Pairwise (fun a b => slt a.key b.key) ∧ ∀ x, x ∈ l ↔ D x.key = some x
theorem all_keys {Z : Nat → Prop} {w : World} : ∀ {rs : List (ByteArray × EntV)} {xs : List EnD}, AllE Z w rs xs → xs.map (·.key) = rs.map (·.1)
  | [], [], _ => rfl
  | r :: rs, x :: xs, h => by rw [List.map_cons, List.map_cons, h.1.1, all_keys (rs := rs) (xs := xs) h.2]
  | [], _ :: _, h => h.elim
  | _ :: _, [], h => h.elim
theorem img_of {w w' : World} {H Vb Z : Nat → Prop} {sp t : Nat} {T : Tb EntV} {D : ByteArray → Option EnD} (hq : SpX w H Vb sp t T D) {rs' : List (ByteArray × EntV)} {xs' : List EnD} (hs : SrtE rs') (ha : AllE Z w' rs' xs') (hp : xs'.Perm (imgD D (T.a ++ T.b).flatten)) : ImgL D xs' := by
  have hk := all_keys ha
  have hkd : ∀ (l : List (ByteArray × EntV)), (∀ x ∈ l, x ∈ (T.a ++ T.b).flatten) → (imgD D l).map (·.key) = l.map (·.1) := by
    intro l
    induction l with
    | nil => exact fun _ => rfl
    | cons x l ih =>
      intro h
      obtain ⟨xd, _, _, _, _, _, _, hD, _, rfl, _⟩ := hq.item (h x (List.mem_cons_self ..))
      unfold imgD
      rw [List.filterMap_cons]
      simp only [hD]
      rw [List.map_cons, List.map_cons]
      exact congrArg _ (ih fun y hy => h y (List.mem_cons_of_mem _ hy))
  have hn : (xs'.map (·.key)).Nodup := by
    rw [(hp.map (·.key)).nodup_iff, hkd _ fun x hx => hx]
    exact hq.items_nodup
  refine ⟨?_, fun x => ?_⟩
  · rw [List.pairwise_iff_getElem]
    intro i j hi hj hij
    have hl := All2.len ha
    have h1 := hs i j (by omega) hij
    have e1 : ∀ i (hi : i < xs'.length), (xs'[i]).key = (rs'[i]'(by omega)).1 := fun i hi => by
      have : (xs'.map (·.key))[i]? = (rs'.map (·.1))[i]? := by rw [hk]
      rw [List.getElem?_map, List.getElem?_map, List.getElem?_eq_getElem hi, List.getElem?_eq_getElem (by omega)] at this
      simpa using this
    rw [← e1 i hi, ← e1 j hj] at h1
    rcases slt_tri (xs'[i]).key (xs'[j]).key with q | q | q
    · exact q
    · rw [List.nodup_iff_pairwise_ne, List.pairwise_map, List.pairwise_iff_getElem] at hn
      exact absurd q (hn i j hi hj hij)
    · exact absurd q h1
  · rw [hp.mem_iff]
    unfold imgD
    rw [List.mem_filterMap]
    constructor
    · rintro ⟨y, hy, hD⟩
      obtain ⟨xd, _, _, _, _, _, _, hD', _, rfl, _⟩ := hq.item hy
      dsimp only at hD
      rw [hD'] at hD
      injection hD with hD
      subst hD
      exact hD'
    · intro hD
      obtain ⟨v, hm, _⟩ := hq.item_of hD
      exact ⟨_, hm, hD⟩
/-- One image alone. -/
theorem img_one' {D : ByteArray → Option EnD} : ∀ {l m : List EnD}, l.Pairwise (fun a b => slt a.key b.key) → m.Pairwise (fun a b => slt a.key b.key) → (∀ x, x ∈ l ↔ x ∈ m) → l = m
  | [], [], _, _, _ => rfl
  | [], b :: m, _, _, h => absurd ((h b).2 (List.mem_cons_self ..)) (by simp)
  | a :: l, [], _, _, h => absurd ((h a).1 (List.mem_cons_self ..)) (by simp)
  | a :: l, b :: m, h1, h2, h => by
    rw [List.pairwise_cons] at h1 h2
    have hab : a = b := by
      rcases List.mem_cons.1 ((h a).1 (List.mem_cons_self ..)) with e | e
      · exact e
      · rcases List.mem_cons.1 ((h b).2 (List.mem_cons_self ..)) with e' | e'
        · exact e'.symm
        · exact absurd (h2.1 a e) (slt_asymm (h1.1 b e'))
    subst hab
    refine congrArg _ (img_one' (D := D) h1.2 h2.2 fun x => ?_)
    constructor
    · intro hx
      rcases List.mem_cons.1 ((h x).1 (List.mem_cons_of_mem _ hx)) with e | e
      · subst e; exact absurd (h1.1 x hx) (slt_irr _)
      · exact e
    · intro hx
      rcases List.mem_cons.1 ((h x).2 (List.mem_cons_of_mem _ hx)) with e | e
      · subst e; exact absurd (h2.1 x hx) (slt_irr _)
      · exact e
theorem ImgL.uniq {D : ByteArray → Option EnD} {l m : List EnD} (h1 : ImgL D l) (h2 : ImgL D m) : l = m := img_one' (D := D) h1.1 h2.1 fun x => (h1.2 x).trans (h2.2 x).symm
end Go.Proofs.YtjkegckfncfoaaaGreat
end
section
namespace Go.Proofs.YtjkegckfncfoaaaGreat
open Go.V Go.Base
open Go.RowKit (Below)
attribute [local irreducible] Act.put Act.eval
set_option linter.unusedVariables false
set_option linter.unusedSimpArgs false
theorem sort_en {w : World} {base : Nat} {A : Option Addr} {c : Nat} {l : List (ByteArray × EntV)} (h : OwR entR NoZ w base 39 (.slice A l.length c) l) (hl : l.length ≤ 1099511627776) :
    Calls Tryz.prog 42 #[.slice A l.length c, .func (.func 43) #[] #[]] w (fun e w' => e = .returned (.tuple #[]) ∧ ∃ l', l'.Perm l ∧ SrtE l' ∧ OwR entR NoZ w' base 39 (.slice A l'.length c) l' ∧ Fr ((Value.slice A l.length c).ownBlock.toList) w w') := by
  rcases caseE h with ⟨he, rfl⟩ | ⟨g, c', he⟩
  · injection he with e1 e2 e3
    subst e1; subst e3
    refine (show Calls Tryz.prog 42 #[.slice none ([] : List (ByteArray × EntV)).length 0, .func (.func 43) #[] #[]] w _ from AnyF.slices_SortFunc_none Tryz.laysSlF06_f42 none 0 (.func (.func 43) #[] #[]) w).mono fun e w' ⟨h1, h2⟩ => ⟨h1, [], .refl _, fun i j hj => absurd hj (by simp), OwR.nil .., h2 ▸ Fr.refl _ _⟩
  · injection he with e1 e2 e3
    subst e1; subst e3
    refine (sortE_any h hl).mono fun e w' ⟨h1, l', h2, h3, h4, h5⟩ => ⟨h1, l', h2, h3, h4, h5.mono (by simp [Value.ownBlock])⟩
set_option maxHeartbeats 4000000 in
set_option maxRecDepth 20000 in
theorem image_any (w : World) (H Vb : Nat → Prop) (sp t : Nat) (T : Tb EntV) (D : ByteArray → Option EnD) (hq : SpX w H Vb sp t T D) : Calls Tryz.prog 14 #[.pointer (some ⟨sp, 0, none⟩)] w (fun e w' => ∃ A c rs xs nq, e = .returned (.slice A xs.length c) ∧ rs.length = xs.length ∧ OwR entR NoZ w' nq 39 (.slice A rs.length c) rs ∧ AllE (fun k => nq ≤ k ∧ (Value.slice A rs.length c).ownBlock ≠ some k) w' rs xs ∧ ImgL D xs ∧ w.heap.size ≤ nq ∧ Fr [] w w') := by
 have hF := Fr.refl [] w
 have hX := hq
 have hB := hq.hB
 have hspl := hB.lt
 have hX0 := hq.lt
 have hcn := hq.hT.1.cn
 have hM := hq.hM
 refine V.enM 29 Tryz.func14 fun a h1 => ?_
 refine V.sr h1 [] 2 2 [] fun a h4 => ?_
 refine V.seq fun K5 k6 => ?_
 refine V.sg fun K7 k8 => ?_
 refine V.run h4 [] 1 1 0 [(6, .pointer (some ⟨sp, 0, none⟩))] fun a h9 => ?_
 refine V.cl h9 (Go.Proofs.enters_of Tryz.func29 (by kernel_rfl) rfl) (isp_any w sp t hX.hB) ?_
 rintro _ w11 ⟨rfl, hF10⟩
 refine ⟨_, rfl, fun a h12 => ?_⟩
 have hsw11 := hF10.size
 have hX_13 := hX.fr0 hF10
 have hB_14 := hB.fr0 hF10
 have hF_15 := hF.new hF10
 refine V.re h12 [] 1 0 [(8, .bool false)] fun a h16 => k8 _ _ ?_
 refine V.cf h16 ?_
 refine V.skip ?_
 refine V.then_n (k6 _ _ ?_)
 refine V.sg fun K17 k18 => ?_
 refine V.go (V.mk [] trivial (by kernel_rfl) [.slice none 0 0] 22 (fun b => .pointer (some ⟨b, 0, none⟩)) (by kernel_rfl) ?_)
 intro w20 b19 heb19 hB21 hF22 hsb19
 have hX_23 := hX_13.fr0 hF22
 have hB_24 := hB_14.fr0 hF22
 have hF_25 := hF_15.new hF22
 refine V.pt h16 fun a h26 => ?_
 refine V.nt (k18 _ _ ?_)
 refine V.seq fun K27 k28 => ?_
 refine V.sg fun K29 k30 => ?_
 refine V.run h26 [(3, .b hB_24 0)] 4 9 11 [(12, .pointer (some ⟨t, 0, none⟩))] fun a h31 => ?_
 refine V.cl h31 (Go.Proofs.enters_of Tryz.func41 (by kernel_rfl) rfl) (all_any w20 (some ⟨t, 0, none⟩)) ?_
 rintro _ w35 ⟨b32, rfl, hB33, hleb32, hF34⟩
 refine ⟨_, rfl, fun a h36 => ?_⟩
 have hsw35 := hF34.size
 have hX_37 := hX_23.fr0 hF34
 have hB_38 := hB_24.fr0 hF34
 have hF_39 := hF_25.new hF34
 have hB21_40 := hB21.fr0 hF34
 have hlthB33 := hB33.lt
 refine V.nt (k30 _ _ ?_)
 refine V.block ?_
 refine V.rngQ h36.sd h36.e (Go.Proofs.enters_of Tryz.func72 (by kernel_rfl) rfl) (KB := fun nq k => w35.heap.size + 2 ≤ k ∧ k < nq) (fun nq k hnq hk => by (try dsimp only at hk); omega) (all1_iterQ w35 (H) [] t (T) hX_37.hT (fun k hk => (hX_37.hH k hk).2.2) b32 hB33) (fun _ => rfl) (fun (nq : Nat) (pre : List (ByteArray × EntV)) W_ => ∃ (A : Option Addr), ∃ (c : Nat), ∃ (rs : List (ByteArray × EntV)), Blk W_ b19 [.slice A rs.length c] 22 ∧ OwR entR NoZ W_ nq 39 (.slice A rs.length c) rs ∧ AllE (Zi nq W_.heap.size (.slice A rs.length c)) W_ rs (imgD D pre) ∧ Fr [] w W_ ∧ (w35.heap.size + 2 ≤ nq) ∧ (rs.length = pre.length)) (fun _ _ _ _ => False) ?_ ?_ ?_ ?_ ?_ ?_
 ·
  rintro nq pre W W1 ⟨A, c, rs, hB3, hO, hAll, hFr, hnq0, hrp⟩ hf
  have := hB3.lt
  have := hFr.size
  exact ⟨A, c, rs, (by exact hB3.fr1 hf (by omega)), (by exact hO.frn hf (fun h => h) (by first | exact own_ne hO (by omega))), (by exact (hAll.fr hf (by intro k hk hz; simp only [List.mem_singleton] at hk; subst hk; have := hz.1; have := hz.2.1; omega)).raise (m := W1.heap.size) hf.size), (by exact hFr.own hf (by simp <;> omega)), hnq0, hrp⟩
 · rintro _ _ _ _ _ h _
   exact h.elim
 ·
  rintro W hf hszW
  have hX_41 := hX_37.fr0 hf
  have hB_42 := hB_38.fr0 hf
  have hF_43 := hF_39.new hf
  have hB21_44 := hB21_40.fr0 hf
  have hB33_45 := hB33.fr0 hf
  exact ⟨none, 0, [], hB21_44, (OwR.nil ..), AllE.nil, hF_43, hszW, rfl⟩
 ·
  rintro l nq pre x W0 W hl hnq hnqW ⟨A, c, rs, hB3, hO, hAll, hFr, hnq0, hrp⟩ hfr hsp hsz a1 hz1 htm
  subst hl
  obtain ⟨rest, hrest⟩ := id hsp
  have hrl := congrArg List.length hrest
  rw [hcn] at hrl
  simp only [List.length_append, List.length_singleton] at hrl
  obtain ⟨xd, Al, cl, Az, cz, Ah, ch, hDx, hokx, rfl, hSl, hSz, hSh⟩ := hq.item (x := x) (by rw [← hrest]; simp)
  have hbx := okD_bnd hokx
  have hOlt := hO.lt
  have hszfr := hfr.size
  have hlt46 := hB3.lt
  have hfs47 := hFr.size
  have hB3_48 := hB3.fr0 hfr
  have hO_49 := hO.fr0 hfr
  have hAll_50 := hAll.fr0 hfr
  have hFr_51 := hFr.new hfr
  have hK := KeptP.refl (fun k => k = w35.heap.size ∨ k = w35.heap.size + 1 ∨ (w35.heap.size + 2 ≤ k ∧ k < nq)) W
  have htm1 : a1.tmps = (a.tmps.setIfInBounds 14 (.string xd.key)).setIfInBounds 15 (.agg #[.int .i64 xd.k, .string xd.s, .slice Al xd.l.length cl, .slice Az xd.z.length cz, .slice Ah xd.h.length ch, .int .i64 xd.till]) := by simpa [encP] using htm
  have s14 : a1.eval (.tmp 14) = (.string xd.key) := par2_fst h36.sd rfl rfl htm1
  have hE := (En.nil hz1).add s14
  have s15 : a1.eval (.tmp 15) = (.agg #[.int .i64 xd.k, .string xd.s, .slice Al xd.l.length cl, .slice Az xd.z.length cz, .slice Ah xd.h.length ch, .int .i64 xd.till]) := par2_snd h36.sd rfl htm1
  replace hE := hE.add s15
  have s3_52 : a1.eval (.tmp 3) = (.pointer (some ⟨b19, 0, none⟩)) := par2_other htm1 rfl rfl h36.e
  replace hE := hE.add s3_52
  refine V.sr hE [] 1 0 [(4, .string xd.key)] fun a h55 => ?_
  refine V.rg ?_
  refine V.go (V.mk [] trivial (by kernel_rfl) [.int .i64 0, .string ⟨#[]⟩, .slice none 0 0, .slice none 0 0, .slice none 0 0, .int .i64 0] 79 (fun b => .pointer (some ⟨b, 0, none⟩)) (by kernel_rfl) ?_)
  intro w57 b56 heb56 hB58 hF59 hsb56
  have hB3_60 := hB3_48.fr0 hF59
  have hO_61 := hO_49.fr0 hF59
  have hAll_62 := hAll_50.fr0 hF59
  have hFr_63 := hFr_51.new hF59
  have hK_64 := hK.fr hF59 (by simp)
  refine V.pt h55 fun a h65 => ?_
  refine V.go (V.stn b56 0 (.agg #[.int .i64 xd.k, .string xd.s, .slice Al xd.l.length cl, .slice Az xd.z.length cz, .slice Ah xd.h.length ch, .int .i64 xd.till]) [.int .i64 xd.k, .string xd.s, .slice Al xd.l.length cl, .slice Az xd.z.length cz, .slice Ah xd.h.length ch, .int .i64 xd.till] h65.e h65.e rfl rfl (by kernel_rfl) hB58 (by simp) [.int .i64 xd.k, .string xd.s, .slice Al xd.l.length cl, .slice Az xd.z.length cz, .slice Ah xd.h.length ch, .int .i64 xd.till] rfl ?_)
  intro w66 hB67 hF68 hsw66
  have hB3_69 := hB3_60.fr1 hF68 (by omega)
  have hO_70 := hO_61.frn hF68 (fun h => h) (by first | exact own_ne hO_61 (by omega) | exact own_ne2 hO (by omega))
  have hAll_71 := hAll_62.fr hF68 (by intro k hk hz; simp only [List.mem_singleton] at hk; subst hk; have := hz.1; have := hz.2.1; omega)
  have hFr_72 := hFr_63.own hF68 (by simp <;> omega)
  have hK_73 := hK_64.fr hF68 (by intro k hk; simp only [List.mem_singleton] at hk; subst hk; intro h; (try dsimp only at h); omega)
  refine V.nil ?_
  refine ⟨hK_73, fun W2 hf2 => ?_⟩
  have hszf2 := hf2.size
  have hB3_74 := hB3_69.fr1 hf2 (by omega)
  have hO_75 := hO_70.frn hf2 (fun h => h) (by first | exact own_ne hO_70 (by omega) | exact own_ne2 hO (by omega))
  have hAll_76 := hAll_71.fr hf2 (by intro k hk hz; simp only [List.mem_singleton] at hk; subst hk; have := hz.1; have := hz.2.1; omega)
  have hFr_77 := hFr_72.own hf2 (by simp <;> omega)
  have hB67_78 := hB67.fr1 hf2 (by omega)
  have hK2 := KeptP.refl (fun k => k = w35.heap.size ∨ k = w35.heap.size + 1 ∨ (w35.heap.size + 2 ≤ k ∧ k < nq)) W2
  refine V.block ?_
  have hS79 := hSl.fr0 hFr_77
  have hS80 := hSz.fr0 hFr_77
  have hS81 := hSh.fr0 hFr_77
  refine V.pl [([0,1,2,3,5,6],some (4,[0,6])),([7],some (8,[0])),([],some (9,[])),([],some (10,[])),([],none)] fun w82 hF83 hsw82 => ?_
  have hB3_84 := hB3_74.fr0 hF83
  have hO_85 := hO_75.fr0 hF83
  have hAll_86 := hAll_76.fr0 hF83
  have hFr_87 := hFr_77.new hF83
  have hB67_88 := hB67_78.fr0 hF83
  have hK2_89 := hK2.fr hF83 (by simp)
  have hS79_90 := hS79.fr0 hF83
  have hS80_91 := hS80.fr0 hF83
  have hS81_92 := hS81.fr0 hF83
  refine V.pe h65 [(0, .b hB3_84 0), (2, .bs hB67_88 0 [.int .i64 xd.k, .string xd.s, .slice Al xd.l.length cl, .slice Az xd.z.length cz, .slice Ah xd.h.length ch]), (1, .b hB67_88 5)] 18 18 [(16, .slice A rs.length c), (17, .string xd.key), (19, .agg #[.int .i64 xd.k, .string xd.s, .slice Al xd.l.length cl, .slice Az xd.z.length cz, .slice Ah xd.h.length ch]), (21, .pointer (some ⟨b56, 5, none⟩)), (22, .int .i64 xd.till)] fun a h93 => ?_
  refine V.cl h93 (Go.Proofs.enters_of Tryz.func33 (by kernel_rfl) rfl) (copied_any w82 xd.k xd.s Al cl xd.l hS79_90.old Az cz xd.z hS80_91.old Ah ch xd.h hS81_92.old (by omega) (by omega) (by omega)) ?_
  rintro _ w108 ⟨A94, c95, A96, c97, A98, c99, rfl, hO100, hO101, hO102, hd104, hF103⟩
  refine ⟨_, rfl, fun a h109 => ?_⟩
  have hsw108 := hF103.size
  have hB3_110 := hB3_84.fr0 hF103
  have hO_111 := hO_85.fr0 hF103
  have hAll_112 := hAll_86.fr0 hF103
  have hFr_113 := hFr_87.new hF103
  have hB67_114 := hB67_88.fr0 hF103
  have hK2_115 := hK2_89.fr hF103 (by simp)
  have hl105 := hO100.lt
  have hl106 := hO101.lt
  have hl107 := hO102.lt
  refine V.eh ⟨(fun _ => held_blk (n := 1) (hx := (h93.e (v := (.pointer (some ⟨b19, 0, none⟩))))) hB3_84 hB3_110 (by kernel_rfl) rfl (by simp only [List.length]; omega)), (fun _ => held_blk (n := 1) (hx := (h93.e (v := (.pointer (some ⟨b56, 5, none⟩))))) hB67_88 hB67_114 (by kernel_rfl) rfl (by simp only [List.length]; omega))⟩ ?_
  refine V.pe h109 [] 1 0 [(23, .agg #[.string xd.key, .int .i64 xd.k, .string xd.s, .slice A94 xd.l.length c95, .slice A96 xd.z.length c97, .slice A98 xd.h.length c99, .int .i64 xd.till])] fun a h116 => ?_
  refine V.go (V.mk [(23, .agg #[.string xd.key, .int .i64 xd.k, .string xd.s, .slice A94 xd.l.length c95, .slice A96 xd.z.length c97, .slice A98 xd.h.length c99, .int .i64 xd.till])] ⟨h116.e, trivial⟩ (by kernel_rfl) [.string xd.key, .int .i64 xd.k, .string xd.s, .slice A94 xd.l.length c95, .slice A96 xd.z.length c97, .slice A98 xd.h.length c99, .int .i64 xd.till] 39 (fun b => .slice (some ⟨b, 0, none⟩) 1 1) (by kernel_rfl) ?_)
  intro w118 b117 heb117 hB119 hF120 hsb117
  have hB3_121 := hB3_110.fr0 hF120
  have hO_122 := hO_111.fr0 hF120
  have hAll_123 := hAll_112.fr0 hF120
  have hFr_124 := hFr_113.new hF120
  have hB67_125 := hB67_114.fr0 hF120
  have hK2_126 := hK2_115.fr hF120 (by simp)
  have hO100_127 := hO100.fr0 hF120
  have hO101_128 := hO101.fr0 hF120
  have hO102_129 := hO102.fr0 hF120
  refine V.pt h116 fun a h130 => ?_
  refine V.eh (fun _ => held_blk (n := 1) (hx := (h116.e (v := (.pointer (some ⟨b19, 0, none⟩))))) hB3_110 hB3_121 (by kernel_rfl) rfl (by simp only [List.length]; omega)) ?_
  refine V.pe h130 [] 1 0 [] fun a h131 => ?_
  refine V.go (V.app (R := entR) (ys := ([(xd.key, ⟨xd.k, xd.s, ⟨A94, xd.l.length, c95⟩, ⟨A96, xd.z.length, c97⟩, ⟨A98, xd.h.length, c99⟩, xd.till⟩)])) (news := [.string xd.key, .int .i64 xd.k, .string xd.s, .slice A94 xd.l.length c95, .slice A96 xd.z.length c97, .slice A98 xd.h.length c99, .int .i64 xd.till]) (h131.e (v := (.slice A rs.length c))) ⟨b117, 0, none⟩ 1 1 (h131.e (v := (.slice (some ⟨b117, 0, none⟩) 1 1))) (by kernel_rfl) (info39) (by kernel_rfl) (by decide) hO_122 rfl ⟨_, [], rfl, rfl, rfl⟩ (blk_cells hB119 0 _ rfl) (by first | omega | (simp; omega)) (by decide) (by omega) ?_)
  intro A132 c133 w134 hO135z hF136 hatw134
  have hsw134 := hF136.size
  have hB3_137 := hB3_121.fr hF136 (by first | exact own_notin hO_122 (by omega) | exact own_notin2 hO (by omega))
  have hAll_138 := hAll_123.fr hF136 (by intro k hk hz; exact hz.2.2 (by simpa using hk))
  have hFr_139 := hFr_124.own hF136 (own_ge hO_122 (by omega))
  have hB67_140 := hB67_125.fr hF136 (by first | exact own_notin hO_122 (by omega) | exact own_notin2 hO (by omega))
  have hK2_141 := hK2_126.fr hF136 (by intro k hk; have hog := own_ge hO_122 (Nat.le_refl _) k hk; intro h; (try dsimp only at h); omega)
  have hO100_142 := hO100_127.fr hF136 (fun _ _ h => h) (fun b hb hm => by have hb1 := hl105 b hb; have hb2 := hO.lt b (by simpa using hm); omega)
  have hO101_143 := hO101_128.fr hF136 (fun _ _ h => h) (fun b hb hm => by have hb1 := hl106 b hb; have hb2 := hO.lt b (by simpa using hm); omega)
  have hO102_144 := hO102_129.fr hF136 (fun _ _ h => h) (fun b hb hm => by have hb1 := hl107 b hb; have hb2 := hO.lt b (by simpa using hm); omega)
  have hO135 := hO135z.zone (Z' := NoZ) (fun _ _ q => q.1) (fun _ _ q => q)
  refine V.pt h131 fun a h145 => ?_
  refine V.eh trivial ?_
  refine V.pe h145 [] 1 0 [] fun a h146 => ?_
  refine V.go (V.stn b19 0 (.slice A132 ((rs.length) + 1) c133) [.slice A132 ((rs.length) + 1) c133] h146.e h146.e rfl rfl (by kernel_rfl) hB3_137 (by simp) [.slice A132 ((rs.length) + 1) c133] rfl ?_)
  intro w147 hB148 hF149 hsw147
  have hAll_150 := hAll_138.fr hF149 (by intro k hk hz; simp only [List.mem_singleton] at hk; subst hk; have := hz.1; have := hz.2.1; omega)
  have hFr_151 := hFr_139.own hF149 (by simp <;> omega)
  have hB67_152 := hB67_140.fr1 hF149 (by omega)
  have hK2_153 := hK2_141.fr hF149 (by intro k hk; simp only [List.mem_singleton] at hk; subst hk; intro h; (try dsimp only at h); omega)
  have hO100_154 := hO100_142.frn hF149 (fun h => h) (fun e => by have := hl105 _ e; omega)
  have hO101_155 := hO101_143.frn hF149 (fun h => h) (fun e => by have := hl106 _ e; omega)
  have hO102_156 := hO102_144.frn hF149 (fun h => h) (fun e => by have := hl107 _ e; omega)
  have hO135_157 := hO135.frn hF149 (fun h => h) (by first | exact own_ne hO135 (by omega) | exact own_ne2 hO135 (by omega))
  refine V.eh trivial ?_
  refine V.pz h146 [] 1 0 [] fun a h158 => ?_
  refine V.blk_n ?_
  have hdx := imgD_add (l := pre) (x := (xd.key, ⟨xd.k, xd.s, ⟨Al, xd.l.length, cl⟩, ⟨Az, xd.z.length, cz⟩, ⟨Ah, xd.h.length, ch⟩, xd.till⟩)) hDx
  have hv1 : ∀ k, (Value.slice A132 ((rs.length) + 1) c133).ownBlock = some k → (Value.slice A rs.length c).ownBlock = some k ∨ k = w118.heap.size := fun k hk => by rcases hatw134 with q | q; exact .inl (q ▸ hk); (rw [q] at hk; injection hk with hk; exact .inr hk.symm)
  have hadd := hAll_150.add (x := xd) (v1 := .slice A132 ((rs.length) + 1) c133) (N1 := w147.heap.size) (fun k hk => ⟨hk.1, by have := hk.2.1; omega, fun e => by rcases hv1 k e with q | q; exact hk.2.2 q; have := hk.2.1; omega⟩) hO100_154 hO101_155 hO102_156 (fun k hk => by have hkb : w82.heap.size ≤ k ∧ k < w118.heap.size := (by rcases hk with q | q | q; (have := hl105 k q; omega); (have := hl106 k q; omega); (have := hl107 k q; omega)); exact ⟨by omega, by omega, fun e => by rcases hv1 k e with q | q; (have := hOlt k q; omega); omega⟩)
  exact ⟨hK2_153, A132, c133, rs ++ [(xd.key, ⟨xd.k, xd.s, ⟨A94, xd.l.length, c95⟩, ⟨A96, xd.z.length, c97⟩, ⟨A98, xd.h.length, c99⟩, xd.till⟩)], (by rw [List.length_append]; exact hB148), (by rw [List.length_append]; exact hO135_157), (by rw [hdx, List.length_append]; exact hadd), hFr_151, hnq0, (by rw [List.length_append, List.length_append, hrp]; rfl)⟩
 ·
  rintro nq xs W hnq hS ⟨A, c, rs, hB3, hO, hAll, hFr, hnq0, hrp⟩ hD a2 hz2 htm2
  obtain ⟨pre, hprexs⟩ : ∃ pre, pre = xs := ⟨_, rfl⟩; subst hprexs
  have hE := En.nil hz2
  have hlt159 := hB3.lt
  have hfs160 := hFr.size
  have hDf : Df W (w35.heap.size) := hD
  have hDlt := (Array.getElem?_eq_some_iff.1 hD).1
  have s3_161 : a2.eval (.tmp 3) = (.pointer (some ⟨b19, 0, none⟩)) := par_tm htm2 h36.e
  replace hE := hE.add s3_161
  refine V.blk_n ?_
  refine V.then_n (k28 _ _ ?_)
  refine V.seq fun K162 k163 => ?_
  have hpl9 : pre.length = T.n := by rw [hS]; exact hcn
  refine V.rg ?_
  refine V.run hE [(0, .b hB3 0)] 1 1 0 [(26, .slice A rs.length c)] fun a h164 => ?_
  refine V.cl h164 (Go.Proofs.enters_of Tryz.func42 (by kernel_rfl) rfl) (sort_en (c := c) (l := rs) hO (by omega)) ?_
  rintro _ w173 ⟨rfl, rs165, hp167, hs168, hO169, hF171⟩
  refine ⟨_, rfl, fun a h174 => ?_⟩
  have hsw173 := hF171.size
  have hB3_175 := hB3.fr hF171 (by first | exact own_notin hO (by omega))
  have hAll_176 := hAll.fr hF171 (by intro k hk hz; exact hz.2.2 (by simpa using hk))
  have hFr_177 := hFr.own hF171 (own_ge hO (by omega))
  have hDf_178 := hDf.fr hF171 (own_notin hO (by omega))
  obtain ⟨xs166, hpx172, hA170⟩ := AllE.perm hp167 hAll_176
  refine V.nt (k163 _ _ ?_)
  refine V.sr h174 [(0, .b hB3_175 0)] 28 28 [(2, .slice A rs.length c)] fun a h181 => ?_
  refine V.ret ?_
  refine V.retM h181.sd hDf_178 (fun w182 hF183 => ?_)
  have hsw182 := hF183.size
  have hB3_184 := hB3_175.fr1 hF183 (by omega)
  have hFr_185 := hFr_177.own hF183 (by simp <;> omega)
  have hO169_186 := hO169.frn hF183 (fun h => h) (by first | exact own_ne hO169 (by omega))
  have hA170_187 := hA170.fr hF183 (by intro k hk hz; simp only [List.mem_singleton] at hk; subst hk; have := hz.1; have := hz.2.1; omega)
  refine ⟨_, V.res1 rfl (h181.e (v := (.slice A rs.length c))), ?_⟩
  subst hS
  have hll := All2.len hA170_187
  have hpl := hp167.length_eq
  refine ⟨A, c, rs165, xs166, nq, ?_, ?_, hO169_186, (hA170_187.zone fun k q => ⟨q.1, by rw [hpl]; exact q.2.2⟩), img_of hq hs168 hA170_187 hpx172, by omega, hFr_185⟩
  · rw [← hll, hpl]
  · rw [← hll]
 · rintro _ _ _ _ _ _ h
   exact h.elim
end Go.Proofs.YtjkegckfncfoaaaGreat
end
section
namespace Go.Proofs.YtjkegckfncfoaaaGreat
open Go.V Go.Base
open Go.RowKit (Below)
attribute [local irreducible] Act.put Act.eval
set_option linter.unusedVariables false
set_option linter.unusedSimpArgs false
/-! ### Entries by key -/
def dOf (l : List EnD) : ByteArray → Option EnD := fun k => l.find? fun x => decide (x.key = k)
theorem dOf_none {l : List EnD} {k : ByteArray} : dOf l k = none ↔ ∀ x ∈ l, x.key ≠ k := by
  unfold dOf
  rw [List.find?_eq_none]
  simp
theorem dOf_some {l : List EnD} {k : ByteArray} {x : EnD} (h : dOf l k = some x) : x ∈ l ∧ x.key = k := by
  unfold dOf at h
  exact ⟨List.mem_of_find?_eq_some h, by simpa using List.find?_some h⟩
theorem dOf_app (l m : List EnD) (k : ByteArray) : dOf (l ++ m) k = (dOf l k).or (dOf m k) := by unfold dOf; rw [List.find?_append]
theorem dOf_add {l : List EnD} {x : EnD} (h : dOf l x.key = none) : dOf (l ++ [x]) = updD (dOf l) x.key (some x) := by
  funext k
  rw [dOf_app]
  by_cases hk : k = x.key
  · subst hk; rw [updD_same, h]; simp [dOf]
  · rw [updD_other hk]
    have h1 : dOf [x] k = none := dOf_none.2 fun y hy => by simp at hy; subst hy; exact fun e => hk e.symm
    rw [h1]; simp
def Ris (l : List EnD) : Prop := l.Pairwise fun a b => slt a.key b.key
theorem Ris.dOf_mem {l : List EnD} (h : Ris l) {x : EnD} : dOf l x.key = some x ↔ x ∈ l := by
  refine ⟨fun h => (dOf_some h).1, fun hx => ?_⟩
  induction l with
  | nil => simp at hx
  | cons y l ih =>
    have h' := List.pairwise_cons.1 h
    unfold dOf
    rw [List.find?_cons]
    rcases List.mem_cons.1 hx with rfl | hx
    · simp
    · have hne : y.key ≠ x.key := fun e => slt_irr x.key (by have := h'.1 x hx; rwa [e] at this)
      simp only [hne, decide_false]
      exact ih h'.2 hx
theorem Ris.img {l : List EnD} (h : Ris l) : ImgL (dOf l) l := ⟨h, fun x => h.dOf_mem.symm⟩
theorem Ris.take {l : List EnD} (h : Ris l) {i : Nat} (hi : i < l.length) : dOf (l.take i) (l[i]).key = none := dOf_none.2 fun y hy e => by
  obtain ⟨j, hj, he⟩ := List.getElem_of_mem hy
  rw [List.length_take] at hj
  have h1 := (List.pairwise_iff_getElem.1 h) j i (by omega) hi (by omega)
  rw [List.getElem_take] at he
  rw [he, e] at h1
  exact slt_irr _ h1
theorem at_enR {l : List EnD} {i : Nat} (hi : i < l.length) : at_ enR l (i : Int) = l[i] := by unfold at_; rw [Int.toNat_natCast, List.getD_eq_getElem?_getD, List.getElem?_eq_getElem hi]; rfl
theorem img_good {l : List EnD} (h : imgN l = 0) : l.length ≤ 65536 ∧ (∀ x ∈ l, okD x) ∧ Ris l := by
  have hl : ¬ l.length > 65536 := fun q => by rw [imgN_many q] at h; omega
  have hg : AllG (gE l) l.length := by
    rcases Classical.em (AllG (gE l) l.length) with q | q
    · exact q
    · rw [imgN_no hl q] at h; omega
  refine ⟨by omega, fun x hx => ?_, ?_⟩
  · obtain ⟨i, hi, he⟩ := List.getElem_of_mem hx
    have := (hg i hi).1
    rw [at_enR hi, he] at this
    exact this
  · have hinc : Inc (l.map (·.key)) := inc_of_adj fun i x y hx hy => by
      rw [List.getElem?_map] at hx hy
      obtain ⟨a, ha, rfl⟩ := Option.map_eq_some_iff.1 hx
      obtain ⟨b, hb, rfl⟩ := Option.map_eq_some_iff.1 hy
      obtain ⟨hi, he⟩ := List.getElem?_eq_some_iff.1 ha
      obtain ⟨hj, he'⟩ := List.getElem?_eq_some_iff.1 hb
      have := (hg (i + 1) hj).2 (by omega)
      rw [at_enR hj, show (((i + 1 : Nat) : Int) - 1) = (i : Int) by omega, at_enR hi, he, he'] at this
      exact this
    unfold Inc at hinc
    rw [List.pairwise_map] at hinc
    exact hinc
theorem dOf_next {l : List EnD} (h : Ris l) {i : Nat} (hi : i < l.length) : dOf (l.take (i + 1)) = updD (dOf (l.take i)) (at_ enR l (i : Int)).key (some (at_ enR l (i : Int))) := by
  rw [at_enR hi, ← dOf_add (h.take hi), List.take_succ_eq_append_getElem hi]
end Go.Proofs.YtjkegckfncfoaaaGreat
end
section
namespace Go.Proofs.YtjkegckfncfoaaaGreat
open Go.V Go.Base
open Go.RowKit (Below)
attribute [local irreducible] Act.put Act.eval
set_option linter.unusedVariables false
set_option linter.unusedSimpArgs false
set_option maxHeartbeats 4000000 in
set_option maxRecDepth 20000 in
theorem load_bad (w : World) (Al : Option Addr) (cl : Nat) (l : List EnD) (hSl : SlR enR (fun k => k < w.heap.size) w (.slice Al l.length cl) l) (hbn : ∀ x ∈ l, bndE x) (hbad : ¬ imgN l = 0) : Calls Tryz.prog 15 #[.slice Al l.length cl] w (fun e w' => e = .returned (.tuple #[.pointer none, .int .i64 (imgN l)]) ∧ Fr [] w w') := by
 have hF := Fr.refl [] w
 refine V.en 35 Tryz.func15 fun a h1 => ?_
 refine V.sr h1 [] 2 3 [] fun a h4 => ?_
 refine V.seq fun K5 k6 => ?_
 refine V.sg fun K7 k8 => ?_
 refine V.run h4 [] 1 1 0 [(8, .slice Al l.length cl)] fun a h9 => ?_
 refine V.cl h9 (Go.Proofs.enters_of Tryz.func45 (by kernel_rfl) rfl) (check_any w Al cl l hSl.old hbn) ?_
 rintro _ w11 ⟨rfl, hF10⟩
 refine ⟨_, rfl, fun a h12 => ?_⟩
 have hsw11 := hF10.size
 have hF_13 := hF.new hF10
 have hSl_14 := hSl.fr0 hF10
 refine V.re h12 [] 1 0 [(4, .int .i64 (imgN l))] fun a h15 => k8 _ _ ?_
 refine V.sr h15 [(1, .ne (imgN l) 0)] 10 10 [(11, .bool (decide (¬ (imgN l) = 0)))] fun a h18 => ?_
 refine V.cp h18 (¬ (imgN l) = 0) (fun ht19 => ?_) (fun ht19 => ?_)
 ·
  refine V.sr h18 [] 12 12 [(2, .pointer none), (3, .int .i64 (imgN l))] fun a h22 => ?_
  refine V.ret ?_
  refine V.then_r ?_
  refine V.r2 h22 (.pointer none) (.int .i64 (imgN l)) ?_
  exact ⟨rfl, hF_13⟩
 · exact absurd hbad ht19
set_option maxHeartbeats 4000000 in
set_option maxRecDepth 20000 in
theorem load_ok (w : World) (Al : Option Addr) (cl : Nat) (l : List EnD) (hSl : SlR enR (fun k => k < w.heap.size) w (.slice Al l.length cl) l) (hbn : ∀ x ∈ l, bndE x) (hok : imgN l = 0) : Calls Tryz.prog 15 #[.slice Al l.length cl] w (fun e w' => ∃ sp, e = .returned (.tuple #[.pointer (some ⟨sp, 0, none⟩), .int .i64 0]) ∧ SpA w' w.heap.size [] [] sp l.length (dOf l) ∧ Fr [] w w') := by
 have hP := FrP.refl (fun _ => False) w
 have hgd := img_good hok
 have hlen0 := hSl.len_le
 refine V.en 35 Tryz.func15 fun a h1 => ?_
 refine V.sr h1 [] 2 3 [] fun a h4 => ?_
 refine V.seq fun K5 k6 => ?_
 refine V.sg fun K7 k8 => ?_
 refine V.run h4 [] 1 1 0 [(8, .slice Al l.length cl)] fun a h9 => ?_
 refine V.cl h9 (Go.Proofs.enters_of Tryz.func45 (by kernel_rfl) rfl) (check_any w Al cl l hSl.old hbn) ?_
 rintro _ w11 ⟨rfl, hF10⟩
 refine ⟨_, rfl, fun a h12 => ?_⟩
 have hsw11 := hF10.size
 have hP_13 := hP.tr0 hF10
 have hSl_14 := hSl.fr0 hF10
 refine V.re h12 [] 1 0 [(4, .int .i64 (imgN l))] fun a h15 => k8 _ _ ?_
 refine V.sr h15 [(1, .ne (imgN l) 0)] 10 10 [(11, .bool (decide (¬ (imgN l) = 0)))] fun a h18 => ?_
 refine V.cp h18 (¬ (imgN l) = 0) (fun ht19 => ?_) (fun ht19 => ?_)
 · exact absurd hok ht19
 ·
  refine V.skip ?_
  refine V.then_n (k6 _ _ ?_)
  refine V.sg fun K20 k21 => ?_
  refine V.cl h18 (Go.Proofs.enters_of Tryz.func26 (by kernel_rfl) rfl) (spnew_any w11) ?_
  rintro _ w32 ⟨sp22, t23, H24, rfl, hB25, hT26, hH27, hs28, hF29⟩
  refine ⟨_, rfl, fun a h33 => ?_⟩
  have hsw32 := hF29.size
  have hP_34 := hP_13.tr0 hF29
  have hSl_35 := hSl_14.fr0 hF29
  have hX30 : SpX w32 H24 (fun _ => False) sp22 t23 (newT 0) (dOf (l.take 0)) := ⟨hB25, hT26, (newT_ok (by omega)).2, newT_wf 0, fun k hk => ⟨fun q => q, (hH27 k hk).2.2, (hH27 k hk).2.1⟩, fun k hk => hk.elim, fun k => .inl ⟨by (show va 0 (List.replicate 4 []) k ++ va 0 [] k = []); rw [va_nil, va_nil0]; rfl, rfl⟩, CntD.nil, by show (0 : Nat) ≤ 65536; omega⟩
  have hlo31 : ∀ k, H24 k ∨ False ∨ k = sp22 → w.heap.size ≤ k := fun k hk => by (rcases hk with hk | hk | hk; (have := (hH27 k hk).1; omega); exact hk.elim; omega)
  refine V.re h33 [] 1 0 [(5, .pointer (some ⟨sp22, 0, none⟩))] fun a h36 => k21 _ _ ?_
  refine V.seq fun K37 k38 => ?_
  refine V.sr h36 [] 1 0 [(14, .slice Al l.length cl), (15, .int .i64 ((l.length : Nat) : Int)), (16, .int .i64 0)] fun a h41 => ?_
  refine V.block ?_
  refine V.loop4 (fun (i : Nat) (H : Nat → Prop) (Vb : Nat → Prop) (T : Tb EntV) a_ w_ => En 35 [] a_ [(5, .pointer (some ⟨sp22, 0, none⟩)), (14, .slice Al l.length cl), (15, .int .i64 ((l.length : Nat) : Int)), (16, .int .i64 (i : Int))] ∧ SpX w_ H Vb sp22 t23 T (dOf (l.take i)) ∧ FrP (fun _ => False) w w_ ∧ SlR enR (fun k => k < w.heap.size) w_ (.slice Al l.length cl) l ∧ (i ≤ l.length) ∧ (T.n = i) ∧ (∀ k, H k ∨ Vb k ∨ k = sp22 → w.heap.size ≤ k)) (fun (i : Nat) (H : Nat → Prop) (Vb : Nat → Prop) (T : Tb EntV) => l.length - i) 0 H24 (fun _ => False) (newT 0) ?_ ?_
  ·
   refine ⟨(h41.eq 16 (v := (.int .i64 0)) (u := (.int .i64 (0 : Int))) (V.int_eq (by omega))).only _, hX30, hP_34, hSl_35, (by omega), rfl, hlo31⟩
  ·
   rintro i H Vb T a42 w43 ⟨h44, hq_45, hP_46, hSl_47, hi, hTn, hlo⟩
   have hfs48 := hP_46.size
   have hq := hq_45
   have hX0 := hq.lt
   have hB := hq.hB
   have hltB9 := hB.lt
   have hT := hq.hT
   have hF9 := Fr.refl [] w43
   refine V.sr h44 [] 1 0 [(17, .bool (decide ((i : Int) < ((l.length : Nat) : Int))))] fun a h51 => ?_
   refine V.seq fun K52 k53 => ?_
   refine V.cp h51 ((i : Int) < ((l.length : Nat) : Int)) (fun ht54 => ?_) (fun ht54 => ?_)
   ·
    refine V.skip ?_
    refine V.then_n (k53 _ _ ?_)
    refine V.seq fun K55 k56 => ?_
    refine V.block ?_
    obtain ⟨g59, o60, hA61, hA61l, hA61z⟩ := hSl_47.addr (by omega)
    obtain ⟨cs62, hok63, hE64⟩ := hSl_47.els hA61 (i : Int) (by omega) (by omega)
    obtain ⟨Al65, cl66, Az67, cz68, Ah69, ch70, rfl, hS71, hS72, hS73⟩ := en_open hok63
    refine V.sg fun K57 k58 => ?_
    refine V.run h51 [(0, .ix g59 o60 l.length cl .i64 (i : Int) 7 hA61), (0, .ls ⟨g59, o60 + (i : Int).toNat * 7, none⟩ [.string ((at_ enR l (i : Int)).key), .int .i64 ((at_ enR l (i : Int)).k), .string ((at_ enR l (i : Int)).s), .slice Al65 ((at_ enR l (i : Int)).l.length) cl66, .slice Az67 ((at_ enR l (i : Int)).z.length) cz68, .slice Ah69 ((at_ enR l (i : Int)).h.length) ch70, .int .i64 ((at_ enR l (i : Int)).till)] (hE64.cells 0 _ rfl))] 2 18 18 [(19, .agg #[.string ((at_ enR l (i : Int)).key), .int .i64 ((at_ enR l (i : Int)).k), .string ((at_ enR l (i : Int)).s), .slice Al65 ((at_ enR l (i : Int)).l.length) cl66, .slice Az67 ((at_ enR l (i : Int)).z.length) cz68, .slice Ah69 ((at_ enR l (i : Int)).h.length) ch70, .int .i64 ((at_ enR l (i : Int)).till)])] fun a h78 => ?_
    refine V.go (V.mk [] trivial (by kernel_rfl) [.string ⟨#[]⟩, .int .i64 0, .string ⟨#[]⟩, .slice none 0 0, .slice none 0 0, .slice none 0 0, .int .i64 0] 39 (fun b => .pointer (some ⟨b, 0, none⟩)) (by kernel_rfl) ?_)
    intro w75 b74 heb74 hB76 hF77 hsb74
    have hP_79 := hP_46.tr0 hF77
    have hSl_80 := hSl_47.fr0 hF77
    have hB_81 := hB.fr0 hF77
    have hT_82 := hT.alloc hF77 heb74 (by omega)
    have hF9_83 := hF9.new hF77
    have hS71_84 := hS71.fr0 hF77
    have hS72_85 := hS72.fr0 hF77
    have hS73_86 := hS73.fr0 hF77
    have hE64_87 := hE64.fr0 hF77
    refine V.pt h78 fun a h88 => ?_
    refine V.go (V.stn b74 0 (.agg #[.string ((at_ enR l (i : Int)).key), .int .i64 ((at_ enR l (i : Int)).k), .string ((at_ enR l (i : Int)).s), .slice Al65 ((at_ enR l (i : Int)).l.length) cl66, .slice Az67 ((at_ enR l (i : Int)).z.length) cz68, .slice Ah69 ((at_ enR l (i : Int)).h.length) ch70, .int .i64 ((at_ enR l (i : Int)).till)]) [.string ((at_ enR l (i : Int)).key), .int .i64 ((at_ enR l (i : Int)).k), .string ((at_ enR l (i : Int)).s), .slice Al65 ((at_ enR l (i : Int)).l.length) cl66, .slice Az67 ((at_ enR l (i : Int)).z.length) cz68, .slice Ah69 ((at_ enR l (i : Int)).h.length) ch70, .int .i64 ((at_ enR l (i : Int)).till)] h88.e h88.e rfl rfl (by kernel_rfl) hB76 (by simp) [.string ((at_ enR l (i : Int)).key), .int .i64 ((at_ enR l (i : Int)).k), .string ((at_ enR l (i : Int)).s), .slice Al65 ((at_ enR l (i : Int)).l.length) cl66, .slice Az67 ((at_ enR l (i : Int)).z.length) cz68, .slice Ah69 ((at_ enR l (i : Int)).h.length) ch70, .int .i64 ((at_ enR l (i : Int)).till)] rfl ?_)
    intro w89 hB90 hF91 hsw89
    have hP_92 := hP_79.tr1 hF91 (by first | exact .inl (by assumption) | exact .inr (by omega) | exact .inl (.inl rfl))
    have hSl_93 := hSl_80.fr hF91 (by simp <;> omega)
    have hB_94 := hB_81.fr1 hF91 (by omega)
    have hT_95 := hT_82.fr hF91 (by intro k hk; simp only [List.mem_singleton] at hk; subst hk; exact .inl (by first | simp | (rw [hav]; simp)))
    have hF9_96 := hF9_83.own hF91 (by simp <;> omega)
    have hS71_97 := hS71_84.fr hF91 (by simp <;> omega)
    have hS72_98 := hS72_85.fr hF91 (by simp <;> omega)
    have hS73_99 := hS73_86.fr hF91 (by simp <;> omega)
    refine V.nt (k58 _ _ ?_)
    have hokx := okD_bnd (hgd.2.1 _ (at_memE (l := l) (i := i) (by omega)))
    refine V.pl [([0,1,2,3,4,5,6,7,9,10],some (8,[3,5,10])),([11],some (12,[])),([],none)] fun w100 hF101 hsw100 => ?_
    have hP_102 := hP_92.tr0 hF101
    have hSl_103 := hSl_93.fr0 hF101
    have hB_104 := hB_94.fr0 hF101
    have hT_105 := hT_95.fr0 hF101
    have hF9_106 := hF9_96.new hF101
    have hS71_107 := hS71_97.fr0 hF101
    have hS72_108 := hS72_98.fr0 hF101
    have hS73_109 := hS73_99.fr0 hF101
    have hB90_110 := hB90.fr0 hF101
    refine V.pe h88 [(3, .b hB_104 0), (1, .b hB90_110 0), (1, .bs hB90_110 1 [.int .i64 ((at_ enR l (i : Int)).k), .string ((at_ enR l (i : Int)).s), .slice Al65 ((at_ enR l (i : Int)).l.length) cl66, .slice Az67 ((at_ enR l (i : Int)).z.length) cz68, .slice Ah69 ((at_ enR l (i : Int)).h.length) ch70]), (1, .b hB90_110 6)] 20 26 [(22, .pointer (some ⟨sp22, 0, none⟩)), (23, .pointer (some ⟨t23, 0, none⟩)), (24, .pointer (some ⟨b74, 0, none⟩)), (25, .string ((at_ enR l (i : Int)).key)), (27, .agg #[.int .i64 ((at_ enR l (i : Int)).k), .string ((at_ enR l (i : Int)).s), .slice Al65 ((at_ enR l (i : Int)).l.length) cl66, .slice Az67 ((at_ enR l (i : Int)).z.length) cz68, .slice Ah69 ((at_ enR l (i : Int)).h.length) ch70]), (29, .pointer (some ⟨b74, 6, none⟩)), (30, .int .i64 ((at_ enR l (i : Int)).till))] fun a h111 => ?_
    refine V.cl h111 (Go.Proofs.enters_of Tryz.func33 (by kernel_rfl) rfl) (copied_any w100 ((at_ enR l (i : Int)).k) ((at_ enR l (i : Int)).s) Al65 cl66 ((at_ enR l (i : Int)).l) hS71_107.old Az67 cz68 ((at_ enR l (i : Int)).z) hS72_108.old Ah69 ch70 ((at_ enR l (i : Int)).h) hS73_109.old (by omega) (by omega) (by omega)) ?_
    rintro _ w123 ⟨A112, c113, A114, c115, A116, c117, rfl, hO118, hO119, hO120, hd122, hF121⟩
    refine ⟨_, rfl, fun a h124 => ?_⟩
    have hsw123 := hF121.size
    have hP_125 := hP_102.tr0 hF121
    have hSl_126 := hSl_103.fr0 hF121
    have hB_127 := hB_104.fr0 hF121
    have hT_128 := hT_105.fr0 hF121
    have hF9_129 := hF9_106.new hF121
    have hS71_130 := hS71_107.fr0 hF121
    have hS72_131 := hS72_108.fr0 hF121
    have hS73_132 := hS73_109.fr0 hF121
    have hB90_133 := hB90_110.fr0 hF121
    refine V.eh ⟨(fun _ => held_blk (n := 1) (hx := (h111.e (v := (.pointer (some ⟨sp22, 0, none⟩))))) hB_104 hB_127 (by kernel_rfl) rfl (by simp only [List.length]; omega)), (fun _ => held_blk (n := 1) (hx := (h111.e (v := (.pointer (some ⟨b74, 0, none⟩))))) hB90_110 hB90_133 (by kernel_rfl) rfl (by simp only [List.length]; omega)), (fun _ => held_blk (n := 1) (hx := (h111.e (v := (.pointer (some ⟨b74, 6, none⟩))))) hB90_110 hB90_133 (by kernel_rfl) rfl (by simp only [List.length]; omega))⟩ ?_
    refine V.pe h124 [] 1 0 [(31, .agg #[.int .i64 ((at_ enR l (i : Int)).k), .string ((at_ enR l (i : Int)).s), .slice A112 (((at_ enR l (i : Int)).l).length) c113, .slice A114 (((at_ enR l (i : Int)).z).length) c115, .slice A116 (((at_ enR l (i : Int)).h).length) c117, .int .i64 ((at_ enR l (i : Int)).till)])] fun a h134 => ?_
    refine V.cl h134 (Go.Proofs.enters_of Tryz.func46 (by kernel_rfl) rfl) (put_any w123 (H) (b74 :: []) t23 (T) hT_128 hq.hm ((at_ enR l (i : Int)).key) (by omega) ⟨((at_ enR l (i : Int)).k), ((at_ enR l (i : Int)).s), ⟨A112, ((at_ enR l (i : Int)).l).length, c113⟩, ⟨A114, ((at_ enR l (i : Int)).z).length, c115⟩, ⟨A116, ((at_ enR l (i : Int)).h).length, c117⟩, (at_ enR l (i : Int)).till⟩ (by omega)) ?_
    rintro _ w137 ⟨rfl, hT135, hF136⟩
    refine ⟨_, rfl, fun a h138 => ?_⟩
    have hsw137 := hF136.size
    have hP_139 := hP_125.trP hF136 (fun k hk => .inr (hlo _ (.inl hk.1)))
    have hSl_140 := hSl_126.frP hF136 (fun k hz hp => by have h1 := hlo _ (.inl hp.1); (try dsimp only at hz); omega)
    have hB_141 := hB_127.frP hF136 (by exact fun hp => by have h1 := hq.hH _ hp.1; first | exact h1.2.1 rfl | omega)
    have hS71_142 := hS71_130.frP hF136 (fun k hz hp => by have h1 := hlo _ (.inl hp.1); (try dsimp only at hz); omega)
    have hS72_143 := hS72_131.frP hF136 (fun k hz hp => by have h1 := hlo _ (.inl hp.1); (try dsimp only at hz); omega)
    have hS73_144 := hS73_132.frP hF136 (fun k hz hp => by have h1 := hlo _ (.inl hp.1); (try dsimp only at hz); omega)
    have hB90_145 := hB90_133.frP hF136 (by exact fun hp => by have h1 := hq.hH _ hp.1; first | exact h1.2.1 rfl | omega)
    have hO118_146 := hO118.frP hF136 (fun b hb hp => by have h1 := (hO118.lt b hb).1; have h2 := (hq.hH _ hp.1).2.2; omega)
    have hO119_147 := hO119.frP hF136 (fun b hb hp => by have h1 := (hO119.lt b hb).1; have h2 := (hq.hH _ hp.1).2.2; omega)
    have hO120_148 := hO120.frP hF136 (fun b hb hp => by have h1 := (hO120.lt b hb).1; have h2 := (hq.hH _ hp.1).2.2; omega)
    refine V.eh trivial ?_
    refine V.pz h138 [] 1 0 [] fun a h149 => ?_
    refine V.blk_n ?_
    refine V.then_n (k56 _ _ ?_)
    refine V.rr h149 [(0, .i ((i : Int) + 1))] 33 33 [(16, .int .i64 ((i : Int) + 1))] fun a h150 => ?_
    refine V.then_n ?_
    have hfs9 := hF9_129.size
    have hfs8 := hF136.size
    have hst := Ris.take hgd.2.2 (i := i) (by omega)
    rw [← at_enR (by omega)] at hst
    have hsp := sp_put (x := at_ enR l (i : Int)) hq (hgd.2.1 _ (at_memE (by omega))) (.inr (by omega)) hF9_129 hF136 hB_141 hT135 hO118 hO119 hO120 (by omega) (by omega) (by omega) hO118_146 hO119_147 hO120_148
    rw [← dOf_next hgd.2.2 (by omega)] at hsp
    have hn9 := putT_n' hq (at_ enR l (i : Int)).key ⟨((at_ enR l (i : Int)).k), ((at_ enR l (i : Int)).s), ⟨A112, ((at_ enR l (i : Int)).l).length, c113⟩, ⟨A114, ((at_ enR l (i : Int)).z).length, c115⟩, ⟨A116, ((at_ enR l (i : Int)).h).length, c117⟩, (at_ enR l (i : Int)).till⟩
    rw [if_pos hst] at hn9
    refine ⟨i + 1, (gr (H) w123 w137), (nwV Vb (.slice A112 (((at_ enR l (i : Int)).l).length) c113) (.slice A114 (((at_ enR l (i : Int)).z).length) c115) (.slice A116 (((at_ enR l (i : Int)).h).length) c117)), (putT T ((at_ enR l (i : Int)).key) ⟨((at_ enR l (i : Int)).k), ((at_ enR l (i : Int)).s), ⟨A112, ((at_ enR l (i : Int)).l).length, c113⟩, ⟨A114, ((at_ enR l (i : Int)).z).length, c115⟩, ⟨A116, ((at_ enR l (i : Int)).h).length, c117⟩, (at_ enR l (i : Int)).till⟩), by omega, ?_⟩
    refine ⟨(h150.eq 16 (v := (.int .i64 ((i : Int) + 1))) (u := (.int .i64 ((i + 1) : Int))) (V.int_eq (by omega))).only _, hsp, hP_139, hSl_140, (by omega), (by rw [hn9, hTn]), (fun k hk => by rcases hk with (hk | hk) | (q | q | q | q) | hk; exact hlo k (.inl hk); (have := hk.1; omega); exact hlo k (.inr (.inl q)); (have := (hO118.lt k q).1; omega); (have := (hO119.lt k q).1; omega); (have := (hO120.lt k q).1; omega); exact hlo k (.inr (.inr hk)))⟩
   ·
    refine V.exit ?_
    refine V.then_e ?_
    refine V.then_e ?_
    refine V.blk_hit ?_
    refine V.then_n (k38 _ _ ?_)
    refine V.sr h51 [] 34 34 [(2, .pointer (some ⟨sp22, 0, none⟩)), (3, .int .i64 0)] fun a h153 => ?_
    refine V.ret ?_
    refine V.r2 h153 (.pointer (some ⟨sp22, 0, none⟩)) (.int .i64 0) ?_
    have hii : i = l.length := by omega
    subst hii
    have hfin := hq
    rw [List.take_of_length_le (Nat.le_refl _)] at hfin
    exact ⟨_, rfl, ⟨_, hTn ▸ hfin.y0, fun k hk => ⟨hlo k hk, fun q => by rcases q with q | ⟨v, hv, _⟩; simp at q; simp at hv⟩, fun k q => by rcases q with q | ⟨v, hv, _⟩; simp at q; simp at hv⟩, hP_46.fr (fun k hk => hk.elim)⟩
end Go.Proofs.YtjkegckfncfoaaaGreat
end
section
namespace Go.V
open Go.Base Go.RowKit
set_option linter.unusedVariables false
section
variable {α : Type} {R : Rp α} {Z : Nat → Prop} {w : World} {xs ys : List α} {base : Nat} {e : TypeId} {v : Value} {A : Option Addr} {n m c : Nat}
variable {ro : Option Nat} {P : Program} {Q : Exit → Act → World → Prop} {a : Act} {ops : Array Oper} {rest : List Oper} {d : Option Tmp} {ty : TypeId} {pos : String} {aft : Array Edge} {gd : Option (Nat × Bool)}
theorem stoR {t : TypeId} {x y : Operand} {g0 o0 : Nat} (h : OwR R NoZ w base e (.slice A n c) xs) (hA : A = some ⟨g0, o0, none⟩) {j f : Nat} (hj : j < xs.length) (u : Value) (us : List Value) (hf : f + us.length ≤ R.sz) (fy : α → α)
    (hx : a.eval x = .pointer (some ⟨g0, o0 + j * R.sz + f, none⟩)) (hy : a.eval y = u) (hu : u.cells = us.toArray) (h1 : us.all Value.oneCell' = true) (ht : (P.info? t).map (·.size) = some us.length) (hok : ∀ w1 x c, R.ok NoZ w x c → R.ok NoZ w1 (fy x) (over c f us))
    (k : ∀ w1, (∃ xs', xs'.length = xs.length ∧ OwR R NoZ w1 base e (.slice A n c) xs') → Fr [g0] w w1 → w1.heap.size = w.heap.size → L ro P ops Q rest a w1) : St ro P ops Q rest ⟨none, .store t x y, ty, pos, aft, gd⟩ a w := by
  subst hA
  have hxj : xs[j]? = some xs[j] := List.getElem?_eq_getElem hj
  obtain ⟨cur, rfl, hB, hle, hk⟩ := own_setn h hxj hf (y := fy xs[j])
  refine stn g0 (0 + j * R.sz + f) u us hx hy hu h1 ht hB (by omega) (over cur (j * R.sz + f) us) (by simp) fun w1 hB1 hfr hs => ?_
  exact k w1 ⟨_, List.length_set, hk w1 hB1 hfr.size fun c hc => hok w1 _ c hc⟩ hfr hs
theorem appS0 {t : TypeId} {s x : Operand} {z : Value} {bytes : Nat} (hs : a.eval s = v) (hx : a.eval x = .slice A m c) (ht : P.underlying t = some (.slice e))
    (hinfo : (P.info? e).map (fun i => (i.zero, i.size, i.bytes)) = some (some z, R.sz, bytes)) (hzs : z.cells.size = R.sz) (hsz : 0 < R.sz) (hown : OwR R NoZ w base e v []) (hS : SlR R Z w (.slice A m c) ys) (hz : ∀ x cs, R.ok Z w x cs → R.ok NoZ w x cs)
    (hbytes : ys.length * bytes ≤ 140737488355328) (hb0 : 0 < bytes) (hbase : base ≤ w.heap.size)
    (k : ∀ A' c' w1, OwR R NoZ w1 base e (.slice A' ys.length c') ys → Fr (v.ownBlock.toList) w w1 → L ro P ops Q rest (a.put d (.slice A' ys.length c')) w1) : St ro P ops Q rest ⟨d, .call ⟨.builtin .append, #[s, x], #[t, t]⟩, ty, pos, aft, gd⟩ a w := by
  refine appS hs hx ht hinfo hzs hsz hown hS hz (by simpa using hbytes) hb0 hbase fun A' c' w1 ho hf => ?_
  have hq := k A' c' w1
  simp only [List.nil_append, List.length_nil, Nat.zero_add] at ho hq ⊢
  exact hq ho hf
end
end Go.V
end
section
namespace Go.Proofs.YtjkegckfncfoaaaGreat
open Go.V Go.Base
open Go.RowKit (Below)
attribute [local irreducible] Act.put Act.eval
set_option linter.unusedVariables false
set_option linter.unusedSimpArgs false
theorem dOf_no {l : List EnD} {key : ByteArray} (h : ∀ j, j < l.length → ¬ (at_ enR l (j : Int)).key = key) : dOf l key = none := dOf_none.2 fun x hx => by
  obtain ⟨i, hi, he⟩ := List.getElem_of_mem hx
  have := h i hi
  rw [at_enR hi, he] at this
  exact this
theorem dOf_at {l : List EnD} {key : ByteArray} {i : Nat} (hi : i < l.length) (h : ∀ j, j < i → ¬ (at_ enR l (j : Int)).key = key) (hk : (at_ enR l (i : Int)).key = key) : dOf l key = some (at_ enR l (i : Int)) := by
  unfold dOf
  rw [List.find?_eq_some_iff_getElem]
  refine ⟨by simpa using hk, i, hi, by rw [at_enR hi], fun j hj => ?_⟩
  have := h j hj
  rw [at_enR (by omega)] at this
  simpa using this
/-- Entries' rows, their cells as they lie. -/
theorem ent_raw {Z : Nat → Prop} {w : World} {A : Option Addr} {n c : Nat} {l : List EnD} (h : SlR enR Z w (.slice A n c) l) : ∃ rs, rs.length = l.length ∧ SlR entR Z w (.slice A rs.length c) rs ∧ AllE Z w rs l := by
  obtain ⟨A', c', e, l1, l2, l3⟩ := h
  injection e with e1 e2 e3
  subst e1; subst e3
  have hone : ∀ i (hi : i < l.length), ∃ r : ByteArray × EntV, (r.1 = (l[i]).key ∧ EntIs Z w r.2 (l[i])) ∧ ∃ g o, A = some ⟨g, o, none⟩ ∧ Z g ∧ g < w.heap.size ∧ ∀ j u, (encE r)[j]? = some u → w.cell? ⟨g, o + i * 7 + j, none⟩ = some u := fun i hi => by
    obtain ⟨g, o, cs, hA, hZ, hg, hok, hc⟩ := l3 i _ (List.getElem?_eq_getElem hi)
    obtain ⟨Al, cl, Az, cz, Ah, ch, rfl, s1, s2, s3⟩ := en_open hok
    exact ⟨((l[i]).key, ⟨(l[i]).k, (l[i]).s, ⟨Al, _, cl⟩, ⟨Az, _, cz⟩, ⟨Ah, _, ch⟩, (l[i]).till⟩), ⟨rfl, rfl, rfl, rfl, rfl, rfl, rfl, s1, s2, s3⟩, g, o, hA, hZ, hg, hc⟩
  have hex : ∀ q, q ≤ l.length → ∃ rs : List (ByteArray × EntV), rs.length = q ∧ AllE Z w rs (l.take q) ∧ ∀ i x, rs[i]? = some x → ∃ g o, A = some ⟨g, o, none⟩ ∧ Z g ∧ g < w.heap.size ∧ ∀ j u, (encE x)[j]? = some u → w.cell? ⟨g, o + i * 7 + j, none⟩ = some u := by
    intro q
    induction q with
    | zero => exact fun _ => ⟨[], rfl, trivial, fun i x h => by simp at h⟩
    | succ q ih =>
      intro hq
      obtain ⟨rs, hl, ha, hi⟩ := ih (by omega)
      obtain ⟨r, hr, hc⟩ := hone q (by omega)
      refine ⟨rs ++ [r], by simp [hl], ?_, fun i x hx => ?_⟩
      · rw [List.take_succ_eq_append_getElem (by omega)]
        have h1 : AllE Z w [r] [l[q]] := ⟨hr, trivial⟩
        exact All2.app h1 ha
      · rcases Nat.lt_or_ge i rs.length with h | h
        · rw [List.getElem?_append_left h] at hx; exact hi i x hx
        · rw [List.getElem?_append_right h] at hx
          have h0 : i - rs.length = 0 := by have := (List.getElem?_eq_some_iff.1 hx).1; simp at this; omega
          rw [h0] at hx
          simp at hx; subst hx
          have hiq : i = q := by omega
          subst hiq
          exact hc
  obtain ⟨rs, hl, ha, hi⟩ := hex l.length (Nat.le_refl _)
  rw [List.take_of_length_le (Nat.le_refl _)] at ha
  refine ⟨rs, hl, ⟨A, c, rfl, by omega, by omega, fun i x hx => ?_⟩, ha⟩
  obtain ⟨g, o, hA, hZ, hg, hc⟩ := hi i x hx
  exact ⟨g, o, encE x, hA, hZ, hg, rfl, hc⟩
set_option maxHeartbeats 4000000 in
set_option maxRecDepth 20000 in
theorem rload_bad (w : World) (Al : Option Addr) (cl : Nat) (l : List EnD) (hSl : SlR enR (fun k => k < w.heap.size) w (.slice Al l.length cl) l) (hbad : ¬ imgN l = 0) : Calls Tryz.prog 27 #[.slice Al l.length cl] w (fun e w' => e = .returned (.tuple #[.pointer none, .int .i64 (imgN l)]) ∧ Fr [] w w') := by
 have hF := Fr.refl [] w
 refine V.en 15 Tryz.func27 fun a h1 => ?_
 refine V.sr h1 [] 2 3 [] fun a h4 => ?_
 refine V.sg fun K5 k6 => ?_
 refine V.run h4 [] 1 1 0 [(5, .slice Al l.length cl)] fun a h7 => ?_
 refine V.cl h7 (Go.Proofs.enters_of Tryz.func25 (by kernel_rfl) rfl) (rcheck_any w Al cl l hSl.old) ?_
 rintro _ w9 ⟨rfl, hF8⟩
 refine ⟨_, rfl, fun a h10 => ?_⟩
 have hsw9 := hF8.size
 have hF_11 := hF.new hF8
 have hSl_12 := hSl.fr0 hF8
 refine V.re h10 [] 1 0 [(4, .int .i64 (imgN l))] fun a h13 => k6 _ _ ?_
 refine V.seq fun K14 k15 => ?_
 refine V.sr h13 [(1, .ne (imgN l) 0)] 7 7 [(8, .bool (decide (¬ (imgN l) = 0)))] fun a h18 => ?_
 refine V.cp h18 (¬ (imgN l) = 0) (fun ht19 => ?_) (fun ht19 => ?_)
 ·
  refine V.sr h18 [] 9 9 [(2, .pointer none), (3, .int .i64 (imgN l))] fun a h22 => ?_
  refine V.ret ?_
  refine V.then_r ?_
  refine V.r2 h22 (.pointer none) (.int .i64 (imgN l)) ?_
  exact ⟨rfl, hF_11⟩
 · exact absurd hbad ht19
set_option maxHeartbeats 4000000 in
set_option maxRecDepth 20000 in
theorem rload_ok (w : World) (Al : Option Addr) (cl : Nat) (l : List EnD) (hSl : SlR enR (fun k => k < w.heap.size) w (.slice Al l.length cl) l) (hok : imgN l = 0) (rs : List (ByteArray × EntV)) (hR : SlR entR (fun k => k < w.heap.size) w (.slice Al rs.length cl) rs) (hrl : rs.length = l.length) : Calls Tryz.prog 27 #[.slice Al l.length cl] w (fun e w' => ∃ rb A c, e = .returned (.tuple #[.pointer (some ⟨rb, 0, none⟩), .int .i64 0]) ∧ Blk w' rb [.slice A rs.length c] 72 ∧ OwR entR NoZ w' w.heap.size 39 (.slice A rs.length c) rs ∧ w.heap.size ≤ rb ∧ rb < w'.heap.size ∧ Fr [] w w') := by
 have hF := Fr.refl [] w
 rw [hrl] at hR
 have hgd := img_good hok
 refine V.en 15 Tryz.func27 fun a h1 => ?_
 refine V.sr h1 [] 2 3 [] fun a h4 => ?_
 refine V.sg fun K5 k6 => ?_
 refine V.run h4 [] 1 1 0 [(5, .slice Al l.length cl)] fun a h7 => ?_
 refine V.cl h7 (Go.Proofs.enters_of Tryz.func25 (by kernel_rfl) rfl) (rcheck_any w Al cl l hSl.old) ?_
 rintro _ w9 ⟨rfl, hF8⟩
 refine ⟨_, rfl, fun a h10 => ?_⟩
 have hsw9 := hF8.size
 have hF_11 := hF.new hF8
 have hR_12 := hR.fr0 hF8
 have hSl_13 := hSl.fr0 hF8
 refine V.re h10 [] 1 0 [(4, .int .i64 (imgN l))] fun a h14 => k6 _ _ ?_
 refine V.seq fun K15 k16 => ?_
 refine V.sr h14 [(1, .ne (imgN l) 0)] 7 7 [(8, .bool (decide (¬ (imgN l) = 0)))] fun a h19 => ?_
 refine V.cp h19 (¬ (imgN l) = 0) (fun ht20 => ?_) (fun ht20 => ?_)
 · exact absurd hok ht20
 ·
  refine V.skip ?_
  refine V.then_n (k16 _ _ ?_)
  refine V.seq fun K21 k22 => ?_
  refine V.rg ?_
  refine V.go (V.mk [] trivial (by kernel_rfl) [] 39 (fun b => .slice (some ⟨b, 0, none⟩) 0 0) (by kernel_rfl) ?_)
  intro w24 b23 heb23 hB25 hF26 hsb23
  have hF_27 := hF_11.new hF26
  have hR_28 := hR_12.fr0 hF26
  have hSl_29 := hSl_13.fr0 hF26
  refine V.pt h19 fun a h30 => ?_
  have hO31 := OwR.empty (R := entR) (base := b23) hB25 (Nat.le_refl _)
  refine V.run h30 [] 1 1 0 [(11, .slice Al l.length cl)] fun a h37 => ?_
  refine V.go (V.appS0 (R := entR) (h37.e (v := (.slice (some ⟨b23, 0, none⟩) 0 0))) (h37.e (v := (.slice Al l.length cl))) (by kernel_rfl) info39 (by kernel_rfl) (by decide) hO31 hR_28 (fun _ _ h => h) (by omega) (by decide) (by omega) ?_)
  intro A32 c33 w34 hO35 hF36
  have hsw34 := hF36.size
  have hF_38 := hF_27.own hF36 (own_ge hO31 (by omega))
  have hR_39 := hR_28.fr hF36 (by intro b hb hz; have := own_ge hO31 (Nat.le_refl _) b hb; (try dsimp only at hz); omega)
  have hSl_40 := hSl_29.fr hF36 (by intro b hb hz; have := own_ge hO31 (Nat.le_refl _) b hb; (try dsimp only at hz); omega)
  have hl41 := hO35.lt
  refine V.pt h37 fun a h42 => ?_
  refine V.run h42 [] 1 1 0 [(13, .agg #[.slice A32 rs.length c33])] fun a h43 => ?_
  refine V.go (V.mk [(13, .agg #[.slice A32 rs.length c33])] ⟨h43.e, trivial⟩ (by kernel_rfl) [.slice A32 rs.length c33] 72 (fun b => .pointer (some ⟨b, 0, none⟩)) (by kernel_rfl) ?_)
  intro w45 b44 heb44 hB46 hF47 hsb44
  have hF_48 := hF_38.new hF47
  have hR_49 := hR_39.fr0 hF47
  have hSl_50 := hSl_40.fr0 hF47
  have hO35_51 := hO35.fr0 hF47
  refine V.pt h43 fun a h52 => ?_
  refine V.re h52 [] 1 0 [(2, .pointer (some ⟨b44, 0, none⟩)), (3, .int .i64 0)] fun a h53 => k22 _ _ ?_
  refine V.ret ?_
  refine V.r2 h53 (.pointer (some ⟨b44, 0, none⟩)) (.int .i64 0) ?_
  exact ⟨_, _, _, rfl, hB46, hO35_51.rebase (by omega), by omega, by omega, hF_48⟩
set_option maxHeartbeats 4000000 in
set_option maxRecDepth 20000 in
theorem place_any (w : World) (Al : Option Addr) (cl : Nat) (l : List EnD) (hSl : SlR enR (fun k => k < w.heap.size) w (.slice Al l.length cl) l) (key : ByteArray) : Calls Tryz.prog 28 #[.slice Al l.length cl, .string key] w (fun e w' => ∃ r : Int, e = .returned (.int .i64 r) ∧ Fr [] w w' ∧ ((r = -1 ∧ dOf l key = none) ∨ ∃ i : Nat, r = (i : Int) ∧ i < l.length ∧ dOf l key = some (at_ enR l (i : Int)))) := by
 have hF := Fr.refl [] w
 have hlen0 := hSl.len_le
 refine V.en 20 Tryz.func28 fun a h1 => ?_
 refine V.sr h1 [] 4 4 [] fun a h4 => ?_
 refine V.seq fun K5 k6 => ?_
 refine V.sr h4 [] 1 0 [(5, .int .i64 0)] fun a h9 => ?_
 refine V.block ?_
 refine V.loop1 (fun (i : Nat) a_ w_ => En 20 [] a_ [(0, .slice Al l.length cl), (1, .string key), (5, .int .i64 (i : Int))] ∧ Fr [] w w_ ∧ SlR enR (fun k => k < w.heap.size) w_ (.slice Al l.length cl) l ∧ (i ≤ l.length) ∧ (∀ j, j < i → ¬ (at_ enR l (j : Int)).key = key)) (fun (i : Nat) => l.length - i) 0 ?_ ?_
 ·
  refine ⟨(h9.eq 5 (v := (.int .i64 0)) (u := (.int .i64 (0 : Int))) (V.int_eq (by omega))).only _, hF, hSl, (by omega), (fun j hj => absurd hj (by omega))⟩
 ·
  rintro i a10 w11 ⟨h12, hF_13, hSl_14, hi, hG⟩
  have hfs15 := hF_13.size
  refine V.seq fun K16 k17 => ?_
  refine V.sr h12 [] 6 8 [(9, .bool (decide ((i : Int) < ((l.length : Nat) : Int))))] fun a h20 => ?_
  refine V.cp h20 ((i : Int) < ((l.length : Nat) : Int)) (fun ht21 => ?_) (fun ht21 => ?_)
  ·
   refine V.skip ?_
   refine V.then_n (k17 _ _ ?_)
   refine V.seq fun K22 k23 => ?_
   refine V.block ?_
   obtain ⟨g26, o27, hA28, hA28l, hA28z⟩ := hSl_14.addr (by omega)
   obtain ⟨cs29, hok30, hE31⟩ := hSl_14.els hA28 (i : Int) (by omega) (by omega)
   obtain ⟨Al32, cl33, Az34, cz35, Ah36, ch37, rfl, hS38, hS39, hS40⟩ := en_open hok30
   refine V.sr h20 [(2, .ix g26 o27 l.length cl .i64 (i : Int) 7 hA28), (1, .l ⟨g26, o27 + (i : Int).toNat * 7, none⟩ (.string ((at_ enR l (i : Int)).key)) (hE31.at 0 rfl)), (1, .seq ((at_ enR l (i : Int)).key) key)] 12 17 [(18, .bool (decide (((at_ enR l (i : Int)).key) = key)))] fun a h41 => ?_
   refine V.cp h41 (((at_ enR l (i : Int)).key) = key) (fun ht42 => ?_) (fun ht42 => ?_)
   ·
    refine V.sr h41 [] 19 19 [(4, .int .i64 (i : Int))] fun a h45 => ?_
    refine V.ret ?_
    refine V.blk_r ?_
    refine V.then_r ?_
    refine V.then_r ?_
    refine V.blk_r ?_
    refine V.then_r ?_
    refine V.r1 h45 (.int .i64 (i : Int)) ?_
    exact ⟨_, rfl, hF_13, .inr ⟨i, rfl, by omega, dOf_at (by omega) hG (by assumption)⟩⟩
   ·
    refine V.skip ?_
    refine V.blk_n ?_
    refine V.then_n (k23 _ _ ?_)
    refine V.rr h41 [(1, .i ((i : Int) + 1))] 10 11 [(5, .int .i64 ((i : Int) + 1))] fun a h46 => ?_
    refine V.then_n ?_
    refine ⟨i + 1, by omega, ?_⟩
    refine ⟨(h46.eq 5 (v := (.int .i64 ((i : Int) + 1))) (u := (.int .i64 ((i + 1) : Int))) (V.int_eq (by omega))).only _, hF_13, hSl_14, (by omega), (fun j hj => by rcases Nat.lt_or_eq_of_le (Nat.lt_succ_iff.1 hj) with q | q; exact hG j q; (subst q; assumption))⟩
  ·
   refine V.exit ?_
   refine V.then_e ?_
   refine V.then_e ?_
   refine V.blk_hit ?_
   refine V.then_n (k6 _ _ ?_)
   refine V.sr h20 [] 1 0 [(4, .int .i64 (-1))] fun a h49 => ?_
   refine V.ret ?_
   refine V.r1 h49 (.int .i64 (-1)) ?_
   exact ⟨_, rfl, hF_13, .inl ⟨rfl, dOf_no (fun j hj => hG j (by omega))⟩⟩
set_option maxHeartbeats 4000000 in
set_option maxRecDepth 20000 in
theorem rfind_any (w : World) (Al : Option Addr) (cl : Nat) (l : List EnD) (hSl : SlR enR (fun k => k < w.heap.size) w (.slice Al l.length cl) l) (key : ByteArray) : Calls Tryz.prog 9 #[.slice Al l.length cl, .string key] w (fun e w' => ∃ f x Al' cl' Az cz Ah ch, e = .returned (.tuple #[.agg #[.string x.key, .int .i64 x.k, .string x.s, .slice Al' x.l.length cl', .slice Az x.z.length cz, .slice Ah x.h.length ch, .int .i64 x.till], .bool f]) ∧ ((f = true ∧ dOf l key = some x) ∨ (f = false ∧ dOf l key = none ∧ x = EnD.nil)) ∧ SlR Rp.str (fun k => k < w.heap.size) w' (.slice Al' x.l.length cl') x.l ∧ SlR scR (fun k => k < w.heap.size) w' (.slice Az x.z.length cz) x.z ∧ SlR fdR (fun k => k < w.heap.size) w' (.slice Ah x.h.length ch) x.h ∧ Fr [] w w') := by
 have hF := Fr.refl [] w
 refine V.en 17 Tryz.func9 fun a h1 => ?_
 refine V.sg fun K2 k3 => ?_
 refine V.go (V.mk [] trivial (by kernel_rfl) [.string ⟨#[]⟩, .int .i64 0, .string ⟨#[]⟩, .slice none 0 0, .slice none 0 0, .slice none 0 0, .int .i64 0] 39 (fun b => .pointer (some ⟨b, 0, none⟩)) (by kernel_rfl) ?_)
 intro w5 b4 heb4 hB6 hF7 hsb4
 have hF_8 := hF.new hF7
 have hSl_9 := hSl.fr0 hF7
 refine V.pt h1 fun a h10 => ?_
 refine V.re h10 [] 5 5 [] fun a h11 => k3 _ _ ?_
 refine V.sg fun K12 k13 => ?_
 refine V.run h11 [] 2 1 0 [(7, .slice Al l.length cl), (8, .string key)] fun a h14 => ?_
 refine V.cl h14 (Go.Proofs.enters_of Tryz.func28 (by kernel_rfl) rfl) (place_any w5 Al cl l hSl_9.old key) ?_
 rintro _ w18 ⟨r15, rfl, hF16, hr17⟩
 refine ⟨_, rfl, fun a h19 => ?_⟩
 have hsw18 := hF16.size
 have hF_20 := hF_8.new hF16
 have hSl_21 := hSl_9.fr0 hF16
 have hB6_22 := hB6.fr0 hF16
 refine V.re h19 [] 1 0 [(6, .int .i64 r15)] fun a h23 => k13 _ _ ?_
 refine V.seq fun K24 k25 => ?_
 refine V.sr h23 [] 10 10 [(11, .bool (decide (r15 < 0)))] fun a h28 => ?_
 refine V.cp h28 (r15 < 0) (fun ht29 => ?_) (fun ht29 => ?_)
 ·
  refine V.sg fun K30 k31 => ?_
  refine V.run h28 [] 1 1 0 [(12, .agg #[.string ⟨#[]⟩, .int .i64 0, .string ⟨#[]⟩, .slice none 0 0, .slice none 0 0, .slice none 0 0, .int .i64 0])] fun a h35 => ?_
  refine V.go (V.stn b4 0 (.agg #[.string ⟨#[]⟩, .int .i64 0, .string ⟨#[]⟩, .slice none 0 0, .slice none 0 0, .slice none 0 0, .int .i64 0]) [.string ⟨#[]⟩, .int .i64 0, .string ⟨#[]⟩, .slice none 0 0, .slice none 0 0, .slice none 0 0, .int .i64 0] h35.e h35.e rfl rfl (by kernel_rfl) hB6_22 (by simp) [.string ⟨#[]⟩, .int .i64 0, .string ⟨#[]⟩, .slice none 0 0, .slice none 0 0, .slice none 0 0, .int .i64 0] rfl ?_)
  intro w32 hB33 hF34 hsw32
  have hF_36 := hF_20.own hF34 (by simp <;> omega)
  have hSl_37 := hSl_21.fr hF34 (by simp <;> omega)
  refine V.re h35 [] 1 0 [(5, .bool false)] fun a h38 => k31 _ _ ?_
  refine V.ret ?_
  refine V.then_r ?_
  refine V.retCT h38.sd rfl _ (h38.e (v := (.pointer (some ⟨b4, 0, none⟩)))) (V.run_loadVar_agg (cs := [.string ⟨#[]⟩, .int .i64 0, .string ⟨#[]⟩, .slice none 0 0, .slice none 0 0, .slice none 0 0, .int .i64 0]) (by kernel_rfl) (blk_cells hB33 0 _ rfl)) (h38.e (v := (.bool false))) ?_
  rcases hr17 with ⟨h1, h2⟩ | ⟨i, h1, h2, h3⟩
  · exact ⟨false, EnD.nil, none, 0, none, 0, none, 0, rfl, .inr ⟨rfl, h2, rfl⟩, SlR.nil .., SlR.nil .., SlR.nil .., hF_36⟩
  · omega
 ·
  refine V.skip ?_
  refine V.then_n (k25 _ _ ?_)
  refine V.seq fun K39 k40 => ?_
  obtain ⟨i, hri, h2, h3⟩ : ∃ i : Nat, r15 = (i : Int) ∧ i < l.length ∧ dOf l key = some (at_ enR l (i : Int)) := by (rcases hr17 with ⟨h1, h2⟩ | h; omega; exact h)
  subst hri
  obtain ⟨g41, o42, hA43, hA43l, hA43z⟩ := hSl_21.addr (by omega)
  obtain ⟨cs44, hok45, hE46⟩ := hSl_21.els hA43 (i : Int) (by omega) (by omega)
  obtain ⟨Al47, cl48, Az49, cz50, Ah51, ch52, rfl, hS53, hS54, hS55⟩ := en_open hok45
  refine V.rg ?_
  refine V.run h28 [(2, .ix g41 o42 l.length cl .i64 (i : Int) 7 hA43), (0, .ls ⟨g41, o42 + (i : Int).toNat * 7, none⟩ [.string ((at_ enR l (i : Int)).key), .int .i64 ((at_ enR l (i : Int)).k), .string ((at_ enR l (i : Int)).s), .slice Al47 ((at_ enR l (i : Int)).l.length) cl48, .slice Az49 ((at_ enR l (i : Int)).z.length) cz50, .slice Ah51 ((at_ enR l (i : Int)).h.length) ch52, .int .i64 ((at_ enR l (i : Int)).till)] (hE46.cells 0 _ rfl))] 4 13 15 [(16, .agg #[.string ((at_ enR l (i : Int)).key), .int .i64 ((at_ enR l (i : Int)).k), .string ((at_ enR l (i : Int)).s), .slice Al47 ((at_ enR l (i : Int)).l.length) cl48, .slice Az49 ((at_ enR l (i : Int)).z.length) cz50, .slice Ah51 ((at_ enR l (i : Int)).h.length) ch52, .int .i64 ((at_ enR l (i : Int)).till)])] fun a h59 => ?_
  refine V.go (V.stn b4 0 (.agg #[.string ((at_ enR l (i : Int)).key), .int .i64 ((at_ enR l (i : Int)).k), .string ((at_ enR l (i : Int)).s), .slice Al47 ((at_ enR l (i : Int)).l.length) cl48, .slice Az49 ((at_ enR l (i : Int)).z.length) cz50, .slice Ah51 ((at_ enR l (i : Int)).h.length) ch52, .int .i64 ((at_ enR l (i : Int)).till)]) [.string ((at_ enR l (i : Int)).key), .int .i64 ((at_ enR l (i : Int)).k), .string ((at_ enR l (i : Int)).s), .slice Al47 ((at_ enR l (i : Int)).l.length) cl48, .slice Az49 ((at_ enR l (i : Int)).z.length) cz50, .slice Ah51 ((at_ enR l (i : Int)).h.length) ch52, .int .i64 ((at_ enR l (i : Int)).till)] h59.e h59.e rfl rfl (by kernel_rfl) hB6_22 (by simp) [.string ((at_ enR l (i : Int)).key), .int .i64 ((at_ enR l (i : Int)).k), .string ((at_ enR l (i : Int)).s), .slice Al47 ((at_ enR l (i : Int)).l.length) cl48, .slice Az49 ((at_ enR l (i : Int)).z.length) cz50, .slice Ah51 ((at_ enR l (i : Int)).h.length) ch52, .int .i64 ((at_ enR l (i : Int)).till)] rfl ?_)
  intro w56 hB57 hF58 hsw56
  have hF_60 := hF_20.own hF58 (by simp <;> omega)
  have hSl_61 := hSl_21.fr hF58 (by simp <;> omega)
  have hS53_62 := hS53.fr hF58 (by simp <;> omega)
  have hS54_63 := hS54.fr hF58 (by simp <;> omega)
  have hS55_64 := hS55.fr hF58 (by simp <;> omega)
  have hE46_65 := hE46.fr hF58 (by simp <;> omega)
  refine V.re h59 [] 1 0 [(5, .bool true)] fun a h66 => k40 _ _ ?_
  refine V.ret ?_
  refine V.retCT h66.sd rfl _ (h66.e (v := (.pointer (some ⟨b4, 0, none⟩)))) (V.run_loadVar_agg (cs := [.string ((at_ enR l (i : Int)).key), .int .i64 ((at_ enR l (i : Int)).k), .string ((at_ enR l (i : Int)).s), .slice Al47 ((at_ enR l (i : Int)).l.length) cl48, .slice Az49 ((at_ enR l (i : Int)).z.length) cz50, .slice Ah51 ((at_ enR l (i : Int)).h.length) ch52, .int .i64 ((at_ enR l (i : Int)).till)]) (by kernel_rfl) (blk_cells hB57 0 _ rfl)) (h66.e (v := (.bool true))) ?_
  exact ⟨true, _, _, _, _, _, _, _, rfl, .inl ⟨rfl, h3⟩, hS53_62, hS54_63, hS55_64, hF_60⟩
set_option maxHeartbeats 4000000 in
set_option maxRecDepth 20000 in
theorem same_eq (w : World) (Al : Option Addr) (cl : Nat) (l : List EnD) (hSl : SlR enR (fun k => k < w.heap.size) w (.slice Al l.length cl) l) (A2 : Option Addr) (c2 : Nat) (hS2 : SlR enR (fun k => k < w.heap.size) w (.slice A2 l.length c2) l) : Calls Tryz.prog 13 #[.slice Al l.length cl, .slice A2 l.length c2] w (fun e w' => e = .returned (.bool (true)) ∧ Fr [] w w') := by
 have hF := Fr.refl [] w
 have hlen0 := hSl.len_le
 refine V.en 55 Tryz.func13 fun a h1 => ?_
 refine V.sr h1 [] 4 4 [] fun a h4 => ?_
 refine V.seq fun K5 k6 => ?_
 refine V.sr h4 [(4, .q (.bool false) (V.t_nsame ((l.length : Nat) : Int)))] 6 9 [(10, .bool false)] fun a h9 => ?_
 refine V.cf h9 ?_
 refine V.skip ?_
 refine V.then_n (k6 _ _ ?_)
 refine V.seq fun K10 k11 => ?_
 refine V.sr h9 [] 1 0 [(5, .int .i64 0)] fun a h14 => ?_
 refine V.block ?_
 refine V.loop1 (fun (i : Nat) a_ w_ => En 55 [] a_ [(0, .slice Al l.length cl), (1, .slice A2 l.length c2), (5, .int .i64 (i : Int))] ∧ Fr [] w w_ ∧ SlR enR (fun k => k < w.heap.size) w_ (.slice Al l.length cl) l ∧ SlR enR (fun k => k < w.heap.size) w_ (.slice A2 l.length c2) l ∧ (i ≤ l.length)) (fun (i : Nat) => l.length - i) 0 ?_ ?_
 ·
  refine ⟨(h14.eq 5 (v := (.int .i64 0)) (u := (.int .i64 (0 : Int))) (V.int_eq (by omega))).only _, hF, hSl, hS2, (by omega)⟩
 ·
  rintro i a15 w16 ⟨h17, hF_18, hSl_19, hS2_20, hi⟩
  have hfs21 := hF_18.size
  refine V.seq fun K22 k23 => ?_
  refine V.sr h17 [] 11 13 [(14, .bool (decide ((i : Int) < ((l.length : Nat) : Int))))] fun a h26 => ?_
  refine V.cp h26 ((i : Int) < ((l.length : Nat) : Int)) (fun ht27 => ?_) (fun ht27 => ?_)
  ·
   refine V.skip ?_
   refine V.then_n (k23 _ _ ?_)
   refine V.seq fun K28 k29 => ?_
   refine V.block ?_
   refine V.seq fun K30 k31 => ?_
   refine V.pl [([0,1,2,3,4,5,6,7,8,9,10,11,12,13,14,15,16,17,18,19,20,21,22,23,24,25,26,27,28,29,30,31,32,33,34],some (35,[])),([36,37],none)] fun w32 hF33 hsw32 => ?_
   have hF_34 := hF_18.new hF33
   have hSl_35 := hSl_19.fr0 hF33
   have hS2_36 := hS2_20.fr0 hF33
   obtain ⟨g37, o38, hA39, hA39l, hA39z⟩ := hSl_35.addr (by omega)
   obtain ⟨cs40, hok41, hE42⟩ := hSl_35.els hA39 (i : Int) (by omega) (by omega)
   obtain ⟨Al43, cl44, Az45, cz46, Ah47, ch48, rfl, hS49, hS50, hS51⟩ := en_open hok41
   obtain ⟨g52, o53, hA54, hA54l, hA54z⟩ := hS2_36.addr (by omega)
   obtain ⟨cs55, hok56, hE57⟩ := hS2_36.els hA54 (i : Int) (by omega) (by omega)
   obtain ⟨Al58, cl59, Az60, cz61, Ah62, ch63, rfl, hS64, hS65, hS66⟩ := en_open hok56
   refine V.pe h26 [(2, .ix g37 o38 l.length cl .i64 (i : Int) 7 hA39), (1, .l ⟨g37, o38 + (i : Int).toNat * 7, none⟩ (.string ((at_ enR l (i : Int)).key)) (hE42.at 0 rfl)), (2, .ix g52 o53 l.length c2 .i64 (i : Int) 7 hA54), (1, .l ⟨g52, o53 + (i : Int).toNat * 7, none⟩ (.string ((at_ enR l (i : Int)).key)) (hE57.at 0 rfl)), (0, .q (.bool false) (V.t_snsame ((at_ enR l (i : Int)).key))), (3, .ix g37 o38 l.length cl .i64 (i : Int) 7 hA39), (1, .l ⟨g37, (o38 + (i : Int).toNat * 7) + 6, none⟩ (.int .i64 ((at_ enR l (i : Int)).till)) (hE42.at 6 rfl)), (2, .ix g52 o53 l.length c2 .i64 (i : Int) 7 hA54), (1, .l ⟨g52, (o53 + (i : Int).toNat * 7) + 6, none⟩ (.int .i64 ((at_ enR l (i : Int)).till)) (hE57.at 6 rfl)), (0, .q (.bool false) (V.t_nsame ((at_ enR l (i : Int)).till))), (4, .ix g37 o38 l.length cl .i64 (i : Int) 7 hA39), (1, .ls ⟨g37, (o38 + (i : Int).toNat * 7) + 1, none⟩ [.int .i64 ((at_ enR l (i : Int)).k), .string ((at_ enR l (i : Int)).s), .slice Al43 ((at_ enR l (i : Int)).l.length) cl44, .slice Az45 ((at_ enR l (i : Int)).z.length) cz46, .slice Ah47 ((at_ enR l (i : Int)).h.length) ch48] (hE42.cells 1 _ rfl)), (2, .ix g52 o53 l.length c2 .i64 (i : Int) 7 hA54), (1, .ls ⟨g52, (o53 + (i : Int).toNat * 7) + 1, none⟩ [.int .i64 ((at_ enR l (i : Int)).k), .string ((at_ enR l (i : Int)).s), .slice Al58 ((at_ enR l (i : Int)).l.length) cl59, .slice Az60 ((at_ enR l (i : Int)).z.length) cz61, .slice Ah62 ((at_ enR l (i : Int)).h.length) ch63] (hE57.cells 1 _ rfl))] 17 50 [(41, .bool false), (46, .agg #[.int .i64 ((at_ enR l (i : Int)).k), .string ((at_ enR l (i : Int)).s), .slice Al43 ((at_ enR l (i : Int)).l.length) cl44, .slice Az45 ((at_ enR l (i : Int)).z.length) cz46, .slice Ah47 ((at_ enR l (i : Int)).h.length) ch48]), (51, .agg #[.int .i64 ((at_ enR l (i : Int)).k), .string ((at_ enR l (i : Int)).s), .slice Al58 ((at_ enR l (i : Int)).l.length) cl59, .slice Az60 ((at_ enR l (i : Int)).z.length) cz61, .slice Ah62 ((at_ enR l (i : Int)).h.length) ch63])] fun a h67 => ?_
   refine V.clg h67 (Go.Proofs.enters_of Tryz.func40 (by kernel_rfl) rfl) (samev_any w32 ((at_ enR l (i : Int)).k) ((at_ enR l (i : Int)).s) Al43 cl44 ((at_ enR l (i : Int)).l) hS49.old Az45 cz46 ((at_ enR l (i : Int)).z) hS50.old Ah47 ch48 ((at_ enR l (i : Int)).h) hS51.old Al58 cl59 hS64.old Az60 cz61 hS65.old Ah62 ch63 hS66.old) ?_
   rintro _ w69 ⟨rfl, hF68⟩
   refine ⟨_, rfl, fun a h70 => ?_⟩
   have hsw69 := hF68.size
   have hF_71 := hF_34.new hF68
   have hSl_72 := hSl_35.fr0 hF68
   have hS2_73 := hS2_36.fr0 hF68
   have hS49_74 := hS49.fr0 hF68
   have hS50_75 := hS50.fr0 hF68
   have hS51_76 := hS51.fr0 hF68
   have hE42_77 := hE42.fr0 hF68
   have hS64_78 := hS64.fr0 hF68
   have hS65_79 := hS65.fr0 hF68
   have hS66_80 := hS66.fr0 hF68
   have hE57_81 := hE57.fr0 hF68
   refine V.eh trivial ?_
   refine V.pz h70 [] 53 53 [(54, .bool false)] fun a h82 => k31 _ _ ?_
   have h83 := h82.only [(0, .slice Al l.length cl), (1, .slice A2 l.length c2), (5, .int .i64 (i : Int)), (54, .bool false)]
   refine V.cf h83 ?_
   refine V.skip ?_
   refine V.blk_n ?_
   refine V.then_n (k29 _ _ ?_)
   refine V.rr h83 [(1, .i ((i : Int) + 1))] 15 16 [(5, .int .i64 ((i : Int) + 1))] fun a h84 => ?_
   refine V.then_n ?_
   refine ⟨i + 1, by omega, ?_⟩
   refine ⟨(h84.eq 5 (v := (.int .i64 ((i : Int) + 1))) (u := (.int .i64 ((i + 1) : Int))) (V.int_eq (by omega))).only _, hF_71, hSl_72, hS2_73, (by omega)⟩
  ·
   refine V.exit ?_
   refine V.then_e ?_
   refine V.then_e ?_
   refine V.blk_hit ?_
   refine V.then_n (k11 _ _ ?_)
   refine V.sr h26 [] 1 0 [(4, .bool true)] fun a h87 => ?_
   refine V.ret ?_
   refine V.r1 h87 (.bool true) ?_
   exact ⟨rfl, hF_18⟩
end Go.Proofs.YtjkegckfncfoaaaGreat
end
section
namespace Go.Proofs.YtjkegckfncfoaaaGreat
open Go.V Go.Base
open Go.RowKit (Below)
attribute [local irreducible] Act.put Act.eval
set_option linter.unusedVariables false
set_option linter.unusedSimpArgs false
set_option maxHeartbeats 4000000 in
set_option maxRecDepth 20000 in
theorem pick1_any (w : World) (v : EntV) : Calls Tryz.prog 35 #[.agg #[.int .i64 v.kind, .string v.s, .slice v.l.a v.l.n v.l.c, .slice v.z.a v.z.n v.z.c, .slice v.h.a v.h.n v.h.c, .int .i64 v.till]] w (fun e w' => e = .returned (.bool (true)) ∧ Fr [] w w') := by
 have hF := Fr.refl [] w
 refine V.en 3 Tryz.func35 fun a h1 => ?_
 refine V.sg fun K2 k3 => ?_
 refine V.go (V.mk [(0, .agg #[.int .i64 v.kind, .string v.s, .slice v.l.a v.l.n v.l.c, .slice v.z.a v.z.n v.z.c, .slice v.h.a v.h.n v.h.c, .int .i64 v.till])] ⟨h1.e, trivial⟩ (by kernel_rfl) [.int .i64 v.kind, .string v.s, .slice v.l.a v.l.n v.l.c, .slice v.z.a v.z.n v.z.c, .slice v.h.a v.h.n v.h.c, .int .i64 v.till] 79 (fun b => .pointer (some ⟨b, 0, none⟩)) (by kernel_rfl) ?_)
 intro w5 b4 heb4 hB6 hF7 hsb4
 have hF_8 := hF.new hF7
 refine V.pt h1 fun a h9 => ?_
 refine V.re h9 [] 2 2 [] fun a h10 => k3 _ _ ?_
 refine V.sr h10 [] 1 0 [(2, .bool true)] fun a h13 => ?_
 refine V.ret ?_
 refine V.r1 h13 (.bool true) ?_
 exact ⟨rfl, hF_8⟩
set_option maxHeartbeats 4000000 in
set_option maxRecDepth 20000 in
theorem keys1_any (w : World) (now : Int) (dr : Nat) (role : Int) (Aa : Option Addr) (na ca : Nat) (b : Nat) (hB : Blk w b [.int .i64 now, .int .u64 (dr : Int), .int .i64 role, .slice Aa na ca] 27) (v : EntV) : Calls Tryz.prog 39 #[.agg #[.int .i64 v.kind, .string v.s, .slice v.l.a v.l.n v.l.c, .slice v.z.a v.z.n v.z.c, .slice v.h.a v.h.n v.h.c, .int .i64 v.till], .pointer (some ⟨b, 0, none⟩)] w (fun e w' => e = .returned (.bool (decide (seenD role now v.till))) ∧ Fr [] w w') := by
 have hF := Fr.refl [] w
 have hltb := hB.lt
 refine V.en 7 Tryz.func39 fun a h1 => ?_
 refine V.sg fun K2 k3 => ?_
 refine V.go (V.mk [(0, .agg #[.int .i64 v.kind, .string v.s, .slice v.l.a v.l.n v.l.c, .slice v.z.a v.z.n v.z.c, .slice v.h.a v.h.n v.h.c, .int .i64 v.till])] ⟨h1.e, trivial⟩ (by kernel_rfl) [.int .i64 v.kind, .string v.s, .slice v.l.a v.l.n v.l.c, .slice v.z.a v.z.n v.z.c, .slice v.h.a v.h.n v.h.c, .int .i64 v.till] 79 (fun b => .pointer (some ⟨b, 0, none⟩)) (by kernel_rfl) ?_)
 intro w5 b4 heb4 hB6 hF7 hsb4
 have hF_8 := hF.new hF7
 have hB_9 := hB.fr0 hF7
 refine V.pt h1 fun a h10 => ?_
 refine V.re h10 [] 3 3 [] fun a h11 => k3 _ _ ?_
 refine V.sg fun K12 k13 => ?_
 refine V.run h11 [(0, .bs hB_9 0 [.int .i64 now, .int .u64 (dr : Int), .int .i64 role, .slice Aa na ca]), (0, .bs hB6 0 [.int .i64 v.kind, .string v.s, .slice v.l.a v.l.n v.l.c, .slice v.z.a v.z.n v.z.c, .slice v.h.a v.h.n v.h.c, .int .i64 v.till])] 2 1 0 [(4, .agg #[.int .i64 now, .int .u64 (dr : Int), .int .i64 role, .slice Aa na ca]), (5, .agg #[.int .i64 v.kind, .string v.s, .slice v.l.a v.l.n v.l.c, .slice v.z.a v.z.n v.z.c, .slice v.h.a v.h.n v.h.c, .int .i64 v.till])] fun a h14 => ?_
 refine V.cl h14 (Go.Proofs.enters_of Tryz.func31 (by kernel_rfl) rfl) (seen_any w5 now (dr : Int) role Aa na ca v) ?_
 rintro _ w16 ⟨rfl, hF15⟩
 refine ⟨_, rfl, fun a h17 => ?_⟩
 have hsw16 := hF15.size
 have hF_18 := hF_8.new hF15
 have hB_19 := hB_9.fr0 hF15
 have hB6_20 := hB6.fr0 hF15
 refine V.re h17 [] 1 0 [(3, .bool (decide (seenD role now v.till)))] fun a h21 => k13 _ _ ?_
 refine V.ret ?_
 refine V.r1 h21 (.bool (decide (seenD role now v.till))) ?_
 exact ⟨rfl, hF_18⟩
set_option maxHeartbeats 4000000 in
set_option maxRecDepth 20000 in
theorem keys_any (w : World) (H Vb : Nat → Prop) (sp t : Nat) (T : Tb EntV) (D : ByteArray → Option EnD) (hq : SpX w H Vb sp t T D) (now : Int) (dr : Nat) (role : Int) (Aa : Option Addr) (na ca : Nat) : Calls Tryz.prog 12 #[.pointer (some ⟨sp, 0, none⟩), .agg #[.int .i64 now, .int .u64 (dr : Int), .int .i64 role, .slice Aa na ca]] w (fun e w' => ∃ A c l, e = .returned (.slice A l.length c) ∧ OwR Rp.str NoZ w' w.heap.size 9 (.slice A l.length c) l ∧ KeysOf D (fun t => decide (seenD role now t)) l ∧ Fr [] w w') := by
 have hF := Fr.refl [] w
 have hX := hq
 have hB := hq.hB
 have hspl := hB.lt
 have hX0 := hq.lt
 have hcn := hq.hT.1.cn
 have hM := hq.hM
 refine V.en 8 Tryz.func12 fun a h1 => ?_
 refine V.sg fun K2 k3 => ?_
 refine V.go (V.mk [(1, .agg #[.int .i64 now, .int .u64 (dr : Int), .int .i64 role, .slice Aa na ca])] ⟨h1.e, trivial⟩ (by kernel_rfl) [.int .i64 now, .int .u64 (dr : Int), .int .i64 role, .slice Aa na ca] 27 (fun b => .pointer (some ⟨b, 0, none⟩)) (by kernel_rfl) ?_)
 intro w5 b4 heb4 hB6 hF7 hsb4
 have hX_8 := hX.fr0 hF7
 have hB_9 := hB.fr0 hF7
 have hF_10 := hF.new hF7
 refine V.pt h1 fun a h11 => ?_
 refine V.re h11 [] 4 4 [] fun a h12 => k3 _ _ ?_
 refine V.sg fun K13 k14 => ?_
 refine V.run h12 [] 2 1 0 [(5, .pointer (some ⟨sp, 0, none⟩)), (6, .func (.func 39) #[] #[.pointer (some ⟨b4, 0, none⟩)])] fun a h15 => ?_
 refine V.cl h15 (Go.Proofs.enters_of Tryz.func34 (by kernel_rfl) rfl) (sorted1_any w5 H Vb sp t T D hX_8 39 ⟨b4, 0, none⟩ (enters_of Tryz.func39 (by kernel_rfl) rfl) (fun t => decide (seenD role now t)) (fun W v f => keys1_any W now dr role Aa na ca b4 (hB6.fr0 f) v)) ?_
 rintro _ w21 ⟨A16, c17, rfl, hO18, hF19⟩
 refine ⟨_, rfl, fun a h22 => ?_⟩
 have hsw21 := hF19.size
 have hX_23 := hX_8.fr0 hF19
 have hB_24 := hB_9.fr0 hF19
 have hF_25 := hF_10.new hF19
 have hB6_26 := hB6.fr0 hF19
 have hk20 := keys_of hX_8 (fun t => decide (seenD role now t))
 refine V.re h22 [] 1 0 [(4, .slice A16 ((srtK (keysP (fun t => decide (seenD role now t)) (T.a ++ T.b).flatten)).length) c17)] fun a h27 => k14 _ _ ?_
 refine V.ret ?_
 refine V.r1 h27 (.slice A16 ((srtK (keysP (fun t => decide (seenD role now t)) (T.a ++ T.b).flatten)).length) c17) ?_
 exact ⟨_, _, _, rfl, hO18.rebase (by omega), keys_of hq _, hF_25⟩
end Go.Proofs.YtjkegckfncfoaaaGreat
end
