/- A range over a function whose rounds keep all that the iterator made; a call of a function's value, be it yield or another. -/
import Derived.Test.YtalhmegjomfbaaaRng
import Derived.Test.YtalhmegjomfbaaaBks
namespace Go.V
open Go.Plan (FW)
open Go.RowKit Go.Base
set_option linter.unusedVariables false
set_option linter.unusedSimpArgs false
/-- Blocks that lie as they lay. -/
def KeptP (K : Nat → Prop) (w w' : World) : Prop := w.heap.size ≤ w'.heap.size ∧ ∀ k, k < w.heap.size → K k → w'.heap[k]? = w.heap[k]?
theorem KeptP.refl (K : Nat → Prop) (w : World) : KeptP K w w := ⟨Nat.le_refl _, fun _ _ _ => rfl⟩
theorem KeptP.fr {K : Nat → Prop} {l : List Nat} {w w1 w2 : World} (h : KeptP K w w1) (f : Fr l w1 w2) (hl : ∀ k ∈ l, ¬ K k) : KeptP K w w2 :=
  ⟨Nat.le_trans h.1 f.size, fun k hk hK => (f.block k (Nat.lt_of_lt_of_le hk h.1) fun hm => hl k hm hK).trans (h.2 k hk hK)⟩
theorem KeptP.frP {K P : Nat → Prop} {w w1 w2 : World} (h : KeptP K w w1) (f : FrP P w1 w2) (hl : ∀ k, P k → ¬ K k) : KeptP K w w2 :=
  ⟨Nat.le_trans h.1 f.size, fun k hk hK => (f.block k (Nat.lt_of_lt_of_le hk h.1) fun hm => hl k hm hK).trans (h.2 k hk hK)⟩
theorem SlR.kept {α : Type} {R : Rp α} {Z K : Nat → Prop} {w w' : World} {v : Value} {xs : List α} (h : SlR R Z w v xs) (f : KeptP K w w') (hz : ∀ k, Z k → K k) : SlR R Z w' v xs :=
  h.mono (fun b hb hZ => ⟨hZ, f.2 b hb (hz b hZ)⟩) f.1
/-- A call of a function's value. -/
def CallV (P : Program) (fv : Value) (args : Array Value) (w : World) (R : Ending → World → Prop) : Prop :=
  (∃ l, fv = .func (.yield l) #[] #[] ∧ Yld P l args w R) ∨ (∃ f cap, fv = .func (.func f) #[] cap ∧ (∀ args w, (callFunc f args).run P w = .ok (.enter f args) w) ∧ Calls P f (args ++ cap) w R)
section
variable {P : Program} {Q : Exit → Act → World → Prop} {a : Act} {w : World} {ops : Array Oper} {rest : List Oper} {d : Option Tmp} {ty : TypeId} {pos : String} {aft : Array Edge} {g : Option (Nat × Bool)}
theorem callV {f : Operand} {args : Array Operand} {ts : Array TypeId} (fv : Value) (av : Array Value) (hf : a.eval f = fv) (ha : args.map a.eval = av) {R : Ending → World → Prop} (hc : CallV P fv av w R)
    (k : ∀ e w1, R e w1 → ∃ v, e = .returned v ∧ L none P ops Q rest (a.put d v) w1) : St none P ops Q rest ⟨d, .call ⟨.value f, args, ts⟩, ty, pos, aft, g⟩ a w := by
  rcases hc with ⟨l, rfl, hy⟩ | ⟨fn, cap, rfl, he, hc⟩
  · exact yield l av hf ha hy k
  · exact call fn cap av hf ha he hc k
end
def rPostP {α : Type} (KB : Nat → Prop) (I : List α → World → Prop) (Ix : Code → List α → World → Prop) (s : List α) (W : World) : Exit → Act → World → Prop
  | .normal, _, W' => KeptP KB W W' ∧ I s W'
  | .ret, _, W' => KeptP KB W W' ∧ Ix .ret s W'
  | .exit i, _, W' => KeptP KB W W' ∧ Ix (.exit i) s W'
  | .goto t, _, W' => KeptP KB W W' ∧ Ix (.goto t) s W'
  | _, _, _ => False
/-- What an iterator promises of the world w: whoever is told of the data one by one, and keeps the blocks of KB. -/
def IterP {α : Type} (P : Program) (gf : Nat) (lb : Array Value) (encs : α → Array Value) (X : World → α → World → Prop) (S Sp : List α → Prop) (KB : Nat → Prop) (w : World) : Prop :=
  ∀ (W1 : World), Fr [] w W1 → w.heap.size + 2 ≤ W1.heap.size → ∀ (l : Nat) (J Jx : List α → World → Prop),
    (∀ pre x W0 W, J pre W0 → Fr [] W0 W → X W0 x W → Sp (pre ++ [x]) → Yld P l (encs x) W (fun e W' => (e = .returned (.bool true) ∧ J (pre ++ [x]) W' ∧ KeptP KB W W') ∨ (e = .returned (.bool false) ∧ Jx (pre ++ [x]) W'))) →
    J [] W1 → Calls P gf (#[.func (.yield l) #[] #[]] ++ lb) W1 (fun e W' => (∃ v, e = .returned v) ∧ ((∃ xs W2, S xs ∧ J xs W2 ∧ Fr [] W2 W') ∨ (∃ pre W2, Sp pre ∧ Jx pre W2 ∧ Fr [] W2 W')))
section
variable {P : Program} {Q : Exit → Act → World → Prop} {a : Act} {w : World}
theorem rngP {α : Type} {g : Operand} {ps : Array Tmp} {assign body : Code} {N : Nat} (hz : Sz N a) {gf : Nat} {lb : Array Value} (hg : a.eval g = .func (.func gf) #[] lb) (eg : ∀ args w, (callFunc gf args).run P w = .ok (.enter gf args) w)
    {encs : α → Array Value} {X : World → α → World → Prop} {S Sp : List α → Prop} {KB : Nat → Prop} (hKB : ∀ k, KB k → k ≠ w.heap.size ∧ k ≠ w.heap.size + 1) (hit : IterP P gf lb encs X S Sp KB w) (hps : ∀ x, (encs x).size = ps.size)
    (I : List α → World → Prop) (Ix : Code → List α → World → Prop) (hI : ∀ pre W W', I pre W → Fr [w.heap.size + 1] W W' → I pre W') (hIx : ∀ c pre W W', Ix c pre W → Fr [w.heap.size + 1] W W' → Ix c pre W')
    (h0 : ∀ W, Fr [] w W → W.heap.size = w.heap.size + 2 → I [] W)
    (hbody : ∀ (l : Nat) (pre : List α) (x : α) (W0 W : World), l = w.heap.size + 1 → I pre W0 → Fr [] W0 W → X W0 x W → Sp (pre ++ [x]) → w.heap.size + 2 ≤ W0.heap.size →
      ∀ a1, Sz N a1 → a1.tmps = (ps.zip (encs x)).foldl (fun t (p, v) => t.setIfInBounds p v) a.tmps →
        Wp (some l) P assign (Exit.then (fun a2 W1 => KeptP (fun k => k = w.heap.size ∨ k = l ∨ KB k) W W1 ∧ ∀ W2, Fr [l] W1 W2 → Wp (some l) P body (rPostP (fun k => k = w.heap.size ∨ k = l ∨ KB k) I Ix (pre ++ [x]) W2) a2 W2) (fun _ _ _ => False)) a1 W)
    (hdone : ∀ (xs : List α) (W : World), S xs → I xs W → W.heap[w.heap.size]? = some (.deferred (some [])) → ∀ a1, Sd N [{ target := .collected w.heap.size, args := #[] }] a1 → a1.tmps = a.tmps → Q .normal a1 W)
    (hstop : ∀ (c : Code) (pre : List α) (W : World), Sp pre → Ix c pre W → W.heap[w.heap.size]? = some (.deferred (some [])) → ∀ a1, Sd N [{ target := .collected w.heap.size, args := #[] }] a1 → a1.tmps = a.tmps → Wp none P c Q a1 W) :
    Wp none P (.rangeFunc g ps assign body) Q a w := by
  unfold Wp
  refine wpIn_rangeFunc ?_
  intro fn hfn
  obtain ⟨rec, hrec⟩ : ∃ rec : LoopState → Option Code → Loop, rec = fun st pe => { state := st, pending := pe, fn, tmps := a.tmps, params := ps, assign, body, defers := w.heap.size } := ⟨_, rfl⟩
  obtain ⟨W1, hW1⟩ : ∃ W1, (w.alloc (.deferred (some []))).alloc (.loop (rec .ready none)) = W1 := ⟨_, rfl⟩
  have hs1 : W1.heap.size = w.heap.size + 2 := by rw [← hW1]; simp
  have hL1 : W1.heap[w.heap.size + 1]? = some (.loop (rec .ready none)) := by
    rw [← hW1]; have := World.alloc_heap_new (w.alloc (.deferred (some []))) (.loop (rec .ready none)); rwa [World.size_alloc] at this
  have hK1 : W1.heap[w.heap.size]? = some (.deferred (some [])) := by
    rw [← hW1]; exact (Below.heap_alloc _ _ _ (by simp)).trans (World.alloc_heap_new w _)
  have hF1 : Fr [] w W1 := by rw [← hW1]; exact (Fr.alloc [] w _).new (Fr.alloc [] _ _)
  refine ⟨w.heap.size + 1, [{ target := .collected w.heap.size, args := #[] }], W1, { target := .fn (.func gf) lb, args := #[.func (.yield (w.heap.size + 1)) #[] #[]] }, W1, gf,
    #[.func (.yield (w.heap.size + 1)) #[] #[]] ++ lb, W1, ?_, ?_, (fun _ _ => trivial), ?_, (fun h => by cases h), ?_⟩
  · rw [← hW1, hrec]; exact run_enterLoop_outer _ _ _ _ _
  · simp only [resolve, hg]
    simp [go_sem]
  · simp [invoke, go_sem, eg]
  · refine (callsFW (ro := none) (hit W1 hF1 (by omega) (w.heap.size + 1)
      (fun pre W => I pre W ∧ w.heap.size + 2 ≤ W.heap.size ∧ W.heap[w.heap.size + 1]? = some (.loop (rec .ready none)) ∧ W.heap[w.heap.size]? = some (.deferred (some [])))
      (fun pre W => ∃ c, Ix c pre W ∧ w.heap.size + 2 ≤ W.heap.size ∧ W.heap[w.heap.size + 1]? = some (.loop (rec .done (some c))) ∧ W.heap[w.heap.size]? = some (.deferred (some []))) ?_ ⟨h0 W1 hF1 hs1, by omega, hL1, hK1⟩)).mono ?_
    · rintro pre x W0 W ⟨hi, hsz, hl0, hk0⟩ hfr hx hsp
      have hl := (hfr.block (w.heap.size + 1) (by omega) (by simp)).trans hl0
      have hk := (hfr.block w.heap.size (by omega) (by simp)).trans hk0
      have hszW := hfr.size
      have hy := run_yield (P := P) (args := encs x) hl (by rw [hrec]; exact hps x)
      rw [hrec] at hy
      refine ⟨fn, _, assign, body, hy, roundIn_of_wpIn trivial ?_⟩
      have hbd := hbody (w.heap.size + 1) pre x W0 W rfl hi hfr hx hsp hsz { tmps := (ps.zip (encs x)).foldl (fun t (p, v) => t.setIfInBounds p v) a.tmps, defers := [] } ⟨by
        show ((ps.zip (encs x)).foldl (fun t (p, v) => t.setIfInBounds p v) a.tmps).size = N
        rw [← hz.size]
        exact foldl_size _ trivial, rfl⟩ rfl
      unfold Wp at hbd
      refine wpIn_mono hbd ?_
      intro e a2 W1' q
      cases e with
      | normal =>
        obtain ⟨hkept, hbdy⟩ := q
        have hkz := hkept.1
        have hkl := (hkept.2 (w.heap.size + 1) (by omega) (.inr (.inl rfl))).trans hl
        have hkD := (hkept.2 w.heap.size (by omega) (.inl rfl)).trans hk
        refine ⟨_, run_beginRound hkl (by rw [hrec]), ?_⟩
        have hfp := putObj_fr (o' := .loop { rec .ready none with state := .busy }) hkl
        have hb2 := hbdy _ hfp
        unfold Wp at hb2
        have hl2 : (W1'.putObj (w.heap.size + 1) (.loop { rec .ready none with state := .busy })).heap[w.heap.size + 1]? = some (.loop { rec .ready none with state := .busy }) := World.putObj_heap_same (Array.getElem?_eq_some_iff.1 hkl).1
        have hD2 := (hfp.block w.heap.size (by omega) (by simp)).trans hkD
        have hz2 := hfp.size
        refine wpIn_mono hb2 ?_
        have fin : ∀ (jump : Option Code) (W3 : World), KeptP (fun k => k = w.heap.size ∨ k = w.heap.size + 1 ∨ KB k) (W1'.putObj (w.heap.size + 1) (.loop { rec .ready none with state := .busy })) W3 →
            ∃ W4, (Instr.endRound (w.heap.size + 1) jump).run P W3 = .ok (.bool jump.isNone) W4 ∧ Fr [w.heap.size + 1] W3 W4 ∧ w.heap.size + 2 ≤ W4.heap.size ∧
              W4.heap[w.heap.size + 1]? = some (.loop (rec (if jump.isNone then .ready else .done) jump)) ∧ W4.heap[w.heap.size]? = some (.deferred (some [])) ∧ KeptP KB W W4 := fun jump W3 hk3 => by
          have hz3 := hk3.1
          have hl3 := (hk3.2 (w.heap.size + 1) (by omega) (.inr (.inl rfl))).trans hl2
          have hD3 := (hk3.2 w.heap.size (by omega) (.inl rfl)).trans hD2
          have hfp3 := putObj_fr (o' := .loop (rec (if jump.isNone then .ready else .done) jump)) hl3
          have hz4 := hfp3.size
          refine ⟨_, ?_, hfp3, by omega, World.putObj_heap_same (Array.getElem?_eq_some_iff.1 hl3).1, (hfp3.block w.heap.size (by omega) (by simp)).trans hD3, by omega, ?_⟩
          · have := run_endRound (P := P) jump hl3
            rw [hrec] at this ⊢
            exact this
          · intro k hkl' hKk
            have hne := hKB k hKk
            exact (hfp3.block k (by omega) (by simp; omega)).trans ((hk3.2 k (by omega) (.inr (.inr hKk))).trans ((hfp.block k (by omega) (by simp; omega)).trans (hkept.2 k hkl' (.inr (.inr hKk)))))
        intro e a3 W3 hp
        cases e with
        | normal =>
          obtain ⟨hk3, hi3⟩ := hp
          obtain ⟨W4, hr, hf4, hz4, hl4, hD4, hb4⟩ := fin none W3 hk3
          exact ⟨_, W4, hr, .inl ⟨rfl, ⟨hI _ _ _ hi3 hf4, hz4, hl4, hD4⟩, hb4⟩⟩
        | ret =>
          obtain ⟨hk3, hi3⟩ := hp
          obtain ⟨W4, hr, hf4, hz4, hl4, hD4, hb4⟩ := fin (some .ret) W3 hk3
          exact ⟨_, W4, hr, .inr ⟨rfl, .ret, hIx _ _ _ _ hi3 hf4, hz4, hl4, hD4⟩⟩
        | exit i =>
          obtain ⟨hk3, hi3⟩ := hp
          obtain ⟨W4, hr, hf4, hz4, hl4, hD4, hb4⟩ := fin (some (.exit i)) W3 hk3
          exact ⟨_, W4, hr, .inr ⟨rfl, .exit i, hIx _ _ _ _ hi3 hf4, hz4, hl4, hD4⟩⟩
        | goto t =>
          obtain ⟨hk3, hi3⟩ := hp
          obtain ⟨W4, hr, hf4, hz4, hl4, hD4, hb4⟩ := fin (some (.goto t)) W3 hk3
          exact ⟨_, W4, hr, .inr ⟨rfl, .goto t, hIx _ _ _ _ hi3 hf4, hz4, hl4, hD4⟩⟩
        | panic ch => exact hp.elim
        | outgrown => exact hp.elim
      | _ => exact q.elim
    · rintro e W2 ⟨⟨v, rfl⟩, (⟨xs, W3, hS, ⟨hi, hz3, hl, hk⟩, hf⟩ | ⟨pre, W3, hSp, ⟨c, hi, hz3, hl, hk⟩, hf⟩)⟩
      · have hl' := (hf.block (w.heap.size + 1) (by omega) (by simp)).trans hl
        have hk' := (hf.block w.heap.size (by omega) (by simp)).trans hk
        have hs' := hf.size
        have hfp := putObj_fr (o' := .loop { rec .ready none with state := .exhausted }) hl'
        refine ⟨none, _, by have := run_endLoop (P := P) hl' (by rw [hrec]; simp); rw [hrec] at this; exact this, ?_⟩
        refine hdone xs _ hS (hI _ _ _ (hI _ _ _ hi (hf.mono fun i hi => by cases hi)) (by rw [hrec] at hfp; exact hfp)) ?_ _ ⟨hz.size, by show [_] ++ a.defers = _; rw [hz.defers]; rfl⟩ rfl
        rw [hrec] at hfp
        exact (hfp.block w.heap.size (by omega) (by simp)).trans hk'
      · have hl' := (hf.block (w.heap.size + 1) (by omega) (by simp)).trans hl
        have hk' := (hf.block w.heap.size (by omega) (by simp)).trans hk
        have hs' := hf.size
        have hfp := putObj_fr (o' := .loop { rec .done (some c) with state := .exhausted }) hl'
        refine ⟨some c, _, by have := run_endLoop (P := P) hl' (by rw [hrec]; simp); rw [hrec] at this; exact this, ?_⟩
        have hst := hstop c pre (W2.putObj (w.heap.size + 1) (.loop { rec .done (some c) with state := .exhausted })) hSp (hIx _ _ _ _ (hIx _ _ _ _ hi (hf.mono fun i hi => by cases hi)) hfp) ((hfp.block w.heap.size (by omega) (by simp)).trans hk') { a with defers := { target := .collected w.heap.size, args := #[] } :: a.defers } ⟨hz.size, by show _ :: a.defers = _; rw [hz.defers]⟩ rfl
        unfold Wp at hst
        rw [hrec] at hst
        exact hst
end
section
variable {P : Program} {fn : Func} {R : Ending → World → Prop} {a : Act} {w : World} {n : Nat}
theorem retM0 (hz : Sz n a) (h : ∃ v, (results fn a.tmps).run P w = .ok v w ∧ R (.returned v) w) : mPost P fn R .ret a w := by
  show LeavesInM (FW none) 0 P fn a.tmps R a.defers .returning w
  rw [hz.defers]
  exact h
theorem resCCC {s t s' t' s'' t'' : Nat} (hf : fn.results = #[.cell s t, .cell s' t', .cell s'' t'']) (ad ad' ad'' : Addr) (hs : a.eval (.tmp s) = .pointer (some ad)) (hs' : a.eval (.tmp s') = .pointer (some ad')) (hs'' : a.eval (.tmp s'') = .pointer (some ad'')) {v v' v'' : Value}
    (hl : (loadVar t ad).run P w = .ok v w) (hl' : (loadVar t' ad').run P w = .ok v' w) (hl'' : (loadVar t'' ad'').run P w = .ok v'' w) : (results fn a.tmps).run P w = .ok (.tuple #[v, v', v'']) w := by
  have e1 : a.tmps[s]?.getD undef = .pointer (some ad) := by have := hs; simpa [Act.eval] using this
  have e2 : a.tmps[s']?.getD undef = .pointer (some ad') := by have := hs'; simpa [Act.eval] using this
  have e3 : a.tmps[s'']?.getD undef = .pointer (some ad'') := by have := hs''; simpa [Act.eval] using this
  simp [results, hf, e1, e2, e3, asAddr, Sem.run_bind, hl, hl', hl'']
end
theorem Yld.mono {P : Program} {l : Nat} {args : Array Value} {W : World} {R R' : Ending → World → Prop} (h : Yld P l args W R) (hr : ∀ e w, R e w → R' e w) : Yld P l args W R' := by
  obtain ⟨fn, tmps, assign, body, hy, hR⟩ := h
  exact ⟨fn, tmps, assign, body, hy, hR.mono hr⟩
section
variable {a a1 : Act} {N p q t : Nat} {v u x : Value}
theorem par2_snd (hz : Sz N a) (hq : decide (q < N) = true) (h : a1.tmps = (a.tmps.setIfInBounds p v).setIfInBounds q u) : a1.eval (.tmp q) = u := by
  have : q < a.tmps.size := by rw [hz.size]; exact of_decide_eq_true hq
  simp [Act.eval, h, this]
theorem par2_fst (hz : Sz N a) (hp : decide (p < N) = true) (hne : Nat.beq q p = false) (h : a1.tmps = (a.tmps.setIfInBounds p v).setIfInBounds q u) : a1.eval (.tmp p) = v := by
  have : p < a.tmps.size := by rw [hz.size]; exact of_decide_eq_true hp
  have hne' : q ≠ p := Nat.ne_of_beq_eq_false hne
  simp only [Act.eval, Array.getD_eq_getD_getElem?, h]
  rw [Array.getElem?_setIfInBounds_ne hne']
  simp [this]
theorem par2_other (h : a1.tmps = (a.tmps.setIfInBounds p v).setIfInBounds q u) (h1 : Nat.beq p t = false) (h2 : Nat.beq q t = false) (hx : a.eval (.tmp t) = x) : a1.eval (.tmp t) = x := by
  have h1' : p ≠ t := Nat.ne_of_beq_eq_false h1
  have h2' : q ≠ t := Nat.ne_of_beq_eq_false h2
  rw [← hx]
  simp [Act.eval, h, Array.getElem?_setIfInBounds_ne h1', Array.getElem?_setIfInBounds_ne h2']
end
end Go.V
