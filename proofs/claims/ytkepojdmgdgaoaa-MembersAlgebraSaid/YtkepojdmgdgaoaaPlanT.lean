/- A region that draws its order, by a plan with alternatives: where several that write are ready, each may come first. -/
import Derived.Test.YtkepojdmgdgaoaaV
namespace Go.Plan
open Go.RowKit
set_option linter.unusedVariables false
inductive PT where
  | nil
  | pure (i : Nat) (r : PT)
  | eff (j : Nat) (keep : List Nat) (r : PT)
  | alt (p q : PT)
def PT.heads : PT → List Nat
  | .eff j _ _ => [j]
  | .alt p q => p.heads ++ q.heads
  | _ => []
def PT.isE : PT → Bool
  | .eff .. => true
  | .alt p q => p.isE && q.isE
  | _ => false
section
variable {P : Program} {ro : Option Nat} {ops : Array Oper} {Q : Exit → Act → World → Prop} {A : List (List Nat)}
def wpPT (ro : Option Nat) (P : Program) (ops : Array Oper) (Q : Exit → Act → World → Prop) : PT → Act → World → Prop
  | .nil, a, w => Q .normal a w
  | .pure i r, a, w => ∃ o v, ops[i]? = some o ∧ YW P ops o v a w ∧ (isL o = true ∨ Yields P ops o v a) ∧ wpPT ro P ops Q r (a.put o.dst v) w
  | .eff j keep r, a, w => wpOpIn (FW ro) 0 P ops Q j (fun a' w' => Held P ops keep a w w' ∧ wpPT ro P ops Q r a' w') a w
  | .alt p q, a, w => wpPT ro P ops Q p a w ∧ wpPT ro P ops Q q a w
def onlyOk (ops : Array Oper) (t : PT) (done : List Nat) : Bool := !t.isE || (List.range ops.size).all fun i => t.heads.contains i || done.contains i || !(deps ops i).all done.contains
def chkT (ops : Array Oper) (A : List (List Nat)) : PT → List Nat → Bool
  | .nil, done => (List.range ops.size).all done.contains
  | .pure i r, done => decide (i < ops.size) && !done.contains i && (deps ops i).all done.contains && onlyOk ops r (i :: done) && chkT ops A r (i :: done)
  | .eff j keep r, done => decide (j < ops.size) && !done.contains j && (deps ops j).all done.contains &&
      (done.all fun i => (A.getD j []).contains i || keep.contains i || match ops[i]? with | some o => !isL o | none => true) && onlyOk ops r (j :: done) && chkT ops A r (j :: done)
  | .alt p q, done => p.isE && q.isE && chkT ops A p done && chkT ops A q done
theorem pick_head : ∀ {t : PT} {done : List Nat} {i : Nat} {a : Act} {w : World}, i ∈ t.heads → chkT ops A t done = true → wpPT ro P ops Q t a w → ∃ keep r, chkT ops A (.eff i keep r) done = true ∧ wpPT ro P ops Q (.eff i keep r) a w
  | .nil, _, _, _, _, h, _, _ => by cases h
  | .pure .., _, _, _, _, h, _, _ => by cases h
  | .eff j keep r, _, _, _, _, h, hc, hp => by
    have h' := List.mem_singleton.1 h
    subst h'; exact ⟨keep, r, hc, hp⟩
  | .alt p q, _, _, _, _, h, hc, hp => by
    simp only [chkT, Bool.and_eq_true] at hc
    rcases List.mem_append.1 h with h | h
    · exact pick_head h hc.1.2 hp.1
    · exact pick_head h hc.2 hp.2
theorem head_ex : ∀ {t : PT} {done : List Nat}, t.isE = true → chkT ops A t done = true → ∃ i ∈ t.heads, i < ops.size ∧ i ∉ done ∧ ∀ d ∈ deps ops i, d ∈ done
  | .nil, _, h, _ => by cases h
  | .pure .., _, h, _ => by cases h
  | .eff j keep r, _, _, hc => by
    simp only [chkT, Bool.and_eq_true, decide_eq_true_eq, Bool.not_eq_true', List.contains_eq_mem, decide_eq_false_iff_not, List.all_eq_true] at hc
    exact ⟨j, List.mem_singleton.2 rfl, hc.1.1.1.1.1, hc.1.1.1.1.2, fun d hd => by simpa using hc.1.1.1.2 d hd⟩
  | .alt p q, _, h, hc => by
    simp only [chkT, Bool.and_eq_true] at hc
    obtain ⟨i, hi, hr⟩ := head_ex hc.1.1.1 hc.1.2
    exact ⟨i, List.mem_append.2 (.inl hi), hr⟩
theorem wpAny_of_planT (hnd0 : noDefer ops = true) (hsel : Region.noSelect ops = true) (hT : tabOk ops A = true) (hap : apartOk ops A = true) (hld : loadsOk ops A = true)
    (hQ : ∀ c a t w, Q (.panic c) { a with tmps := t } w → Q (.panic c) a w) :
    ∀ (fuel : Nat) (plan : PT) (lr : Array Bool) (V : List (Nat × Value)) (done : List Nat) (a : Act) (w : World),
      left lr ≤ fuel → Inv P ops lr V done a w → onlyOk ops plan done = true → chkT ops A plan done = true → wpPT ro P ops Q plan (putAll ops a V) w → wpAnyIn (FW ro) 0 P .any ops Q fuel lr a w := by
  intro fuel
  induction fuel with
  | zero =>
    intro plan lr V done a w hf hI ho hc hp
    have hall : ∀ i, i < ops.size → lr.getD i true = true := by
      intro i hi
      cases h : lr.getD i true with
      | true => rfl
      | false =>
        have := left_set (by rw [hI.size]; exact hi) h
        omega
    have hV : V = [] := by
      cases V with
      | nil => rfl
      | cons p V =>
        have h1 := hI.fresh p.1 (by simp)
        obtain ⟨⟨o, ho, _⟩, _⟩ := hI.yields [] p.1 p.2 V rfl
        rw [hall _ (Array.getElem?_eq_some_iff.1 ho).1] at h1
        cases h1
    subst hV
    have hdone : ∀ i, i < ops.size → i ∈ done := fun i hi => (hI.mem i).2 (.inl (by
      have := hall i hi
      have hi' : i < lr.size := by rw [hI.size]; exact hi
      simp [hi'] at this ⊢; exact this))
    have hplan : plan = .nil := by
      cases hE : plan.isE with
      | true =>
        obtain ⟨i, _, h1, h2, _⟩ := head_ex hE hc
        exact absurd (hdone i h1) h2
      | false =>
        cases plan with
        | nil => rfl
        | pure i r =>
          simp only [chkT, Bool.and_eq_true, decide_eq_true_eq, Bool.not_eq_true', List.contains_eq_mem, decide_eq_false_iff_not] at hc
          exact absurd (hdone i hc.1.1.1.1) hc.1.1.1.2
        | eff j k r => cases hE
        | alt p q =>
          simp only [chkT, Bool.and_eq_true] at hc
          simp only [PT.isE, hc.1.1.1, hc.1.1.2] at hE
          cases hE
    subst hplan
    refine ⟨?_, hp⟩
    cases hr : Region.ready .any ops lr with
    | nil => rfl
    | cons j l =>
      have hj : j ∈ Region.ready .any ops lr := by rw [hr]; exact List.mem_cons_self ..
      have := ready_iff.1 hj
      rw [hall j this.2.1] at this
      cases this.1
  | succ fuel ih =>
    intro plan
    have early : ∀ (plan : PT) (lr : Array Bool) (V : List (Nat × Value)) (done : List Nat) (a : Act) (w : World) (i : Nat), left lr ≤ fuel + 1 → Inv P ops lr V done a w → onlyOk ops plan done = true → chkT ops A plan done = true →
        wpPT ro P ops Q plan (putAll ops a V) w → i ∈ Region.ready .any ops lr → i ∈ V.map Prod.fst → wpOpIn (FW ro) 0 P ops Q i (wpAnyIn (FW ro) 0 P .any ops Q fuel (lr.setIfInBounds i true)) a w := by
      intro plan lr V done a w i hf hI hoo hc hp hr hm
      obtain ⟨V1, v, V2, rfl⟩ := mem_split hm
      obtain ⟨h0, hlt, hd⟩ := ready_iff.1 hr
      obtain ⟨o, ho, hy, hI', he⟩ := hI.early hsel hT hap hd
      refine hy.wpOp hnd0 ho ?_
      have hls : i < lr.size := by rw [hI.size]; exact hlt
      have := left_set hls h0
      exact ih plan _ _ done _ w (by omega) hI' hoo hc (by rw [he]; exact hp)
    have none_ready : ∀ (lr : Array Bool) (V : List (Nat × Value)) (done : List Nat) (a : Act) (w : World), Inv P ops lr V done a w → Region.ready .any ops lr = [] → V = [] := by
      intro lr V done a w hI hr
      cases V with
      | nil => rfl
      | cons p V =>
        obtain ⟨⟨o, ho, _⟩, hd⟩ := hI.yields [] p.1 p.2 V rfl
        have : p.1 ∈ Region.ready .any ops lr := ready_iff.2 ⟨hI.fresh p.1 (by simp), (Array.getElem?_eq_some_iff.1 ho).1, fun d hd' => (hd d hd').resolve_right (by simp)⟩
        rw [hr] at this
        cases this
    have effcase : ∀ (t : PT) (lr : Array Bool) (V : List (Nat × Value)) (done : List Nat) (a : Act) (w : World), t.isE = true → left lr ≤ fuel + 1 → Inv P ops lr V done a w → onlyOk ops t done = true → chkT ops A t done = true →
        wpPT ro P ops Q t (putAll ops a V) w → wpAnyIn (FW ro) 0 P .any ops Q (fuel + 1) lr a w := by
      intro t lr V done a w hE hf hI hoo hc hp
      refine ⟨fun hr => ?_, fun i hi => ?_⟩
      · have hV := none_ready lr V done a w hI hr
        subst hV
        obtain ⟨j, _, hlt, hn, hd⟩ := head_ex hE hc
        have : j ∈ Region.ready .any ops lr := ready_iff.2 ⟨getD_false_true (by rw [hI.size]; exact hlt) (by
          cases hc : lr.getD j false with
          | false => rfl
          | true => exact absurd ((hI.mem j).2 (.inl hc)) hn), hlt, fun d hdm => ((hI.mem d).1 (hd d hdm)).resolve_right (by simp)⟩
        rw [hr] at this
        cases this
      · obtain ⟨h0, hlti, hdi⟩ := ready_iff.1 hi
        by_cases hm : i ∈ V.map Prod.fst
        · exact early _ lr V done a w i hf hI hoo hc hp hi hm
        · have hnd : i ∉ done := by
            intro hid
            rcases (hI.mem i).1 hid with h' | h'
            · rw [getD_true_false h0] at h'; cases h'
            · exact hm h'
          have hih : i ∈ t.heads := by
            unfold onlyOk at hoo
            rw [hE] at hoo
            simp only [Bool.not_true, Bool.false_or, List.all_eq_true, List.mem_range, Bool.or_eq_true, List.contains_eq_mem, decide_eq_true_eq, Bool.not_eq_true'] at hoo
            rcases hoo i hlti with (h' | h') | h'
            · exact h'
            · exact absurd h' hnd
            · exfalso
              have : (deps ops i).all done.contains = true := List.all_eq_true.2 fun d hdm => by
                have : d ∈ done := (hI.mem d).2 (.inl (hdi d hdm))
                simpa using this
              have h'' : (deps ops i).all done.contains = false := by simpa using h'
              rw [this] at h''; cases h''
          obtain ⟨keep, r, hc', hp'⟩ := pick_head hih hc hp
          simp only [chkT, Bool.and_eq_true, decide_eq_true_eq, Bool.not_eq_true', List.contains_eq_mem, decide_eq_false_iff_not, List.all_eq_true, Bool.or_eq_true] at hc'
          obtain ⟨⟨⟨⟨⟨hlt, hn⟩, hd⟩, hkeep⟩, ho'⟩, hc''⟩ := hc'
          have hjs : ops[i]? = some ops[i] := Array.getElem?_eq_some_iff.2 ⟨hlt, rfl⟩
          obtain ⟨hV, hnext⟩ := hI.effect hsel hT hap hld (keep := keep) hjs hnd hdi (fun k hk => by
            rcases hkeep k hk with (h' | h') | h'
            · exact .inl h'
            · exact .inr (.inl h')
            · refine .inr (.inr fun o ho => ?_)
              rw [ho] at h'
              simpa using h')
          have hls : i < lr.size := by rw [hI.size]; exact hlti
          have hleft := left_set hls h0
          have h1 := wpOp_went hnd0 hsel hQ hjs V a hV hp'
          refine wpOpIn_mono ?_ h1
          rintro a' w' ⟨hw, hheld, hp''⟩
          exact ih r _ V (i :: done) a' w' (by omega) (hnext a' w' hw hheld) ho' hc'' hp''
    induction plan with
    | nil =>
      intro lr V done a w hf hI hoo hc hp
      refine ⟨fun hr => ?_, fun i hi => ?_⟩
      · have := none_ready lr V done a w hI hr
        subst this
        exact hp
      · refine early .nil lr V done a w i hf hI hoo hc hp hi ?_
        obtain ⟨h0, hlt, hd⟩ := ready_iff.1 hi
        have hdn : i ∈ done := by
          have := List.all_eq_true.1 hc i (List.mem_range.2 hlt)
          simpa using this
        rcases (hI.mem i).1 hdn with h' | h'
        · rw [getD_true_false h0] at h'; cases h'
        · exact h'
    | pure j r ihp =>
      intro lr V done a w hf hI hoo hc hp
      simp only [chkT, Bool.and_eq_true, decide_eq_true_eq, Bool.not_eq_true', List.contains_eq_mem, decide_eq_false_iff_not, List.all_eq_true] at hc
      obtain ⟨⟨⟨⟨hlt, hn⟩, hd⟩, ho'⟩, hc'⟩ := hc
      obtain ⟨o, v, ho, hy, hk, hp'⟩ := hp
      refine ihp lr (V ++ [(j, v)]) (j :: done) a w hf (hI.push ho hn (fun d hdm => by simpa using hd d hdm) hy hk) ho' hc' ?_
      rw [putAll_append, putAll_cons, ho]
      exact hp'
    | eff j keep r _ => intro lr V done a w hf hI hoo hc hp; exact effcase _ lr V done a w rfl hf hI hoo hc hp
    | alt p q _ _ =>
      intro lr V done a w hf hI hoo hc hp
      refine effcase _ lr V done a w ?_ hf hI hoo hc hp
      simp only [chkT, Bool.and_eq_true] at hc
      simp only [PT.isE, hc.1.1.1, hc.1.1.2, Bool.and_self]
end
/-- The plan, stretch by stretch. -/
inductive ST where
  | nil
  | seg (s : List Nat) (r : ST)
  | eff (j : Nat) (keep : List Nat) (r : ST)
  | alt (p q : ST)
def pures : List Nat → PT → PT
  | [], r => r
  | i :: s, r => .pure i (pures s r)
def ST.pt : ST → PT
  | .nil => .nil
  | .seg s r => pures s r.pt
  | .eff j keep r => .eff j keep r.pt
  | .alt p q => .alt p.pt q.pt
def stOk (l : List Oper) : ST → Bool
  | .nil => true
  | .seg s r => segOk l.toArray s (pickAll l s) && stOk l r
  | .eff _ _ r => stOk l r
  | .alt p q => stOk l p && stOk l q
section
variable {P : Program} {ro : Option Nat} {Q : Exit → Act → World → Prop}
def wpST (ro : Option Nat) (P : Program) (l : List Oper) (Q : Exit → Act → World → Prop) : ST → Act → World → Prop
  | .nil, a, w => Q .normal a w
  | .seg s r, a, w => wpL ro P l.toArray (segPost fun a' w' => segChk P l.toArray a' (pickAll l s) = true ∧ wpST ro P l Q r a' w') (pickAll l s) a w
  | .eff j keep r, a, w => wpL ro P l.toArray (effPost Q fun a'' w'' => Held P l.toArray keep a w w'' ∧ wpST ro P l Q r a'' w'') [nth l j] a w
  | .alt p q, a, w => wpST ro P l Q p a w ∧ wpST ro P l Q q a w
/-- A stretch's operations, one by one. -/
theorem pt_of_tr {ops : Array Oper} {r : PT} : ∀ (s : List Nat) (l : List Oper) (a : Act) (w : World) (a' : Act) (w' : World), segOk ops s l = true → SegAt ops s l → Tr P ops l a w a' w' → segChk P ops a' l = true →
    wpPT ro P ops Q r a' w' → wpPT ro P ops Q (pures s r) a w := by
  intro s l a w a' w' h1 h2 h3 h4 h5
  have key : ∀ (s : List Nat) (a : Act) (w : World), wpPlan ro P ops (fun _ a w => wpPT ro P ops Q r a w) (s.map (·, none)) a w → wpPT ro P ops Q (pures s r) a w := by
    intro s
    induction s with
    | nil => intro a w h; exact h
    | cons i s ih =>
      intro a w h
      obtain ⟨o, v, ho, hy, hk, hp⟩ := h
      exact ⟨o, v, ho, hy, hk, ih _ _ hp⟩
  refine key s a w ?_
  have := plan_of_tr (ro := ro) (Q := fun _ a w => wpPT ro P ops Q r a w) (rest := []) s l a w a' w' h1 h2 h3 h4 h5
  simpa using this
theorem pt_of_st {l : List Oper} (hnd : noDefer l.toArray = true) {A : List (List Nat)} : ∀ (t : ST) (done : List Nat) (a : Act) (w : World), stOk l t = true → chkT l.toArray A t.pt done = true → wpST ro P l Q t a w → wpPT ro P l.toArray Q t.pt a w
  | .nil, _, _, _, _, _, h => h
  | .seg s r, done, a, w, hk, hc, h => by
    simp only [stOk, Bool.and_eq_true] at hk
    obtain ⟨a', w', ht, hc1, hn⟩ := tr_of_wpList _ _ _ (segKinds_of s hk.1) h
    have hcr : ∃ d', chkT l.toArray A r.pt d' = true := by
      clear h ht
      simp only [ST.pt] at hc
      generalize r.pt = fr at hc
      clear hk hn hc1
      induction s generalizing done with
      | nil => exact ⟨_, hc⟩
      | cons i s ih =>
        simp only [pures, chkT, Bool.and_eq_true] at hc
        exact ih _ hc.2
    obtain ⟨d', hc'⟩ := hcr
    exact pt_of_tr s _ a w a' w' hk.1 (segAt_of s hk.1) ht hc1 (pt_of_st hnd r d' a' w' hk.2 hc' hn)
  | .eff j keep r, done, a, w, hk, hc, h => by
    have hlt : j < l.length := by
      simp only [ST.pt, chkT, Bool.and_eq_true, decide_eq_true_eq] at hc
      simpa using hc.1.1.1.1.1
    have hcr : chkT l.toArray A r.pt (j :: done) = true := by
      simp only [ST.pt, chkT, Bool.and_eq_true] at hc
      exact hc.2
    have hj : l.toArray[j]? = some (nth l j) := by simp only [List.getElem?_toArray]; exact nth_some l j hlt
    refine wpOpIn_mono ?_ (wpOp_of_list hnd hj h)
    rintro a'' w'' ⟨h1, h2⟩
    exact ⟨h1, pt_of_st hnd r _ a'' w'' hk hcr h2⟩
  | .alt p q, done, a, w, hk, hc, h => by
    simp only [stOk, Bool.and_eq_true] at hk
    simp only [ST.pt, chkT, Bool.and_eq_true] at hc
    exact ⟨pt_of_st hnd p done a w hk.1 hc.1.2 h.1, pt_of_st hnd q done a w hk.2 hc.2 h.2⟩
def stPlanOk (l : List Oper) (A : List (List Nat)) (t : ST) : Bool :=
  noDefer l.toArray && Region.noSelect l.toArray && tabOk l.toArray A && apartOk l.toArray A && loadsOk l.toArray A && (onlyOk l.toArray t.pt [] && chkT l.toArray A t.pt []) && stOk l t
theorem wp_region_st {l : List Oper} {id : Nat} {a : Act} {w : World} (A : List (List Nat)) (t : ST) (hm : P.follows .mixedOrders = true) (hok : stPlanOk l A t = true)
    (hQ : ∀ c a t w, Q (.panic c) { a with tmps := t } w → Q (.panic c) a w) (h : wpST ro P l Q t a w.drew) : (Code.region id l.toArray true).wpIn (FW ro) 0 P Q a w := by
  simp only [stPlanOk, Bool.and_eq_true] at hok
  obtain ⟨⟨⟨⟨⟨⟨h0, h1⟩, h2⟩, h3⟩, h4⟩, h5⟩, h6⟩ := hok
  refine wpIn_region_any hm ?_
  refine wpAny_of_planT h0 h1 h2 h3 h4 hQ _ t.pt _ [] [] a w.drew ?_ ?_ h5.1 h5.2 (pt_of_st h0 t [] a w.drew h6 h5.2 h)
  · unfold left
    refine Nat.le_trans (List.length_filter_le _ _) ?_
    simp
  · have hrep : ∀ i, (Array.replicate l.toArray.size false).getD i false = false := by
      intro i
      rw [Array.getD_eq_getD_getElem?, Array.getElem?_replicate]
      split <;> rfl
    refine ⟨by simp, ?_, ?_, ?_, by simp, ?_⟩
    · intro j hj
      rw [hrep] at hj
      cases hj
    · intro i
      rw [hrep]
      simp
    · intro i hi
      cases hi
    · intro V1 i v V2 hV
      cases V1 <;> cases hV
end
end Go.Plan
namespace Go.V
open Go.Plan (wpL)
theorem planT {ro : Option Nat} {P : Program} {Q : Exit → Act → World → Prop} {l : List Oper} {id : Nat} {a : Act} {w : World} (A : List (List Nat)) (p : Plan.ST) (hm : P.follows .mixedOrders = true) (hok : Plan.stPlanOk l A p = true)
    (hQ : ∀ c a t w, Q (.panic c) { a with tmps := t } w → Q (.panic c) a w) (h : Plan.wpST ro P l Q p a w.drew) : Wp ro P (.region id l.toArray true) Q a w := by unfold Wp; exact Plan.wp_region_st (id := id) A p hm hok hQ h
end Go.V
