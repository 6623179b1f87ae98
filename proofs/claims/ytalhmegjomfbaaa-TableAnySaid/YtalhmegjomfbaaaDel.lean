/- An element is taken out of a slice of one's own, in place (slices.Delete). -/
import Derived.Test.YtalhmegjomfbaaaBksW
import Derived.Deep.DeepAppendRoom
namespace Go.V
open Go.Base Go.RowKit
set_option linter.unusedVariables false
set_option linter.unusedSimpArgs false
theorem over_take : ∀ (vs cs : List Value) (off n : Nat), n ≤ off → (over cs off vs).take n = cs.take n
  | [], cs, off, n, h => rfl
  | v :: vs, cs, off, n, h => by
    show (over (cs.set off v) (off + 1) vs).take n = cs.take n
    rw [over_take vs _ _ _ (by omega)]
    apply List.ext_getElem?
    intro i
    rw [List.getElem?_take, List.getElem?_take]
    split
    · rw [List.getElem?_set_ne (by omega)]
    · rfl
theorem zero1 (z : Array Value) : (Builtin.zeroCells z 1).toList = z.toList := by
  unfold Builtin.zeroCells
  apply List.ext_getElem
  · simp
  · intro i h1 h2
    simp at h1
    simp [Nat.mod_eq_of_lt h1, h1]
section
variable {ro : Option Nat} {P : Program} {Q : Exit → Act → World → Prop} {a : Act} {w : World} {ops : Array Oper} {rest : List Oper} {d : Option Tmp} {ty : TypeId} {pos : String} {aft : Array Edge} {gd : Option (Nat × Bool)}
theorem slc {t e : TypeId} {x : Operand} {lo hi mx : Option Operand} {sz : Nat} (g o n c l h m : Nat) (hx : a.eval x = .slice (some ⟨g, o, none⟩) n c)
    (hl : match lo with | some q => ∃ k, a.eval q = .int k (l : Int) | none => l = 0) (hh : match hi with | some q => ∃ k, a.eval q = .int k (h : Int) | none => h = n ∧ mx = none) (hm : match mx with | some q => ∃ k, a.eval q = .int k (m : Int) | none => m = c)
    (h1 : l ≤ h) (h2 : h ≤ m) (h3 : m ≤ c) (ht : P.underlying t = some (.slice e)) (hs : (P.info? e).map (·.size) = some sz)
    (k : ∀ ad : Addr, (m ≠ l → ad = ⟨g, o + l * sz, none⟩) → (l = 0 → ad = ⟨g, o, none⟩) → L ro P ops Q rest (a.put d (.slice (some ad) (h - l) (m - l))) w) : St ro P ops Q rest ⟨d, .slice t x lo hi mx, ty, pos, aft, gd⟩ a w := by
  obtain ⟨i, hi', hsz⟩ := Option.map_eq_some_iff.1 hs
  have hb : (Instr.sliceBounds true n c (lo.map a.eval) (hi.map a.eval) (mx.map a.eval)).run P w = .ok (l, h, m) w := by
    unfold Instr.sliceBounds
    cases mx with
    | none =>
      subst hm
      cases hi with
      | none =>
        obtain ⟨rfl, _⟩ := hh
        cases lo with
        | none => subst hl; simp [Sem.run_bind]
        | some q =>
          obtain ⟨kk, hq⟩ := hl
          simp [Sem.run_bind, hq, Instr.sliceBound, asIntOf, h1]
      | some p =>
        obtain ⟨kp, hp⟩ := hh
        cases lo with
        | none => subst hl; simp [Sem.run_bind, hp, Instr.sliceBound, asIntOf, h2]
        | some q =>
          obtain ⟨kk, hq⟩ := hl
          simp [Sem.run_bind, hp, hq, Instr.sliceBound, asIntOf, h1, h2]
    | some r =>
      obtain ⟨kr, hr⟩ := hm
      cases hi with
      | none => cases hh.2
      | some p =>
        obtain ⟨kp, hp⟩ := hh
        cases lo with
        | none => subst hl; simp [Sem.run_bind, hp, hr, Instr.sliceBound, asIntOf, h2, h3]
        | some q =>
          obtain ⟨kk, hq⟩ := hl
          simp [Sem.run_bind, hp, hq, hr, Instr.sliceBound, asIntOf, h1, h2, h3]
  have hadd : (⟨g, o, none⟩ : Addr).add (l * sz) = ⟨g, o + l * sz, none⟩ := by unfold Addr.add; split <;> simp_all
  refine St.val (v := .slice (some (if m = l then ⟨g, o, none⟩ else ⟨g, o + l * sz, none⟩)) (h - l) (m - l)) (w' := w) ?_ (k _ (fun hne => by rw [if_neg hne]) (fun h0 => by subst h0; split <;> simp))
  simp only [execOp, hx]
  unfold Instr.sliceAt
  simp only [Sem.run_bind, run_underlying ht, Result.andThen_ok]
  unfold Instr.slice
  simp only [Sem.run_bind, run_underlying ht, Result.andThen_ok]
  rw [hb]
  simp only [Result.andThen_ok, sizeOf, typeInfo, run_program, Sem.run_bind, hi', hsz, Sem.run_pure]
  split <;> simp [hadd]
theorem appIn {α : Type} {R : Rp α} {base : Nat} {e t : TypeId} {s x : Operand} {xs : List α} {g n c i m c2 : Nat} (hO : OwR R NoZ w base e (.slice (some ⟨g, 0, none⟩) n c) xs) (hn : n = xs.length) (hin : i < n) (hm : m = n - (i + 1)) (ad : Addr) (had : m ≠ 0 → ad = ⟨g, (i + 1) * R.sz, none⟩)
    (hs : a.eval s = .slice (some ⟨g, 0, none⟩) i c) (hx : a.eval x = .slice (some ad) m c2) (ht : P.underlying t = some (.slice e)) (hinfo : (P.info? e).map (·.size) = some R.sz)
    (k : ∀ w1 cur, OwR R NoZ w1 base e (.slice (some ⟨g, 0, none⟩) (i + m) c) (xs.eraseIdx i) → Fr [g] w w1 → Blk w1 g cur e → cur.length = c * R.sz → L ro P ops Q rest (a.put d (.slice (some ⟨g, 0, none⟩) (i + m) c)) w1) : St ro P ops Q rest ⟨d, .call ⟨.builtin .append, #[s, x], #[t, t]⟩, ty, pos, aft, gd⟩ a w := by
  subst hn
  obtain ⟨cs, h1, h2, h3⟩ := hO
  obtain ⟨inf, hi, hsz⟩ := Option.map_eq_some_iff.1 hinfo
  have hcl := h2.length
  rcases h1.2 with ⟨h, _⟩ | ⟨g', cap, cur, he, hb, hh, hnc, hcm, hcs, htk⟩
  · cases h
  injection he with e1 e2 e3
  injection e1 with e1
  injection e1 with e1
  subst e1; subst e3
  have hil : i * R.sz ≤ cs.length := by rw [hcl]; exact Nat.mul_le_mul_right _ (by omega)
  have hil1 : (i + 1) * R.sz ≤ cs.length := by rw [hcl]; exact Nat.mul_le_mul_right _ (by omega)
  have hpre : w.ownsRow base e R.sz (.slice (some ⟨g, 0, none⟩) i c) i (cs.take (i * R.sz)) := by
    refine ⟨by rw [List.length_take]; omega, .inr ⟨g, c, cur, rfl, hb, hh, by omega, hcm, hcs, ?_⟩⟩
    rw [← htk, List.take_take]; congr 1
    have : i * R.sz ≤ xs.length * R.sz := Nat.mul_le_mul_right _ (by omega)
    omega
  have hnl : (cs.drop ((i + 1) * R.sz)).length = m * R.sz := by
    rw [List.length_drop, hcl, hm, Nat.sub_mul]
  have hcell : ∀ j u, (cs.drop ((i + 1) * R.sz))[j]? = some u → w.cell? (ad.add j) = some u := by
    intro j u hj
    have hlt : j < (cs.drop ((i + 1) * R.sz)).length := (List.getElem?_eq_some_iff.1 hj).1
    have hm0 : m ≠ 0 := by intro h0; rw [hnl, h0, Nat.zero_mul] at hlt; omega
    rw [had hm0, show (⟨g, (i + 1) * R.sz, none⟩ : Addr).add j = ⟨g, (i + 1) * R.sz + j, none⟩ by unfold Addr.add; split <;> simp_all]
    rw [List.getElem?_drop] at hj
    have := h1.cells (g := g) rfl ((i + 1) * R.sz + j) u hj
    rwa [Base.add_plain] at this
  have hone : ∀ u ∈ cs.drop ((i + 1) * R.sz), u.oneCell' = true := fun u hu => h2.one u (List.mem_of_mem_drop hu)
  obtain ⟨w1, hr, ho, hg⟩ := run_append_own_spare (P := P) w base t ty e inf R.sz ht hi hsz g i c (cs.take (i * R.sz)) hpre ad m c2 (cs.drop ((i + 1) * R.sz)) hnl hcell hone (by omega)
  have hf : Fr [g] w w1 := Fr.of_grown hg (fun k hk => by injection hk with hk; subst hk; simp)
  have hlen : (xs.eraseIdx i).length = i + m := by rw [List.length_eraseIdx_of_lt hin]; omega
  have herase : ∀ {xs : List α} {cs : List Value} {i : Nat}, Cells R NoZ w xs cs → i < xs.length → Cells R NoZ w (xs.eraseIdx i) (cs.take (i * R.sz) ++ cs.drop ((i + 1) * R.sz)) := by
    intro xs
    induction xs with
    | nil => intro cs i _ h; simp at h
    | cons y ys ih =>
      rintro cs i ⟨c', r, rfl, hok, hr⟩ hi
      have hl' := R.len hok
      cases i with
      | zero =>
        rw [List.eraseIdx_cons_zero, Nat.zero_mul, List.take_zero, List.nil_append, Nat.zero_add, Nat.one_mul, List.drop_append_of_le_length (by omega), List.drop_of_length_le (by omega), List.nil_append]
        exact hr
      | succ i =>
        rw [List.eraseIdx_cons_succ]
        refine ⟨c', r.take (i * R.sz) ++ r.drop ((i + 1) * R.sz), ?_, hok, ih hr (by simpa using hi)⟩
        rw [show (i + 1) * R.sz = c'.length + i * R.sz by rw [hl', Nat.add_mul]; omega, List.take_length_add_append]
        rw [show (i + 1 + 1) * R.sz = c'.length + (i + 1) * R.sz by rw [hl', Nat.add_mul (i + 1)]; omega, List.drop_length_add_append, List.append_assoc]
        congr 3
        rw [hl', Nat.add_mul]; omega
  have hOw : OwR R NoZ w1 base e (.slice (some ⟨g, 0, none⟩) (i + m) c) (xs.eraseIdx i) := ⟨_, by rw [hlen]; exact ho, (herase h2 hin).mono (fun b hb hz => hz.elim) hf.size, fun b hb hz => hz.elim⟩
  have hB1 : ∃ cur' : List Value, Blk w1 g cur' e ∧ cur'.length = c * R.sz := by
    rcases ho.2 with ⟨h, _⟩ | ⟨g', cap', cur', he', _, hh', _, _, hcs', _⟩
    · cases h
    · injection he' with e1 e2 e3
      injection e1 with e1
      injection e1 with e1
      subst e1; subst e3
      exact ⟨cur'.toList, by unfold Blk; rw [hh'], by rw [Array.length_toList, hcs']⟩
  obtain ⟨cur', hB1, hcl1⟩ := hB1
  have hrun : (execOp a.eval ⟨d, .call ⟨.builtin .append, #[s, x], #[t, t]⟩, ty, pos, aft, gd⟩).run P w = .ok (.value (.slice (some ⟨g, 0, none⟩) (i + m) c)) w1 := by
    simp only [execOp, resolve, invoke, builtin, Sem.run_bind, Sem.run_pure, Result.andThen_ok, List.map_toArray, List.map_cons, List.map_nil, hs, hx, hr]
  exact St.val hrun (k w1 cur' hOw hf hB1 hcl1)
/-- clear of the last element's cells, behind the slice. -/
theorem clr1 {α : Type} {R : Rp α} {base : Nat} {e t : TypeId} {x : Operand} {xs : List α} {g n c c2 : Nat} {z : Value} (hO : OwR R NoZ w base e (.slice (some ⟨g, 0, none⟩) n c) xs) (hn : n = xs.length) {cur : List Value} (hB : Blk w g cur e) (hcl : cur.length = c * R.sz) (hnc : n + 1 ≤ c)
    (hx : a.eval x = .slice (some ⟨g, 0 + n * R.sz, none⟩) 1 c2) (ht : P.underlying t = some (.slice e)) (hinfo : (P.info? e).map (fun i => (i.zero, i.size)) = some (some z, R.sz)) (hz : z.cells.toList.length = R.sz) (h1 : z.cells.toList.all Value.oneCell' = true)
    (k : ∀ w1, OwR R NoZ w1 base e (.slice (some ⟨g, 0, none⟩) n c) xs → Fr [g] w w1 → w1.heap.size = w.heap.size → L ro P ops Q rest a w1) : St ro P ops Q rest ⟨none, .call ⟨.builtin .clear, #[x], #[t]⟩, ty, pos, aft, gd⟩ a w := by
  subst hn
  obtain ⟨inf, hi, hzz⟩ := Option.map_eq_some_iff.1 hinfo
  simp only [Prod.mk.injEq] at hzz
  have hle : 0 + xs.length * R.sz + z.cells.toList.length ≤ cur.length := by rw [hcl, hz, Nat.zero_add, ← Nat.succ_mul]; exact Nat.mul_le_mul_right _ hnc
  obtain ⟨w1, hst, hB1, hF, hsz⟩ := run_storeCells (P := P) g e (0 + xs.length * R.sz) z.cells.toList 0 w cur (fun u hu => List.all_eq_true.1 h1 u hu) hB (by simpa using hle)
  have hO' := hO
  obtain ⟨cs, ho1, ho2, ho3⟩ := hO
  have hown : OwR R NoZ w1 base e (.slice (some ⟨g, 0, none⟩) xs.length c) xs := by
    refine ⟨cs, ⟨ho1.1, ?_⟩, ho2.mono (fun b hb hz => hz.elim) hF.size, fun b hb hz => hz.elim⟩
    rcases ho1.2 with ⟨h, _⟩ | ⟨g', cap, cur0, he, hb, hh, hnc', hcm, hcs, htk⟩
    · cases h
    injection he with e1 e2 e3
    injection e1 with e1
    injection e1 with e1
    subst e1; subst e3
    have hcur : cur0 = cur.toArray := by
      have hB' : w.heap[g]? = some (.cells cur.toArray e (0, 0)) := hB
      rw [hh] at hB'
      injection hB' with hB'
      injection hB' with hB'
    refine .inr ⟨g, c, _, rfl, hb, hB1, hnc', hcm, ?_, ?_⟩
    · rw [← hcs, hcur]; simp [over_length]
    · rw [List.toList_toArray, ← htk, hcur]
      rw [List.toList_toArray]
      have hadd0 : xs.length * R.sz + 0 = xs.length * R.sz := Nat.add_zero _
      rw [show 0 + xs.length * R.sz + 0 = xs.length * R.sz by omega] 
      exact over_take _ _ _ _ (Nat.le_refl _)
  have hzc := zero1 z.cells
  have hrun : (execOp a.eval ⟨none, .call ⟨.builtin .clear, #[x], #[t]⟩, ty, pos, aft, gd⟩).run P w = .ok (.value (.tuple #[])) w1 := by
    have hzv : ∀ w, (zeroValue e).run P w = .ok z w := fun w => by simp [zeroValue, typeInfo, hi, hzz.1, Sem.run_bind]
    simp only [execOp, resolve, invoke, builtin, Sem.run_bind, Sem.run_pure, Result.andThen_ok, List.map_toArray, List.map_cons, List.map_nil, hx, Builtin.clear_, run_underlying ht, hzv, hzc]
    simp only [List.getElem?_toArray, List.getElem?_cons_zero, Sem.run_bind, run_underlying ht, Result.andThen_ok, hzv, hzc, hst, Sem.run_pure]
  exact St.val hrun (k w1 hown hF hsz)
end
end Go.V
