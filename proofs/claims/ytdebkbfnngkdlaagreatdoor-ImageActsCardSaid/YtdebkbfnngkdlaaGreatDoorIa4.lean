/- Joined texts: Opn, Pn, EntV, Ins, La, Lb, Lc, Tk, Bks, Word, Tab, BksW, Del, Lg, Ld, Le, Lj, InsC. -/
import Derived.Test.YtdebkbfnngkdlaaGreatDoorRows
import Derived.Deep.Slices
import Derived.Lib.SmallJoins
import Derived.ProofKit
import Derived.ChangeSame
import Derived.Lib.AppendZerosOnto
import Derived.Lib.Overlaps
import Derived.Laws.IdiomCopy
import Derived.Test.YtdebkbfnngkdlaaGreatDoorProg
import Derived.Deep.DeepAppendRoom
import Derived.Laws.Externs
import Derived.Test.YtdebkbfnngkdlaaGreatDoorIa3
section
namespace Go.Proofs.YtdebkbfnngkdlaaGreatDoor
open Go.V Go.Base Go.RowKit Go.WideShapes Go.ChangeShapes Go.Deep
set_option linter.unusedVariables false
section
variable {H : Type}
theorem bulk_pos (d : DataW H) : 1 ≤ Rows.uptoBulk d := by
  cases d with
  | lit l => cases l <;> simp [Rows.uptoBulk]
  | nil => simp [Rows.uptoBulk]
  | ptr d => simp [Rows.uptoBulk]
  | slice a b => simp [Rows.uptoBulk]
  | agg a => simp [Rows.uptoBulk]
  | iface t d => simp [Rows.uptoBulk]
  | map a => simp [Rows.uptoBulk]
  | held h => simp [Rows.uptoBulk]
theorem bulk_len : ∀ (l : List (DataW H)), l.length ≤ Rows.uptoBulkAll l
  | [] => by simp [Rows.uptoBulkAll]
  | d :: l => by
    have h1 := bulk_pos d
    have h2 := bulk_len l
    simp only [List.length_cons, Rows.uptoBulkAll]
    omega
theorem bulk_mem : ∀ {l : List (DataW H)} {d : DataW H}, d ∈ l → Rows.uptoBulk d ≤ Rows.uptoBulkAll l
  | e :: l, d, h => by
    simp only [Rows.uptoBulkAll]
    rcases List.mem_cons.1 h with rfl | h
    · omega
    · have := bulk_mem h; omega
end
def Opn {α : Type} {H : Type} (enc : TypeId × Value → H) (P : Program) (W : World) (t : TypeId) (R : Rp α) (K : α → Nat → Prop) : Prop :=
  ∀ (n : Nat) (cs : List Value) (x : DataW H × List MemPlace), DataW.trod enc P W 0 (fun _ => true) true n t cs = some x → (∀ p ∈ x.2, p.block < W.heap.size) → ∃ d : α, R.ok (fun b => b < W.heap.size) W d cs ∧ K d (Rows.uptoBulk x.1)
section
variable {α : Type} {R : Rp α} {K : α → Nat → Prop} {H : Type} {enc : TypeId × Value → H} {P : Program} {W : World} {t e : TypeId}
theorem opn_i {n : Nat} {cs : List Value} {x : DataW H × List MemPlace} (ht : P.underlying t = some (.int .i64)) (h : DataW.trod enc P W 0 (fun _ => true) true n t cs = some x) : ∃ n : Int, cs = [.int .i64 n] ∧ -9223372036854775808 ≤ n ∧ n ≤ 9223372036854775807 := by
  obtain ⟨n, q, _, w⟩ := DataW.trod_int ht h
  unfold Lit.wf at w
  have h1 : IntKind.i64.min = -9223372036854775808 := by decide
  have h2 : IntKind.i64.max = 9223372036854775807 := by decide
  simp [h1, h2] at w
  exact ⟨n, q, w.1, w.2⟩
theorem opn_s {n : Nat} {cs : List Value} {x : DataW H × List MemPlace} (ht : P.underlying t = some .string) (h : DataW.trod enc P W 0 (fun _ => true) true n t cs = some x) : ∃ s : ByteArray, cs = [.string s] ∧ s.size ≤ Rows.uptoBulk x.1 := by
  obtain ⟨s, q, rfl, w⟩ := DataW.trod_string ht h
  exact ⟨s, q, by simp [Rows.uptoBulk]⟩
theorem Opn.str (ht : P.underlying t = some .string) : Opn enc P W t Rp.str fun s b => s.size ≤ b := fun n cs x h hp => by
  obtain ⟨s, rfl, h1⟩ := opn_s ht h
  exact ⟨s, rfl, h1⟩
/-- A slice of what can be opened. -/
theorem Opn.sl (ht : P.underlying t = some (.slice e)) (hc : P.cellsOf e = R.sz) (hpos : 0 < R.sz) (hK : ∀ d b b', b ≤ b' → K d b → K d b') (hel : Opn enc P W e R K) {n : Nat} {cs : List Value} {x : DataW H × List MemPlace} (hf : DataW.trod enc P W 0 (fun _ => true) true n t cs = some x) (hlt : ∀ p ∈ x.2, p.block < W.heap.size) :
    ∃ A c l, cs = [.slice A l.length c] ∧ SlR R (fun b => b < W.heap.size) W (.slice A l.length c) l ∧ l.length ≤ Rows.uptoBulk x.1 ∧ ∀ y ∈ l, K y (Rows.uptoBulk x.1) := by
  rcases open_slice ht hf with ⟨rfl, rfl⟩ | ⟨a, len, cap, m, k, D, Pl, rfl, _, hl, hm, hmm, rfl, hall⟩
  · exact ⟨none, 0, [], rfl, SlR.nil _ _ _, Nat.zero_le _, fun y hy => by simp at hy⟩
  · simp only [if_true] at hmm
    subst hmm
    have hone : ∀ i, i < m → ∃ (x : α) (cs : List Value), R.ok (fun b => b < W.heap.size) W x cs ∧ K x (Rows.uptoBulk (D i)) ∧ ∀ j u, cs[j]? = some u → W.cell? (a.add (i * R.sz + j)) = some u := fun i hi => by
      obtain ⟨cs', h1, h2⟩ := hall i hi
      obtain ⟨x, hx, hkx⟩ := hel k cs' _ h2 fun p hp => hlt p (List.mem_append_right _ (List.mem_flatMap.2 ⟨i, List.mem_range.2 hi, hp⟩))
      obtain ⟨_, hlen, hcell⟩ := World.cells?_some h1
      refine ⟨x, cs', hx, hkx, fun j u hj => ?_⟩
      have hjl : j < P.cellsOf e := by rw [← hlen]; exact (List.getElem?_eq_some_iff.1 hj).1
      have := hcell j hjl
      rw [hj, hc] at this
      rw [← this, add_add]
    have hex : ∀ q, q ≤ m → ∃ l : List α, l.length = q ∧ ∀ i x, l[i]? = some x → K x (Rows.uptoBulk (D i)) ∧ ∃ cs, R.ok (fun b => b < W.heap.size) W x cs ∧ ∀ j u, cs[j]? = some u → W.cell? (a.add (i * R.sz + j)) = some u := by
      intro q
      induction q with
      | zero => exact fun _ => ⟨[], rfl, fun i x h => by simp at h⟩
      | succ q ih =>
        intro hq
        obtain ⟨l, hll, hli⟩ := ih (by omega)
        obtain ⟨x, cs, h1, hk1, h2⟩ := hone q (by omega)
        refine ⟨l ++ [x], by simp [hll], fun i y hy => ?_⟩
        rcases Nat.lt_or_ge i l.length with hi | hi
        · rw [List.getElem?_append_left hi] at hy; exact hli i y hy
        · rw [List.getElem?_append_right hi] at hy
          have : i - l.length = 0 := by
            have := (List.getElem?_eq_some_iff.1 hy).1; simp at this; omega
          rw [this] at hy
          simp at hy; subst hy
          have hiq : i = q := by omega
          subst hiq
          exact ⟨hk1, cs, h1, h2⟩
    obtain ⟨l, hll, hli⟩ := hex len hl
    subst hll
    have hb : ∀ i, i < l.length → Rows.uptoBulk (D i) ≤ Rows.uptoBulkAll ((List.range l.length).map D) := fun i hi => bulk_mem (List.mem_map.2 ⟨i, List.mem_range.2 hi, rfl⟩)
    have hlb := bulk_len ((List.range l.length).map D)
    rw [List.length_map, List.length_range] at hlb
    have hbb : Rows.uptoBulkAll ((List.range l.length).map D) ≤ Rows.uptoBulk (DataW.slice ((List.range l.length).map D) ((List.range (m - l.length)).map fun j => D (l.length + j))) := by simp only [Rows.uptoBulk]; omega
    refine ⟨some a, m, l, rfl, ⟨_, _, rfl, hl, by unfold maxLen at hm; omega, fun i x hi => ?_⟩, Nat.le_trans hlb hbb, fun y hy => ?_⟩
    · obtain ⟨_, cs, h1, h2⟩ := hli i x hi
      have hin : i < l.length := (List.getElem?_eq_some_iff.1 hi).1
      obtain ⟨b, off, spot⟩ := a
      have hcl := R.len h1
      obtain ⟨u0, hu0⟩ : ∃ u, cs[0]? = some u := ⟨cs[0]'(by omega), List.getElem?_eq_getElem (by omega)⟩
      obtain ⟨_, cz, z1, z2⟩ := hli 0 _ (List.getElem?_eq_getElem (by omega))
      have hzl := R.len z1
      have hspot : spot = none := by simpa [Addr.add] using World.cell?_spot (z2 0 _ (List.getElem?_eq_getElem (by omega)))
      subst hspot
      have hbW : b < W.heap.size := by
        have hmem : MemPlace.cell b off ∈ MemPlace.row ⟨b, off, none⟩ (m * P.cellsOf e) := MemPlace.mem_row.2 ⟨0, by rw [hc]; exact Nat.mul_pos (by omega) hpos, by simp⟩
        exact hlt _ (List.mem_append_left _ hmem)
      refine ⟨b, off, cs, rfl, hbW, hbW, h1, fun j u hj => ?_⟩
      have := h2 j u hj
      rwa [show (⟨b, off, none⟩ : Addr).add (i * R.sz + j) = ⟨b, off + i * R.sz + j, none⟩ by unfold Addr.add; split <;> simp_all [Nat.add_assoc]] at this
    · obtain ⟨i, hi⟩ := List.mem_iff_getElem?.1 hy
      exact hK _ _ _ (Nat.le_trans (hb i (List.getElem?_eq_some_iff.1 hi).1) hbb) (hli i y hi).1
/-- A struct's parts. -/
theorem opn_st {fs : Array Field} (ht : P.underlying t = some (.struct fs)) {k : Nat} (hk : P.cellsOf t = k) {n : Nat} {cs : List Value} {x : DataW H × List MemPlace} (h : DataW.trod enc P W 0 (fun _ => true) true n t cs = some x) (hlt : ∀ p ∈ x.2, p.block < W.heap.size) :
    cs.length = k ∧ ∀ (i : Nat) (f : Field), fs[i]? = some f → ∃ m y, DataW.trod enc P W 0 (fun _ => true) true m f.type ((cs.drop f.offset).take (P.cellsOf f.type)) = some y ∧ Rows.uptoBulk y.1 ≤ Rows.uptoBulk x.1 ∧ ∀ p ∈ y.2, p.block < W.heap.size := by
  obtain ⟨xs, m, _, rfl, hl, hlen, hf⟩ := DataW.trod_struct ht h
  refine ⟨hl.trans hk, fun i f hi => ?_⟩
  have hil : i < xs.length := by
    have := (Array.getElem?_eq_some_iff.1 hi).1
    omega
  refine ⟨m, xs[i], (hf i f hi).trans (List.getElem?_eq_getElem hil), ?_, fun p hp => hlt p (List.mem_flatMap.2 ⟨xs[i], List.getElem_mem hil, hp⟩)⟩
  have := bulk_mem (l := xs.map (·.1)) (List.mem_map.2 ⟨xs[i], List.getElem_mem hil, rfl⟩)
  simp only [Rows.uptoBulk]
  omega
end
theorem okw_st {P : Program} {W : World} {r : Reach} {b : Nat} {t : TypeId} {v : Value} {fs : Array Field} (ht : P.underlying t = some (.struct fs)) (h : Value.okWide P W r b t v) : ∃ cs, v = .agg cs := by
  unfold Value.okWide at h
  rw [ht] at h
  obtain ⟨cs, h1, _⟩ := h
  exact ⟨cs, h1⟩
theorem list2 {β : Type} {cs : List β} (h : cs.length = 2) : ∃ a b, cs = [a, b] := by
  match cs, h with
  | [a, b], _ => exact ⟨a, b, rfl⟩
theorem list5 {β : Type} {cs : List β} (h : cs.length = 5) : ∃ a b c d e, cs = [a, b, c, d, e] := by
  match cs, h with
  | [a, b, c, d, e], _ => exact ⟨a, b, c, d, e, rfl⟩
theorem list7 {β : Type} {cs : List β} (h : cs.length = 7) : ∃ a b c d e f g, cs = [a, b, c, d, e, f, g] := by
  match cs, h with
  | [a, b, c, d, e, f, g], _ => exact ⟨a, b, c, d, e, f, g, rfl⟩
end Go.Proofs.YtdebkbfnngkdlaaGreatDoor
end
section
namespace Go.Proofs.YtdebkbfnngkdlaaGreatDoor
open Go.Base Go.V Go.ChangeShapes Go.WideShapes Go.Deep
set_option linter.unusedVariables false
set_option linter.unusedSimpArgs false
def StM (s : ByteArray) : Prop := s.size ≤ maxLen
def ScM (y : ByteArray × Int) : Prop := y.1.size ≤ maxLen ∧ i64 y.2
def FdM (y : ByteArray × ByteArray) : Prop := y.1.size ≤ maxLen ∧ y.2.size ≤ maxLen
/-- What a value that is handed in keeps to. -/
structure VaM (k : Int) (s : ByteArray) (l : List ByteArray) (z : List (ByteArray × Int)) (h : List (ByteArray × ByteArray)) : Prop where
  k : i64 k
  s : s.size ≤ maxLen
  l : ∀ y ∈ l, StM y
  z : ∀ y ∈ z, ScM y
  h : ∀ y ∈ h, FdM y
def EnM (x : EnD) : Prop := x.key.size ≤ maxLen ∧ VaM x.k x.s x.l x.z x.h ∧ i64 x.till
theorem celI9 : Tryz.prog.cellsOf 9 = 1 := by kernel_rfl
theorem celI2 : Tryz.prog.cellsOf 2 = 1 := by kernel_rfl
theorem celI3 : Tryz.prog.cellsOf 3 = 1 := by kernel_rfl
theorem celI41 : Tryz.prog.cellsOf 41 = 1 := by kernel_rfl
theorem celI42 : Tryz.prog.cellsOf 42 = 1 := by kernel_rfl
theorem celI43 : Tryz.prog.cellsOf 43 = 1 := by kernel_rfl
theorem celI44 : Tryz.prog.cellsOf 44 = 1 := by kernel_rfl
theorem celI46 : Tryz.prog.cellsOf 46 = 5 := by kernel_rfl
theorem celI55 : Tryz.prog.cellsOf 55 = 7 := by kernel_rfl
theorem celI98 : Tryz.prog.cellsOf 98 = 2 := by kernel_rfl
theorem celI101 : Tryz.prog.cellsOf 101 = 2 := by kernel_rfl
section
variable {H : Type} {enc : TypeId × Value → H} {W : World}
theorem opn_sM {P : Program} {t : TypeId} {n : Nat} {cs : List Value} {x : DataW H × List MemPlace} (ht : P.underlying t = some .string) (h : DataW.trod enc P W 0 (fun _ => true) true n t cs = some x) : ∃ s : ByteArray, cs = [.string s] ∧ s.size ≤ maxLen := by
  obtain ⟨s, q, rfl, w⟩ := DataW.trod_string ht h
  exact ⟨s, q, w⟩
theorem st_el : Opn enc Tryz.prog W 9 Rp.str fun s _ => StM s := fun n cs x h hp => by
  obtain ⟨s, rfl, h1⟩ := opn_sM Tryz.underlying9 h
  exact ⟨s, rfl, h1⟩
theorem sc_el : Opn enc Tryz.prog W 98 scR fun y _ => ScM y := fun n cs x h hp => by
  obtain ⟨hl, hf⟩ := opn_st Tryz.underlying98 celI98 h hp
  obtain ⟨c0, c1, rfl⟩ := list2 hl
  obtain ⟨_, y0, h0, b0, _⟩ := hf 0 _ rfl
  obtain ⟨_, y1, h1, b1, _⟩ := hf 1 _ rfl
  obtain ⟨s, q0, k0⟩ := opn_sM Tryz.underlying9 h0
  obtain ⟨n, q1, k1⟩ := opn_i Tryz.underlying2 h1
  simp [celI9, celI2] at q0 q1
  subst q0; subst q1
  exact ⟨(s, n), rfl, k0, k1⟩
theorem fd_el : Opn enc Tryz.prog W 101 fdR fun y _ => FdM y := fun n cs x h hp => by
  obtain ⟨hl, hf⟩ := opn_st Tryz.underlying101 celI101 h hp
  obtain ⟨c0, c1, rfl⟩ := list2 hl
  obtain ⟨_, y0, h0, b0, _⟩ := hf 0 _ rfl
  obtain ⟨_, y1, h1, b1, _⟩ := hf 1 _ rfl
  obtain ⟨s, q0, k0⟩ := opn_sM Tryz.underlying9 h0
  obtain ⟨n, q1, k1⟩ := opn_sM Tryz.underlying9 h1
  simp [celI9] at q0 q1
  subst q0; subst q1
  exact ⟨(s, n), rfl, k0, k1⟩
theorem val_el {n : Nat} {cs : List Value} {x : DataW H × List MemPlace} (h : DataW.trod enc Tryz.prog W 0 (fun _ => true) true n 46 cs = some x) (hp : ∀ p ∈ x.2, p.block < W.heap.size) :
    ∃ k s Al cl l Az cz z Ah ch h', cs = [.int .i64 k, .string s, .slice Al l.length cl, .slice Az z.length cz, .slice Ah h'.length ch] ∧ SlR Rp.str (fun b => b < W.heap.size) W (.slice Al l.length cl) l ∧ SlR scR (fun b => b < W.heap.size) W (.slice Az z.length cz) z ∧ SlR fdR (fun b => b < W.heap.size) W (.slice Ah h'.length ch) h' ∧ VaM k s l z h' := by
  obtain ⟨hl, hf⟩ := opn_st Tryz.underlying46 celI46 h hp
  obtain ⟨c0, c1, c2, c3, c4, rfl⟩ := list5 hl
  obtain ⟨_, y0, h0, b0, p0⟩ := hf 0 _ rfl
  obtain ⟨_, y1, h1, b1, p1⟩ := hf 1 _ rfl
  obtain ⟨_, y2, h2, b2, p2⟩ := hf 2 _ rfl
  obtain ⟨_, y3, h3, b3, p3⟩ := hf 3 _ rfl
  obtain ⟨_, y4, h4, b4, p4⟩ := hf 4 _ rfl
  obtain ⟨k, q0, k0⟩ := opn_i Tryz.underlying41 h0
  obtain ⟨s, q1, k1⟩ := opn_sM Tryz.underlying9 h1
  obtain ⟨Al, cl, l, q2, s2, k2, m2⟩ := Opn.sl (R := Rp.str) (K := fun s _ => StM s) Tryz.underlying42 celI9 (by decide) (fun d b b' h q => q) st_el h2 p2
  obtain ⟨Az, cz, z, q3, s3, k3, m3⟩ := Opn.sl (R := scR) (K := fun y _ => ScM y) Tryz.underlying43 celI98 (by decide) (fun d b b' h q => q) sc_el h3 p3
  obtain ⟨Ah, ch, h', q4, s4, k4, m4⟩ := Opn.sl (R := fdR) (K := fun y _ => FdM y) Tryz.underlying44 celI101 (by decide) (fun d b b' h q => q) fd_el h4 p4
  simp [celI9, celI41, celI42, celI43, celI44] at q0 q1 q2 q3 q4
  subst q0; subst q1; subst q2; subst q3; subst q4
  exact ⟨k, s, Al, cl, l, Az, cz, z, Ah, ch, h', rfl, s2, s3, s4, k0, k1, m2, m3, m4⟩
theorem en_el : Opn enc Tryz.prog W 55 enR fun x _ => EnM x := fun n cs x h hp => by
  obtain ⟨hl, hf⟩ := opn_st Tryz.underlying55 celI55 h hp
  obtain ⟨c0, c1, c2, c3, c4, c5, c6, rfl⟩ := list7 hl
  obtain ⟨_, y0, h0, b0, p0⟩ := hf 0 _ rfl
  obtain ⟨_, y1, h1, b1, p1⟩ := hf 1 _ rfl
  obtain ⟨_, y2, h2, b2, p2⟩ := hf 2 _ rfl
  obtain ⟨s, q0, k0⟩ := opn_sM Tryz.underlying9 h0
  obtain ⟨k, s', Al, cl, l, Az, cz, z, Ah, ch, h', q1, s1, s2, s3, k1⟩ := val_el h1 p1
  obtain ⟨t, q2, k2⟩ := opn_i Tryz.underlying3 h2
  simp [celI9, celI3, celI46] at q0 q1 q2
  obtain ⟨rfl, rfl, rfl, rfl, rfl⟩ := q1
  subst q0; subst q2
  exact ⟨⟨s, k, s', l, z, h', t⟩, ⟨_, _, _, rfl, s1, s2, s3⟩, k0, k1, k2⟩
theorem open_enM {A : Option Addr} {n c : Nat} {d : DataW H} {ps : List MemPlace} (hd : DataW.Trod enc Tryz.prog W 0 (fun _ => true) true 22 (.slice A n c) d ps) (hlt : ∀ x ∈ ps, x.block < W.heap.size) :
    ∃ l : List EnD, n = l.length ∧ SlR enR (fun b => b < W.heap.size) W (.slice A n c) l ∧ ∀ x ∈ l, EnM x := by
  obtain ⟨fu, hf⟩ := hd
  obtain ⟨A', c', l, q, s, k, m⟩ := Opn.sl (R := enR) (K := fun x _ => EnM x) Tryz.underlying22 celI55 (by decide) (fun d b b' h q => q) en_el hf hlt
  simp [Value.cells] at q
  obtain ⟨rfl, rfl, rfl⟩ := q
  exact ⟨l, rfl, s, m⟩
end
/-! What a cut row keeps to. -/
theorem few_bnd {x : EnD} (h : EnM x) : bndE (fewD x) ∧ ∀ y ∈ (fewD x).z, i64 y.2 := by
  have hz : ∀ y ∈ (fewD x).z, ScM y := fun y hy => h.2.1.z y (List.mem_of_mem_take hy)
  have h1 : (fewD x).l.length ≤ 40 := List.length_take_le ..
  have h2 : (fewD x).z.length ≤ 40 := List.length_take_le ..
  have h3 : (fewD x).h.length ≤ 40 := List.length_take_le ..
  exact ⟨⟨by omega, by omega, by omega, fun y hy => (hz y hy).1⟩, fun y hy => (hz y hy).2⟩
theorem cut_bnd {l : List EnD} (h : ∀ x ∈ l, EnM x) : (∀ x ∈ cutD l, bndE x) ∧ ∀ x ∈ cutD l, ∀ y ∈ x.z, i64 y.2 := by
  have q : ∀ x ∈ cutD l, ∃ y ∈ l, fewD y = x := fun x hx => by
    unfold cutD at hx
    obtain ⟨y, hy, e⟩ := List.mem_map.1 hx
    exact ⟨y, List.mem_of_mem_take hy, e⟩
  refine ⟨fun x hx => ?_, fun x hx => ?_⟩
  · obtain ⟨y, hy, rfl⟩ := q x hx; exact (few_bnd (h y hy)).1
  · obtain ⟨y, hy, rfl⟩ := q x hx; exact (few_bnd (h y hy)).2
theorem cut_len (l : List EnD) : (cutD l).length ≤ 20 := by unfold cutD; rw [List.length_map]; exact List.length_take_le ..
end Go.Proofs.YtdebkbfnngkdlaaGreatDoor
end
section
namespace Go.V
/-- A slice's header. -/
structure SlV where
  a : Option Addr
  n : Nat
  c : Nat
structure EntV where
  kind : Int
  s : ByteArray
  l : SlV
  z : SlV
  h : SlV
  till : Int
def SlV.nil : SlV := ⟨none, 0, 0⟩
def EntV.nil : EntV := ⟨0, ⟨#[]⟩, SlV.nil, SlV.nil, SlV.nil, 0⟩
end Go.V
end
section
namespace Go.V
open Go.Plan (wpL)
open Go.RowKit Go.Base
set_option linter.unusedVariables false
set_option linter.unusedSimpArgs false
/-! ### cells laid over a list -/
theorem over_mid : ∀ (A B C vs : List Value), B.length = vs.length → over (A ++ (B ++ C)) A.length vs = A ++ (vs ++ C)
  | A, [], C, [], _ => by simp [over]
  | A, b :: B, C, v :: vs, h => by
    have h' : B.length = vs.length := by simpa using h
    have e : over (A ++ (b :: B ++ C)) A.length (v :: vs) = over ((A ++ [v]) ++ (B ++ C)) (A ++ [v]).length vs := by
      show over ((A ++ (b :: B ++ C)).set A.length v) (A.length + 1) vs = _
      rw [List.set_append_right _ _ (Nat.le_refl _), Nat.sub_self, List.length_append]
      simp
    rw [e, over_mid (A ++ [v]) B C vs h']
    simp
theorem over_eq (cs vs : List Value) (p : Nat) (h : p + vs.length ≤ cs.length) : over cs p vs = cs.take p ++ vs ++ cs.drop (p + vs.length) := by
  have e : cs = cs.take p ++ ((cs.drop p).take vs.length ++ cs.drop (p + vs.length)) := by
    rw [← List.drop_drop, List.take_append_drop, List.take_append_drop]
  have h1 : (cs.take p).length = p := by rw [List.length_take]; omega
  have h2 : ((cs.drop p).take vs.length).length = vs.length := by rw [List.length_take, List.length_drop]; omega
  have q := over_mid (cs.take p) ((cs.drop p).take vs.length) (cs.drop (p + vs.length)) vs h2
  rw [h1, ← e] at q
  rw [q, List.append_assoc]
/-- Two pieces laid one behind the other: behind a head that is kept. -/
theorem over2 (cs x y : List Value) (p : Nat) (h : p + x.length + y.length ≤ cs.length) :
    (over (over cs p x) (p + x.length) y).take (p + x.length + y.length) = cs.take p ++ x ++ y ∧ (over (over cs (p + x.length) y) p x).take (p + x.length + y.length) = cs.take p ++ x ++ y := by
  have h1 : (cs.take p).length = p := by rw [List.length_take]; omega
  have l1 : (cs.take p ++ x).length = p + x.length := by rw [List.length_append, h1]
  constructor
  · rw [over_eq _ y _ (by rw [over_length]; omega), over_eq cs x p (by omega)]
    have e : (cs.take p ++ x ++ cs.drop (p + x.length)).take (p + x.length) = cs.take p ++ x := by rw [← l1, List.take_left']; rfl
    rw [e]
    have l2 : (cs.take p ++ x ++ y).length = p + x.length + y.length := by rw [List.length_append, l1]
    rw [← l2, List.take_left']; rfl
  · rw [over_eq _ x p (by rw [over_length]; omega), over_eq cs y (p + x.length) (by omega)]
    have l3 : (cs.take (p + x.length)).length = p + x.length := by rw [List.length_take]; omega
    have e1 : (cs.take (p + x.length) ++ y ++ cs.drop (p + x.length + y.length)).take p = cs.take p := by
      rw [List.append_assoc, List.take_append_of_le_length (by omega), List.take_take]; congr 1; omega
    have e2 : (cs.take (p + x.length) ++ y ++ cs.drop (p + x.length + y.length)).drop (p + x.length) = y ++ cs.drop (p + x.length + y.length) := by
      have q : (cs.take (p + x.length) ++ (y ++ cs.drop (p + x.length + y.length))).drop (cs.take (p + x.length)).length = y ++ cs.drop (p + x.length + y.length) := List.drop_left' rfl
      rw [l3] at q
      rw [List.append_assoc]; exact q
    rw [e1, e2]
    have l2 : (cs.take p ++ x ++ y).length = p + x.length + y.length := by rw [List.length_append, l1]
    rw [← List.append_assoc, ← l2, List.take_left']; rfl
/-! ### a row of entries as they lie -/
def entC (r : ByteArray × EntV) : List Value := [.string r.1, .int .i64 r.2.kind, .string r.2.s, .slice r.2.l.a r.2.l.n r.2.l.c, .slice r.2.z.a r.2.z.n r.2.z.c, .slice r.2.h.a r.2.h.n r.2.h.c, .int .i64 r.2.till]
theorem entC_len (r : ByteArray × EntV) : (entC r).length = 7 := rfl
theorem entC_one (r : ByteArray × EntV) : (entC r).all Value.oneCell' = true := rfl
/-- An entry as it lies, and what is told of it. -/
def prR {β : Type} (d : β) : Rp ((ByteArray × EntV) × β) := Rp.flat ((⟨#[]⟩, EntV.nil), d) 7 (fun p => entC p.1) (fun _ => rfl) (fun x u hu => List.all_eq_true.1 (entC_one x.1) u hu)
theorem at_el7 {α : Type} (R : Rp α) {l : List α} {i : Nat} (h : i < l.length) : at_ R l (i : Int) = l[i] := Option.some.inj ((at_some R (xs := l) (i := (i : Int)) (by omega) (by omega)).symm.trans (List.getElem?_eq_getElem h))
section
variable {β : Type}
def entF (ps : List ((ByteArray × EntV) × β)) : List Value := ps.flatMap fun p => entC p.1
theorem entF_len (ps : List ((ByteArray × EntV) × β)) : (entF ps).length = ps.length * 7 := by
  unfold entF
  induction ps with
  | nil => rfl
  | cons r rs ih => rw [List.flatMap_cons, List.length_append, ih, entC_len, List.length_cons]; omega
theorem entF_one {ps : List ((ByteArray × EntV) × β)} : ∀ u ∈ entF ps, u.oneCell' = true := fun u hu => by
  obtain ⟨r, _, h⟩ := List.mem_flatMap.1 hu
  exact List.all_eq_true.1 (entC_one r.1) u h
theorem entF_app (rs ss : List ((ByteArray × EntV) × β)) : entF (rs ++ ss) = entF rs ++ entF ss := List.flatMap_append
theorem entF_take (rs : List ((ByteArray × EntV) × β)) (i : Nat) : (entF rs).take (i * 7) = entF (rs.take i) := by
  by_cases hi : i ≤ rs.length
  · have e : entF rs = entF (rs.take i) ++ entF (rs.drop i) := by rw [← entF_app, List.take_append_drop]
    have l : (entF (rs.take i)).length = i * 7 := by rw [entF_len, List.length_take, Nat.min_eq_left hi]
    rw [e, ← l, List.take_left']; rfl
  · rw [List.take_of_length_le (by rw [entF_len]; omega), List.take_of_length_le (by omega)]
theorem entF_drop (rs : List ((ByteArray × EntV) × β)) (i : Nat) : (entF rs).drop (i * 7) = entF (rs.drop i) := by
  by_cases hi : i ≤ rs.length
  · have e : entF rs = entF (rs.take i) ++ entF (rs.drop i) := by rw [← entF_app, List.take_append_drop]
    have l : (entF (rs.take i)).length = i * 7 := by rw [entF_len, List.length_take, Nat.min_eq_left hi]
    rw [e, ← l, List.drop_left']; rfl
  · rw [List.drop_of_length_le (by rw [entF_len]; omega), List.drop_of_length_le (by omega)]; rfl
variable {dβ : β} {w w1 : World} {base g n c : Nat} {e : TypeId} {ps : List ((ByteArray × EntV) × β)}
theorem cells_ent {Z : Nat → Prop} : ∀ {ps : List ((ByteArray × EntV) × β)} {cs : List Value}, Cells (prR dβ) Z w ps cs ↔ cs = entF ps
  | [], cs => Iff.rfl
  | x :: l, cs => by
    constructor
    · rintro ⟨c, r, rfl, hc, hr⟩
      have hc' : c = entC x.1 := hc
      rw [hc', (cells_ent (Z := Z) (ps := l)).1 hr]
      rfl
    · rintro rfl
      exact ⟨entC x.1, entF l, rfl, rfl, (cells_ent (Z := Z) (ps := l)).2 rfl⟩
theorem OwR.openE (h : OwR (prR dβ) NoZ w base e (.slice (some ⟨g, 0, none⟩) n c) ps) : ∃ cur, Blk w g cur e ∧ cur.length = c * 7 ∧ n = ps.length ∧ n ≤ c ∧ c ≤ maxLen ∧ base ≤ g ∧ cur.take (n * 7) = entF ps := by
  obtain ⟨cs, h1, h2, h3⟩ := h
  rcases h1.2 with ⟨he, _⟩ | ⟨g', cap, cur, he, hg, hh, hnc, hcm, hs, ht⟩
  · cases he
  · injection he with e1 e2 e3
    injection e1 with e1
    injection e1 with e1
    subst e1; subst e2; subst e3
    have hsz : (prR dβ).sz = 7 := rfl
    rw [hsz] at hs ht
    refine ⟨cur.toList, by simpa [Blk] using hh, by simpa using hs, rfl, hnc, hcm, hg, ?_⟩
    rw [ht, cells_ent.1 h2]
theorem OwR.mkE {cur : List Value} (hB : Blk w g cur e) (hc : cur.length = c * 7) (hn : ps.length ≤ c) (hcm : c ≤ maxLen) (hg : base ≤ g) (ht : cur.take (ps.length * 7) = entF ps) : OwR (prR dβ) NoZ w base e (.slice (some ⟨g, 0, none⟩) ps.length c) ps := by
  have hsz : (prR dβ).sz = 7 := rfl
  refine ⟨entF ps, ⟨by rw [hsz]; exact entF_len ps, .inr ⟨g, c, cur.toArray, rfl, hg, hB, hn, hcm, by rw [hsz]; simpa using hc, by rw [hsz]; simpa using ht⟩⟩, cells_ent.2 rfl, fun b _ hz => hz⟩
theorem OwR.caseE {v : Value} (h : OwR (prR dβ) NoZ w base e v ps) : (v = .slice none 0 0 ∧ ps = []) ∨ ∃ g c, v = .slice (some ⟨g, 0, none⟩) ps.length c := by
  obtain ⟨cs, h1, h2, h3⟩ := h
  rcases h1.2 with ⟨he, hn⟩ | ⟨g', cap, cur, he, _⟩
  · exact .inl ⟨he, List.eq_nil_of_length_eq_zero hn⟩
  · exact .inr ⟨g', cap, he⟩
theorem entF_set {i : Nat} (hi : i < ps.length) (p : (ByteArray × EntV) × β) : entF (ps.set i p) = (entF ps).take (i * 7) ++ entC p.1 ++ (entF ps).drop (i * 7 + 7) := by
  have e : ps.set i p = ps.take i ++ p :: ps.drop (i + 1) := List.set_eq_take_append_cons_drop.trans (if_pos hi)
  rw [e, entF_app, entF_take, show i * 7 + 7 = (i + 1) * 7 by omega, entF_drop]
  unfold entF
  rw [List.flatMap_cons, List.append_assoc]
end
section
variable {ro : Option Nat} {P : Program} {Q : Exit → Act → World → Prop} {a : Act} {w : World} {ops : Array Oper} {rest : List Oper} {d : Option Tmp} {ty : TypeId} {pos : String} {aft : Array Edge} {gd : Option (Nat × Bool)}
/-- copy into a block that is known whole: all is read ahead. -/
theorem cpB {t t' e et : TypeId} {x y : Operand} {g o dn dc sn sc sz : Nat} {ad : Addr} (n : Nat) {vs cur : List Value} (hx : a.eval x = .slice (some ⟨g, o, none⟩) dn dc) (hy : a.eval y = .slice (some ad) sn sc)
    (ht : P.underlying t = some (.slice e)) (hi : (P.info? e).map (·.size) = some sz) (hn : Nat.min sn dn = n) (hvl : vs.length = n * sz) (hsrc : ∀ j u, vs[j]? = some u → w.cell? (ad.add j) = some u) (h1 : ∀ u ∈ vs, u.oneCell' = true)
    (hB : Blk w g cur et) (hfit : o + vs.length ≤ cur.length)
    (k : ∀ w1, Blk w1 g (over cur o vs) et → Fr [g] w w1 → w1.heap.size = w.heap.size → L ro P ops Q rest (a.put d (.int .i64 (n : Int))) w1) : St ro P ops Q rest ⟨d, .call ⟨.builtin .copy, #[x, y], #[t, t']⟩, ty, pos, aft, gd⟩ a w := by
  obtain ⟨i, hi0, hs⟩ := Option.map_eq_some_iff.1 hi
  have hl := run_loadCells_list (P := P) (w := w) ad vs hsrc
  rw [hvl, ← hs] at hl
  obtain ⟨w1, h2, h3, h4, h5⟩ := run_storeCells (P := P) g et o vs 0 w cur h1 hB (by simpa using hfit)
  have hrun : (execOp a.eval ⟨d, .call ⟨.builtin .copy, #[x, y], #[t, t']⟩, ty, pos, aft, gd⟩).run P w = .ok (.value (.int .i64 (n : Int))) w1 := by
    simp only [execOp, resolve, invoke, builtin, Sem.run_bind, Sem.run_pure, Result.andThen_ok, List.map_toArray, List.map_cons, List.map_nil, hx, hy]
    simp [Builtin.copy_, run_underlying ht, Builtin.lenOf, Builtin.firstCells, sizeOf, typeInfo, hi0, hn, hl, h2, goInt]
  exact St.val hrun (k w1 (by simpa using h3) h4 h5)
/-- append(s[:i], make(k)...) where there is no room: a new block, its head kept. -/
theorem apMk {t tn e : TypeId} {x y : Operand} {g i c sz bytes : Nat} {z : Value} {cur : List Value} {et : TypeId} {q : Nat} {zi : Int} (hx : a.eval x = .slice (some ⟨g, 0, none⟩) i c) (hy : a.eval y = .int .i64 zi) (hzi : zi = (q : Int)) (ht : P.underlying t = some (.slice e)) (htn : P.underlying tn = some (.int .i64))
    (hinfo : (P.info? e).map (fun i => (i.zero, i.size, i.bytes)) = some (some z, sz, bytes)) (hzs : z.cells.size = sz) (hsz : 0 < sz) (hB : Blk w g cur et) (hcl : i * sz ≤ cur.length) (h1 : ∀ u ∈ cur.take (i * sz), u.oneCell' = true) (h0 : 0 < q) (hg : c < i + q) (hb0 : 0 < bytes) (hb : (i + q) * bytes ≤ 140737488355328)
    (k : ∀ G c1 w1 Z, G = w.heap.size → Blk w1 G (cur.take (i * sz) ++ Z) e → Z.length = (c1 - i) * sz → i + q ≤ c1 → c1 ≤ maxLen → Fr [] w w1 → w1.heap.size = G + 1 → L ro P ops Q rest (a.put d (.slice (some ⟨G, 0, none⟩) (i + q) c1)) w1) : St ro P ops Q rest ⟨d, .call ⟨.builtin .append, #[x, y], #[t, tn]⟩, ty, pos, aft, gd⟩ a w := by
  subst hzi
  obtain ⟨inf, hi, hzz⟩ := Option.map_eq_some_iff.1 hinfo
  simp only [Prod.mk.injEq] at hzz
  obtain ⟨hz0, hz1, hz2⟩ := hzz
  have hle : i + q ≤ 140737488355328 := Nat.le_trans (Nat.le_mul_of_pos_right _ hb0) hb
  have hqb : q * bytes ≤ (i + q) * bytes := Nat.mul_le_mul_right _ (by omega)
  have hl : (cur.take (i * sz)).length = i * sz := by rw [List.length_take]; omega
  have hold : (Builtin.firstCells inf.size i (.slice (some ⟨g, 0, none⟩) i c)).run P w.drew = .ok (cur.take (i * sz)).toArray w.drew := by
    have h := run_loadCells_list (P := P) (w := w.drew) (⟨g, 0, none⟩ : Addr) (cur.take (i * sz)) (fun j v hj => by
      have hj' : cur[j]? = some v := by
        rw [List.getElem?_take] at hj
        split at hj
        · exact hj
        · cases hj
      rw [show (⟨g, 0, none⟩ : Addr).add j = ⟨g, j, none⟩ by unfold Addr.add; split <;> simp_all]
      exact (hB.cell j).trans hj')
    rw [hl] at h
    unfold Builtin.firstCells
    rw [hz1]; exact h
  have hr := Lib.run_append_grow_zeros (P := P) w t tn ty e inf z .i64 .i64 ht htn hi hz0 (some ⟨g, 0, none⟩) i c (cur.take (i * sz)) hold q h0 (by omega) hg (by omega) (by rw [hz2]; omega) (by rw [hz2]; exact growslice_fits hg hb)
  have hcap := grownCap_ge w (i + q) c e
  have hmax := grownCap_le_maxLen w (i + q) c e (by unfold maxLen; omega)
  generalize grownCap w (i + q) c e = c1 at hr hcap hmax
  generalize hZ : Builtin.zeroCells z.cells q ++ Builtin.zeroCells z.cells (c1 - (i + q)) = Z at hr
  have hrun : (execOp a.eval ⟨d, .call ⟨.builtin .append, #[x, y], #[t, tn]⟩, ty, pos, aft, gd⟩).run P w = .ok (.value (.slice (some ⟨w.heap.size, 0, none⟩) (i + q) c1)) (w.drew.alloc (.cells ((cur.take (i * sz)).toArray ++ Z) e)) := by
    rw [Array.append_assoc, hZ] at hr
    simp only [execOp, resolve, invoke, builtin, Sem.run_bind, Sem.run_pure, Result.andThen_ok, List.map_toArray, List.map_cons, List.map_nil, hx, hy, hr]
  have hf : Fr [] w (w.drew.alloc (.cells ((cur.take (i * sz)).toArray ++ Z) e)) := (Fr.drew [] w).new (Fr.alloc [] _ _)
  refine St.val hrun (k _ c1 _ Z.toList rfl ?_ ?_ hcap hmax hf ?_)
  · have := World.alloc_heap_new w.drew (.cells ((cur.take (i * sz)).toArray ++ Z) e)
    have e1 : (cur.take (i * sz) ++ Z.toList).toArray = (cur.take (i * sz)).toArray ++ Z := by simp
    unfold Blk; rw [e1]; exact this
  · rw [← hZ]; simp only [Array.length_toList, Array.size_append, size_zeroCells, hzs]; rw [← Nat.add_mul]; congr 1; omega
  · show (w.drew.heap.push _).size = _; rw [Array.size_push]; rfl
/-- A call of what the model has in its place, its outcome known. -/
theorem xf {f x y : Operand} {ts : Array TypeId} {fid : FuncId} {u1 u2 v : Value} (hf : a.eval f = .func (.func fid) #[] #[]) (hx : a.eval x = u1) (hy : a.eval y = u2) (hr : (callFunc fid #[u1, u2]).run P w = .ok (.value v) w) (k : L ro P ops Q rest (a.put d v) w) : St ro P ops Q rest ⟨d, .call ⟨.value f, #[x, y], ts⟩, ty, pos, aft, gd⟩ a w := by
  have hrun : (execOp a.eval ⟨d, .call ⟨.value f, #[x, y], ts⟩, ty, pos, aft, gd⟩).run P w = .ok (.value v) w := by
    simp only [execOp, resolve, invoke, Sem.run_bind, Sem.run_pure, Result.andThen_ok, List.map_toArray, List.map_cons, List.map_nil, hf, hx, hy, Deferred.ofValue, Array.append_empty, Array.empty_append, hr]
  exact St.val hrun k
/-- A store into five of an entry's cells. -/
theorem stoV {β : Type} {dβ : β} {base g n c : Nat} {et t : TypeId} {x y : Operand} {ps : List ((ByteArray × EntV) × β)} (i : Nat) (p : (ByteArray × EntV) × β) {v : Value} (h : OwR (prR dβ) NoZ w base et (.slice (some ⟨g, 0, none⟩) n c) ps) (hi : i < ps.length)
    (hx : a.eval x = .pointer (some ⟨g, (0 + i * 7) + 1, none⟩)) (hy : a.eval y = v) (hv : v.cells = (((entC p.1).drop 1).take 5).toArray) (h0 : p.1.1 = (at_ (prR dβ) ps (i : Int)).1.1) (h6 : p.1.2.till = (at_ (prR dβ) ps (i : Int)).1.2.till) (ht : (P.info? t).map (·.size) = some 5)
    (k : ∀ w1, OwR (prR dβ) NoZ w1 base et (.slice (some ⟨g, 0, none⟩) n c) (ps.set i p) → Fr [g] w w1 → w1.heap.size = w.heap.size → L ro P ops Q rest a w1) : St ro P ops Q rest ⟨none, .store t x y, ty, pos, aft, gd⟩ a w := by
  obtain ⟨cur, hB, hcl, hn, hnc, hcm, hg, htk⟩ := h.openE
  have hlen : (entF ps).length = ps.length * 7 := entF_len ps
  have hcu : cur.take (n * 7) ++ cur.drop (n * 7) = cur := List.take_append_drop ..
  have hi7 : i * 7 + 7 ≤ ps.length * 7 := by omega
  have hl5 : (((entC p.1).drop 1).take 5).length = 5 := rfl
  have hat : (at_ (prR dβ) ps (i : Int)) = ps[i] := at_el7 (prR dβ) hi
  have hold : (entF ps).drop (i * 7) = entC ps[i].1 ++ (entF ps).drop (i * 7 + 7) := by
    rw [entF_drop, List.drop_eq_getElem_cons hi, show i * 7 + 7 = (i + 1) * 7 by omega, entF_drop]; rfl
  refine stn g ((0 + i * 7) + 1) v ((entC p.1).drop 1 |>.take 5) hx hy hv rfl ht hB (by rw [hl5]; omega) _ rfl fun w1 h1 hf hs => k w1 ?_ hf hs
  have hr := OwR.mkE (dβ := dβ) (ps := ps.set i p) (base := base) (c := c) h1 (by rw [over_length]; exact hcl) (by rw [List.length_set]; omega) hcm hg ?_
  · rw [List.length_set, ← hn] at hr; exact hr
  · rw [List.length_set, ← hn, entF_set hi, over_eq _ _ _ (by rw [hl5]; omega), hl5]
    have e1 : (cur.take (0 + i * 7 + 1)) = (entF ps).take (i * 7) ++ [.string p.1.1] := by
      have q : cur.take (0 + i * 7 + 1) = (cur.take (n * 7)).take (i * 7 + 1) := by rw [List.take_take]; congr 1; omega
      rw [q, htk, List.take_add, hold]
      have q2 : entC ps[i].1 = .string p.1.1 :: (entC ps[i].1).drop 1 := by rw [h0, hat]; rfl
      rw [q2]; rfl
    have e2 : (cur.drop (0 + i * 7 + 1 + 5)).take (n * 7 - (i * 7 + 6)) = [.int .i64 p.1.2.till] ++ (entF ps).drop (i * 7 + 7) := by
      have q : (cur.drop (0 + i * 7 + 1 + 5)).take (n * 7 - (i * 7 + 6)) = (cur.take (n * 7)).drop (i * 7 + 6) := by
        rw [List.drop_take]; congr 2; omega
      rw [q, htk, show i * 7 + 6 = i * 7 + 6 from rfl, ← List.drop_drop, hold]
      have q2 : (entC ps[i].1).drop 6 = [.int .i64 p.1.2.till] := by rw [h6, hat]; rfl
      rw [List.drop_append_of_le_length (by rw [entC_len]; omega), q2]
    have l1 : ((entF ps).take (i * 7) ++ [Value.string p.1.1]).length = i * 7 + 1 := by rw [List.length_append, List.length_take]; simp; omega
    rw [e1, List.take_append, List.length_append, l1, hl5, List.take_of_length_le (by rw [List.length_append, l1, hl5]; omega), show n * 7 - (i * 7 + 1 + 5) = n * 7 - (i * 7 + 6) by omega, e2]
    have q3 : entC p.1 = [.string p.1.1] ++ ((entC p.1).drop 1).take 5 ++ [.int .i64 p.1.2.till] := rfl
    rw [q3]; simp only [List.append_assoc]; rfl
/-- .. into a whole one. -/
theorem stoW {β : Type} {dβ : β} {base g n c : Nat} {et t : TypeId} {x y : Operand} {ps : List ((ByteArray × EntV) × β)} (i : Nat) (p : (ByteArray × EntV) × β) {v : Value} (h : OwR (prR dβ) NoZ w base et (.slice (some ⟨g, 0, none⟩) n c) ps) (hi : i < ps.length)
    (hx : a.eval x = .pointer (some ⟨g, 0 + i * 7, none⟩)) (hy : a.eval y = v) (hv : v.cells = (entC p.1).toArray) (ht : (P.info? t).map (·.size) = some 7)
    (k : ∀ w1, OwR (prR dβ) NoZ w1 base et (.slice (some ⟨g, 0, none⟩) n c) (ps.set i p) → Fr [g] w w1 → w1.heap.size = w.heap.size → L ro P ops Q rest a w1) : St ro P ops Q rest ⟨none, .store t x y, ty, pos, aft, gd⟩ a w := by
  obtain ⟨cur, hB, hcl, hn, hnc, hcm, hg, htk⟩ := h.openE
  have hi7 : i * 7 + 7 ≤ ps.length * 7 := by omega
  refine stn g (0 + i * 7) v (entC p.1) hx hy hv (entC_one _) ht hB (by rw [entC_len]; omega) _ rfl fun w1 h1 hf hs => k w1 ?_ hf hs
  have hr := OwR.mkE (dβ := dβ) (ps := ps.set i p) (base := base) (c := c) h1 (by rw [over_length]; exact hcl) (by rw [List.length_set]; omega) hcm hg ?_
  · rw [List.length_set, ← hn] at hr; exact hr
  · rw [List.length_set, ← hn, entF_set hi, over_eq _ _ _ (by rw [entC_len]; omega), entC_len, ← htk]
    have e1 : cur.take (0 + i * 7) = (cur.take (n * 7)).take (i * 7) := by rw [List.take_take]; congr 1; omega
    have l1 : (cur.take (0 + i * 7)).length = i * 7 := by rw [List.length_take]; omega
    rw [List.take_append, List.length_append, l1, entC_len, List.take_of_length_le (by rw [List.length_append, l1, entC_len]; omega), e1, List.drop_take]
    rw [Nat.zero_add]
/-- The same, where the row's place is told beside it. -/
theorem stoVa {β : Type} {dβ : β} {base g o n c : Nat} {A : Option Addr} {et t : TypeId} {x y : Operand} {ps : List ((ByteArray × EntV) × β)} (i : Nat) (p : (ByteArray × EntV) × β) {v : Value} (h : OwR (prR dβ) NoZ w base et (.slice A n c) ps) (hi : i < ps.length) (hA : A = some ⟨g, o, none⟩)
    (hx : a.eval x = .pointer (some ⟨g, (o + i * 7) + 1, none⟩)) (hy : a.eval y = v) (hv : v.cells = (((entC p.1).drop 1).take 5).toArray) (h0 : p.1.1 = (at_ (prR dβ) ps (i : Int)).1.1) (h6 : p.1.2.till = (at_ (prR dβ) ps (i : Int)).1.2.till) (ht : (P.info? t).map (·.size) = some 5)
    (k : ∀ w1, OwR (prR dβ) NoZ w1 base et (.slice A n c) (ps.set i p) → Fr ((Value.slice A n c).ownBlock.toList) w w1 → w1.heap.size = w.heap.size → L ro P ops Q rest a w1) : St ro P ops Q rest ⟨none, .store t x y, ty, pos, aft, gd⟩ a w := by
  rcases h.caseE with ⟨_, h0⟩ | ⟨g', c', he⟩
  · rw [h0] at hi; simp at hi
  injection he with e1 e2 e3
  subst e1
  injection hA with hA
  injection hA with e4 e5
  subst e4; subst e5
  exact stoV i p h hi hx hy hv h0 h6 ht fun w1 h1 hf hs => k w1 h1 hf hs
theorem stoWa {β : Type} {dβ : β} {base g o n c : Nat} {A : Option Addr} {et t : TypeId} {x y : Operand} {ps : List ((ByteArray × EntV) × β)} (i : Nat) (p : (ByteArray × EntV) × β) {v : Value} (h : OwR (prR dβ) NoZ w base et (.slice A n c) ps) (hi : i < ps.length) (hA : A = some ⟨g, o, none⟩)
    (hx : a.eval x = .pointer (some ⟨g, o + i * 7, none⟩)) (hy : a.eval y = v) (hv : v.cells = (entC p.1).toArray) (ht : (P.info? t).map (·.size) = some 7)
    (k : ∀ w1, OwR (prR dβ) NoZ w1 base et (.slice A n c) (ps.set i p) → Fr ((Value.slice A n c).ownBlock.toList) w w1 → w1.heap.size = w.heap.size → L ro P ops Q rest a w1) : St ro P ops Q rest ⟨none, .store t x y, ty, pos, aft, gd⟩ a w := by
  rcases h.caseE with ⟨_, h0⟩ | ⟨g', c', he⟩
  · rw [h0] at hi; simp at hi
  injection he with e1 e2 e3
  subst e1
  injection hA with hA
  injection hA with e4 e5
  subst e4; subst e5
  exact stoW i p h hi hx hy hv ht fun w1 h1 hf hs => k w1 h1 hf hs
end
section
variable {P : Program} {w : World}
/-- A cut of a slice, both bounds as natural numbers. -/
def It.cut2 (A : Option Addr) (n c : Nat) (l h : Int) (m q sz : Nat) (hb : l = m ∧ h = q ∧ m ≤ q ∧ q ≤ c := by omega) : It P w :=
  let i : It P w := .cut A n c l h sz ⟨by omega, by omega, by omega⟩
  { c := i.c, want := i.want, x := .slice (cutA A m c sz) (q - m) (c - m), h := fun a R o he hc => by
      have := i.h a R o he hc
      rw [this]
      show Result.ok (Next.value (.slice (cutA A l.toNat c sz) (h.toNat - l.toNat) (c - l.toNat))) w = _
      rw [hb.1, hb.2.1, Int.toNat_natCast, Int.toNat_natCast] }
end
end Go.V
end
section
namespace Go.Proofs.YtdebkbfnngkdlaaGreatDoor
open Go.V Go.Base
open Go.RowKit (Below)
attribute [local irreducible] Act.put Act.eval
set_option linter.unusedVariables false
set_option linter.unusedSimpArgs false
set_option maxHeartbeats 4000000
set_option maxRecDepth 20000
/-! ### entries as they lie, and what they lead to -/
abbrev EnQ := (ByteArray × EntV) × EnD
def prE : Rp EnQ := prR enR.dflt
def EnR (Z : Nat → Prop) (w : World) (p : EnQ) : Prop := enR.ok Z w p.2 (entC p.1)
def PsOk (Z : Nat → Prop) (w : World) (ps : List EnQ) : Prop := ∀ p ∈ ps, EnR Z w p
def datE (ps : List EnQ) : List EnD := ps.map Prod.snd
def rawE (x : EnD) (Al : Option Addr) (cl : Nat) (Az : Option Addr) (cz : Nat) (Ah : Option Addr) (ch : Nat) : ByteArray × EntV := (x.key, ⟨x.k, x.s, ⟨Al, x.l.length, cl⟩, ⟨Az, x.z.length, cz⟩, ⟨Ah, x.h.length, ch⟩, x.till⟩)
section
variable {Z Z' : Nat → Prop} {w w1 : World} {ps qs : List EnQ} {p : EnQ} {v : Value} {base nq N M : Nat} {e : TypeId}
theorem datE_len (ps : List EnQ) : (datE ps).length = ps.length := List.length_map ..
theorem EnR.key (h : EnR Z w p) : p.1.1 = p.2.key ∧ p.1.2.till = p.2.till := by
  obtain ⟨Al, cl, Az, cz, Ah, ch, hq, _⟩ := en_open h
  unfold entC at hq
  simp only [List.cons.injEq, Value.string.injEq, Value.int.injEq, true_and, and_true] at hq
  exact ⟨hq.1, hq.2.2.2.2.2.2⟩
theorem PsOk.mono (h : PsOk Z w ps) (hm : ∀ b, b < w.heap.size → Z b → Z' b ∧ w1.heap[b]? = w.heap[b]?) (hs : w.heap.size ≤ w1.heap.size) : PsOk Z' w1 ps := fun p hp => enR.mono hm hs (h p hp)
theorem PsOk.fr {l : List Nat} (h : PsOk Z w ps) (f : Fr l w w1) (hl : ∀ b ∈ l, ¬ Z b) : PsOk Z w1 ps := h.mono (fun b hb hz => ⟨hz, f.block b hb fun hm => hl b hm hz⟩) f.size
theorem PsOk.fr0 (h : PsOk Z w ps) (f : Fr [] w w1) : PsOk Z w1 ps := h.fr f fun b hb => by cases hb
theorem PsOk.zone (h : PsOk Z w ps) (hz : ∀ b, b < w.heap.size → Z b → Z' b) : PsOk Z' w ps := h.mono (fun b hb q => ⟨hz b hb q, rfl⟩) (Nat.le_refl _)
theorem PsOk.sub (h : PsOk Z w ps) (hq : ∀ p ∈ qs, p ∈ ps) : PsOk Z w qs := fun p hp => h p (hq p hp)
theorem PsOk.nil : PsOk Z w [] := fun p hp => by cases hp
theorem PsOk.app (h : PsOk Z w ps) (h2 : PsOk Z w qs) : PsOk Z w (ps ++ qs) := fun p hp => (List.mem_append.1 hp).elim (h p) (h2 p)
theorem PsOk.one (h : EnR Z w p) : PsOk Z w [p] := fun q hq => by obtain rfl := List.mem_singleton.1 hq; exact h
theorem PsOk.raise (h : PsOk (Zi nq N v) w ps) (hm : N ≤ M) : PsOk (Zi nq M v) w ps := h.zone fun k _ q => ⟨q.1, Nat.lt_of_lt_of_le q.2.1 hm, q.2.2⟩
theorem PsOk.own (h : PsOk (Zi nq N v) w ps) {l : List Nat} (f : Fr l w w1) (hl : ∀ b ∈ l, v.ownBlock = some b) : PsOk (Zi nq N v) w1 ps := h.fr f fun b hb hz => hz.2.2 (hl b hb)
/-- A row that is read, as it lies. -/
theorem SlR.raw {xs : List EnD} (h : SlR enR Z w v xs) : ∃ ps, datE ps = xs ∧ SlR prE Z w v ps ∧ PsOk Z w ps := by
  obtain ⟨A, c, rfl, hc, hl, hel⟩ := h
  have hex : ∀ q, q ≤ xs.length → ∃ ps : List EnQ, datE ps = xs.take q ∧ ∀ i p, ps[i]? = some p → EnR Z w p ∧ ∃ g o, A = some ⟨g, o, none⟩ ∧ Z g ∧ g < w.heap.size ∧ ∀ j u, (entC p.1)[j]? = some u → w.cell? ⟨g, o + i * 7 + j, none⟩ = some u := by
    intro q
    induction q with
    | zero => exact fun _ => ⟨[], rfl, fun i p h => by simp at h⟩
    | succ q ih =>
      intro hq
      obtain ⟨ps, h1, h2⟩ := ih (by omega)
      have hlen : ps.length = q := by
        have := congrArg List.length h1
        rw [datE_len, List.length_take] at this
        omega
      obtain ⟨g, o, cs, hA, hz, hg, hok, hcell⟩ := hel q xs[q] (List.getElem?_eq_getElem (by omega))
      obtain ⟨Al, cl, Az, cz, Ah, ch, hcs, _⟩ := en_open hok
      have hcs' : cs = entC (rawE xs[q] Al cl Az cz Ah ch) := hcs
      subst hcs'
      refine ⟨ps ++ [(rawE xs[q] Al cl Az cz Ah ch, xs[q])], ?_, fun i p hi => ?_⟩
      · rw [List.take_succ_eq_append_getElem (by omega), ← h1]; unfold datE; rw [List.map_append]; rfl
      · rcases Nat.lt_or_ge i ps.length with hi2 | hi2
        · rw [List.getElem?_append_left hi2] at hi; exact h2 i p hi
        · rw [List.getElem?_append_right hi2] at hi
          obtain ⟨h0, rfl⟩ : i = q ∧ p = (rawE xs[q] Al cl Az cz Ah ch, xs[q]) := by
            match hk : i - ps.length, hi with
            | 0, hi => exact ⟨by omega, by simpa using hi.symm⟩
            | k + 1, hi => simp at hi
          subst h0
          exact ⟨hok, g, o, hA, hz, hg, hcell⟩
  obtain ⟨ps, h1, h2⟩ := hex xs.length (Nat.le_refl _)
  rw [List.take_length] at h1
  have hlen : ps.length = xs.length := by rw [← h1, datE_len]
  refine ⟨ps, h1, ⟨A, c, by rw [hlen], by omega, by omega, fun i p hi => ?_⟩, fun p hp => ?_⟩
  · obtain ⟨_, g, o, hA, hz, hg, hcell⟩ := h2 i p hi
    exact ⟨g, o, entC p.1, hA, hz, hg, rfl, hcell⟩
  · obtain ⟨i, hi, rfl⟩ := List.mem_iff_getElem.1 hp
    exact (h2 i _ (List.getElem?_eq_getElem hi)).1
/-- .. as data. -/
theorem SlR.dat (h : SlR prE Z w v ps) (hP : PsOk Z w ps) : SlR enR Z w v (datE ps) := by
  obtain ⟨A, c, rfl, hc, hl, hel⟩ := h
  refine ⟨A, c, by rw [datE_len], by rw [datE_len]; exact hc, by rw [datE_len]; exact hl, fun i x hi => ?_⟩
  unfold datE at hi
  rw [List.getElem?_map, Option.map_eq_some_iff] at hi
  obtain ⟨p, hp, rfl⟩ := hi
  obtain ⟨g, o, cs, hA, hz, hg, hok, hcell⟩ := hel i p hp
  have hcs : cs = entC p.1 := hok
  subst hcs
  exact ⟨g, o, _, hA, hz, hg, hP p (List.mem_of_getElem? hp), hcell⟩
/-- A row of one's own, read as data. -/
theorem OwR.dat (h : OwR prE NoZ w base e v ps) (hP : PsOk Z w ps) : SlR enR (fun k => k < w.heap.size) w v (datE ps) :=
  SlR.dat (h.read (fun b hb _ => hb) fun b _ hb => hb) (hP.zone fun b hb _ => hb)
theorem at_dat {i : Nat} (h : i < ps.length) : at_ enR (datE ps) (i : Int) = (at_ prE ps (i : Int)).2 := by
  rw [at_el enR (by rw [datE_len]; exact h), at_el prE h]; unfold datE; rw [List.getElem_map]
end
/-- Rows that may be copied. -/
def smE (x : EnD) : Prop := x.l.length ≤ 1099511627776 ∧ x.z.length ≤ 1099511627776 ∧ x.h.length ≤ 1099511627776
theorem clone_en (w : World) (ad : Addr) (c : Nat) (l : List EnQ) (hS : SlR prE (fun k => k < w.heap.size) w (.slice (some ad) l.length c) l) (hl : l.length ≤ 1099511627776) : Calls Tryz.prog 110 #[.slice (some ad) l.length c] w (fun e w' => ∃ A' c', e = .returned (.slice A' l.length c') ∧ OwR prE NoZ w' w.heap.size 55 (.slice A' l.length c') l ∧ Fr [] w w') := by
 have hF := Fr.refl [] w
 refine V.en 8 Tryz.func110 fun a h1 => ?_
 refine V.sr h1 [] 2 2 [] fun a h4 => ?_
 refine V.seq fun K5 k6 => ?_
 refine V.sr h4 [] 3 3 [(4, .bool false)] fun a h9 => ?_
 refine V.cf h9 ?_
 refine V.skip ?_
 refine V.then_n (k6 _ _ ?_)
 refine V.sg fun K10 k11 => ?_
 refine V.go (V.mk [] trivial (by kernel_rfl) [] 55 (fun b => .slice (some ⟨b, 0, none⟩) 0 0) (by kernel_rfl) ?_)
 intro w13 b12 heb12 hB14 hF15 hsb12
 have hF_16 := hF.new hF15
 have hS_17 := hS.fr0 hF15
 refine V.pt h9 fun a h18 => ?_
 have hO19 := OwR.empty (R := prE) (base := b12) hB14 (Nat.le_refl _)
 refine V.run h18 [] 1 1 0 [(6, .slice (some ad) l.length c)] fun a h25 => ?_
 refine V.go (V.appS (R := prE) (h25.e (v := (.slice (some ⟨b12, 0, none⟩) 0 0))) (h25.e (v := (.slice (some ad) l.length c))) (by kernel_rfl) info55 (by kernel_rfl) (by decide) hO19 hS_17 (fun _ _ h => h) (by (try simp only [List.length_nil]); omega) (by decide) (by omega) ?_)
 intro A20 c21 w22 hO23 hF24
 have hsw22 := hF24.size
 have hF_26 := hF_16.own hF24 (own_ge hO19 (by omega))
 refine V.pt h25 fun a h28 => ?_
 refine V.re h28 [] 1 0 [(2, .slice A20 ((([] : List EnQ)).length + (l).length) c21)] fun a h29 => k11 _ _ ?_
 refine V.ret ?_
 refine V.r1 h29 (.slice A20 ((([] : List EnQ)).length + (l).length) c21) ?_
 have hq := hO23.rebase (base' := w.heap.size) (by omega)
 simp only [List.nil_append, List.length_nil, Nat.zero_add] at hq ⊢
 exact ⟨_, _, rfl, hq, hF_26⟩
theorem clonen_en (w : World) (c : Nat) : Calls Tryz.prog 110 #[.slice none 0 c] w (fun e w' => e = .returned (.slice none 0 0) ∧ Fr [] w w') := by
 have hF := Fr.refl [] w
 refine V.en 8 Tryz.func110 fun a h1 => ?_
 refine V.sr h1 [] 2 2 [] fun a h4 => ?_
 refine V.seq fun K5 k6 => ?_
 refine V.sr h4 [] 3 3 [(4, .bool true)] fun a h9 => ?_
 refine V.ct h9 ?_
 refine V.sr h9 [] 1 0 [(2, .slice none 0 0)] fun a h12 => ?_
 refine V.ret (V.then_r ?_)
 refine V.r1 h12 (.slice none 0 0) ?_
 exact ⟨rfl, hF⟩
/-- Three rows that share no block. -/
def Dis3 (a b c : Value) : Prop := (∀ k, a.ownBlock = some k → b.ownBlock ≠ some k) ∧ (∀ k, a.ownBlock = some k → c.ownBlock ≠ some k) ∧ (∀ k, b.ownBlock = some k → c.ownBlock ≠ some k)
theorem Dis3.nil {m n : Nat} (c : Value) {k l : Nat} : Dis3 (.slice none m n) (.slice none k l) c := ⟨fun _ h => (by cases h), fun _ h => (by cases h), fun _ h => (by cases h)⟩
theorem cl_str (w : World) (A : Option Addr) (c : Nat) (l : List ByteArray) (hS : SlR Rp.str (fun k => k < w.heap.size) w (.slice A l.length c) l) (hl : l.length ≤ 1099511627776) :
    Calls Tryz.prog 111 #[.slice A l.length c] w (fun e w' => ∃ A' c', e = .returned (.slice A' l.length c') ∧ OwR Rp.str NoZ w' w.heap.size 9 (.slice A' l.length c') l ∧ Fr [] w w') := by
  cases A with
  | none =>
    have hl0 : l = [] := by
      cases l with
      | nil => rfl
      | cons x l => obtain ⟨g, o, h, _⟩ := hS.addr (by simp); cases h
    subst hl0
    exact (clonen_str w c).mono fun e w' ⟨h1, h2⟩ => ⟨none, 0, h1, OwR.nil .., h2⟩
  | some ad => exact clone_str w ad c l hS hl
theorem cl_sc (w : World) (A : Option Addr) (c : Nat) (l : List (ByteArray × Int)) (hS : SlR scR (fun k => k < w.heap.size) w (.slice A l.length c) l) (hl : l.length ≤ 1099511627776) :
    Calls Tryz.prog 112 #[.slice A l.length c] w (fun e w' => ∃ A' c', e = .returned (.slice A' l.length c') ∧ OwR scR NoZ w' w.heap.size 98 (.slice A' l.length c') l ∧ Fr [] w w') := by
  cases A with
  | none =>
    have hl0 : l = [] := by
      cases l with
      | nil => rfl
      | cons x l => obtain ⟨g, o, h, _⟩ := hS.addr (by simp); cases h
    subst hl0
    exact (clonen_sc w c).mono fun e w' ⟨h1, h2⟩ => ⟨none, 0, h1, OwR.nil .., h2⟩
  | some ad => exact clone_sc w ad c l hS hl
theorem cl_fd (w : World) (A : Option Addr) (c : Nat) (l : List (ByteArray × ByteArray)) (hS : SlR fdR (fun k => k < w.heap.size) w (.slice A l.length c) l) (hl : l.length ≤ 1099511627776) :
    Calls Tryz.prog 113 #[.slice A l.length c] w (fun e w' => ∃ A' c', e = .returned (.slice A' l.length c') ∧ OwR fdR NoZ w' w.heap.size 101 (.slice A' l.length c') l ∧ Fr [] w w') := by
  cases A with
  | none =>
    have hl0 : l = [] := by
      cases l with
      | nil => rfl
      | cons x l => obtain ⟨g, o, h, _⟩ := hS.addr (by simp); cases h
    subst hl0
    exact (clonen_fd w c).mono fun e w' ⟨h1, h2⟩ => ⟨none, 0, h1, OwR.nil .., h2⟩
  | some ad => exact clone_fd w ad c l hS hl
theorem own_any (w : World) (k : Int) (s : ByteArray) (Al : Option Addr) (cl : Nat) (l : List ByteArray) (hSl : SlR Rp.str (fun k => k < w.heap.size) w (.slice Al l.length cl) l) (Az : Option Addr) (cz : Nat) (z : List (ByteArray × Int)) (hSz : SlR scR (fun k => k < w.heap.size) w (.slice Az z.length cz) z) (Ah : Option Addr) (ch : Nat) (h : List (ByteArray × ByteArray)) (hSh : SlR fdR (fun k => k < w.heap.size) w (.slice Ah h.length ch) h) (hll : l.length ≤ 1099511627776) (hlz : z.length ≤ 1099511627776) (hlh : h.length ≤ 1099511627776) : Calls Tryz.prog 63 #[.agg #[.int .i64 k, .string s, .slice Al l.length cl, .slice Az z.length cz, .slice Ah h.length ch]] w (fun e w' => ∃ Al' cl' Az' cz' Ah' ch', e = .returned (.agg #[.int .i64 k, .string s, .slice Al' l.length cl', .slice Az' z.length cz', .slice Ah' h.length ch']) ∧ OwR Rp.str NoZ w' w.heap.size 9 (.slice Al' l.length cl') l ∧ OwR scR NoZ w' w.heap.size 98 (.slice Az' z.length cz') z ∧ OwR fdR NoZ w' w.heap.size 101 (.slice Ah' h.length ch') h ∧ Dis3 (.slice Al' l.length cl') (.slice Az' z.length cz') (.slice Ah' h.length ch') ∧ Fr [] w w') := by
 have hF := Fr.refl [] w
 refine V.en 16 Tryz.func63 fun a h1 => ?_
 refine V.sg fun K2 k3 => ?_
 refine V.go (V.mk [(0, .agg #[.int .i64 k, .string s, .slice Al l.length cl, .slice Az z.length cz, .slice Ah h.length ch])] ⟨h1.e, trivial⟩ (by kernel_rfl) [.int .i64 k, .string s, .slice Al l.length cl, .slice Az z.length cz, .slice Ah h.length ch] 46 (fun b => .pointer (some ⟨b, 0, none⟩)) (by kernel_rfl) ?_)
 intro w5 b4 heb4 hB6 hF7 hsb4
 have hF_8 := hF.new hF7
 have hSl_9 := hSl.fr0 hF7
 have hSz_10 := hSz.fr0 hF7
 have hSh_11 := hSh.fr0 hF7
 refine V.pt h1 fun a h12 => ?_
 refine V.go (V.mk [] trivial (by kernel_rfl) [.int .i64 0, .string ⟨#[]⟩, .slice none 0 0, .slice none 0 0, .slice none 0 0] 46 (fun b => .pointer (some ⟨b, 0, none⟩)) (by kernel_rfl) ?_)
 intro w14 b13 heb13 hB15 hF16 hsb13
 have hF_17 := hF_8.new hF16
 have hSl_18 := hSl_9.fr0 hF16
 have hSz_19 := hSz_10.fr0 hF16
 have hSh_20 := hSh_11.fr0 hF16
 have hB6_21 := hB6.fr0 hF16
 refine V.pt h12 fun a h22 => ?_
 refine V.nt (k3 _ _ ?_)
 refine V.seq fun K23 k24 => ?_
 refine V.pl [([0,1,3,4,6,7],some (2,[4,7])),([9],some (5,[7])),([],some (8,[])),([],some (10,[])),([11],some (12,[])),([13],some (14,[])),([],none)] fun w25 hF26 hsw25 => ?_
 have hF_27 := hF_17.new hF26
 have hSl_28 := hSl_18.fr0 hF26
 have hSz_29 := hSz_19.fr0 hF26
 have hSh_30 := hSh_20.fr0 hF26
 have hB6_31 := hB6_21.fr0 hF26
 have hB15_32 := hB15.fr0 hF26
 refine V.pe h22 [(1, .b hB6_31 2), (1, .b hB6_31 3), (1, .b hB6_31 4)] 3 3 [(4, .slice Al l.length cl), (6, .pointer (some ⟨b4, 3, none⟩)), (7, .slice Az z.length cz), (9, .pointer (some ⟨b4, 4, none⟩)), (10, .slice Ah h.length ch)] fun a h33 => ?_
 refine V.cl h33 (Go.Proofs.enters_of Tryz.func111 (by kernel_rfl) rfl) (cl_str w25 Al cl l hSl_28.old (by omega)) ?_
 rintro _ w39 ⟨A34, c35, rfl, hO36, hF37⟩
 refine ⟨_, rfl, fun a h40 => ?_⟩
 have hsw39 := hF37.size
 have hF_41 := hF_27.new hF37
 have hSz_43 := hSz_29.fr0 hF37
 have hSh_44 := hSh_30.fr0 hF37
 have hB6_45 := hB6_31.fr0 hF37
 have hB15_46 := hB15_32.fr0 hF37
 have hl38 := hO36.lt
 refine V.eh ⟨(fun _ => held_blk (n := 1) (hx := (h33.e (v := (.pointer (some ⟨b4, 3, none⟩))))) hB6_31 hB6_45 (by kernel_rfl) rfl (by simp only [List.length]; omega)), (fun _ => held_blk (n := 1) (hx := (h33.e (v := (.pointer (some ⟨b4, 4, none⟩))))) hB6_31 hB6_45 (by kernel_rfl) rfl (by simp only [List.length]; omega))⟩ ?_
 refine V.pe h40 [] 1 0 [(12, .pointer (some ⟨b4, 2, none⟩))] fun a h47 => ?_
 refine V.cl h47 (Go.Proofs.enters_of Tryz.func112 (by kernel_rfl) rfl) (cl_sc w39 Az cz z hSz_43.old (by omega)) ?_
 rintro _ w53 ⟨A48, c49, rfl, hO50, hF51⟩
 refine ⟨_, rfl, fun a h54 => ?_⟩
 have hsw53 := hF51.size
 have hF_55 := hF_41.new hF51
 have hSh_58 := hSh_44.fr0 hF51
 have hB6_59 := hB6_45.fr0 hF51
 have hB15_60 := hB15_46.fr0 hF51
 have hO36_61 := hO36.fr0 hF51
 have hl52 := hO50.lt
 refine V.eh (fun _ => held_blk (n := 1) (hx := (h47.e (v := (.pointer (some ⟨b4, 4, none⟩))))) hB6_45 hB6_59 (by kernel_rfl) rfl (by simp only [List.length]; omega)) ?_
 refine V.pe h54 [] 1 0 [] fun a h62 => ?_
 refine V.cl h62 (Go.Proofs.enters_of Tryz.func113 (by kernel_rfl) rfl) (cl_fd w53 Ah ch h hSh_58.old (by omega)) ?_
 rintro _ w68 ⟨A63, c64, rfl, hO65, hF66⟩
 refine ⟨_, rfl, fun a h69 => ?_⟩
 have hsw68 := hF66.size
 have hF_70 := hF_55.new hF66
 have hB6_74 := hB6_59.fr0 hF66
 have hB15_75 := hB15_60.fr0 hF66
 have hO36_76 := hO36_61.fr0 hF66
 have hO50_77 := hO50.fr0 hF66
 have hl67 := hO65.lt
 refine V.eh trivial ?_
 refine V.pe h69 [] 1 0 [] fun a h78 => ?_
 refine V.go (V.stn b4 2 (.slice A34 l.length c35) [.slice A34 l.length c35] h78.e h78.e rfl rfl (by kernel_rfl) hB6_74 (by simp) [.int .i64 k, .string s, .slice A34 l.length c35, .slice Az z.length cz, .slice Ah h.length ch] rfl ?_)
 intro w79 hB80 hF81 hsw79
 have hF_82 := hF_70.own hF81 (by simp <;> omega)
 have hB15_86 := hB15_75.fr1 hF81 (by omega)
 have hO36_87 := hO36_76.frn hF81 (fun h => h) (fun e => by have := hl38 _ e; omega)
 have hO50_88 := hO50_77.frn hF81 (fun h => h) (fun e => by have := hl52 _ e; omega)
 have hO65_89 := hO65.frn hF81 (fun h => h) (fun e => by have := hl67 _ e; omega)
 refine V.eh trivial ?_
 refine V.pe h78 [] 1 0 [(13, .pointer (some ⟨b4, 3, none⟩))] fun a h90 => ?_
 refine V.go (V.stn b4 3 (.slice A48 z.length c49) [.slice A48 z.length c49] h90.e h90.e rfl rfl (by kernel_rfl) hB80 (by simp) [.int .i64 k, .string s, .slice A34 l.length c35, .slice A48 z.length c49, .slice Ah h.length ch] rfl ?_)
 intro w91 hB92 hF93 hsw91
 have hF_94 := hF_82.own hF93 (by simp <;> omega)
 have hB15_98 := hB15_86.fr1 hF93 (by omega)
 have hO36_99 := hO36_87.frn hF93 (fun h => h) (fun e => by have := hl38 _ e; omega)
 have hO50_100 := hO50_88.frn hF93 (fun h => h) (fun e => by have := hl52 _ e; omega)
 have hO65_101 := hO65_89.frn hF93 (fun h => h) (fun e => by have := hl67 _ e; omega)
 refine V.eh trivial ?_
 refine V.pe h90 [] 1 0 [(14, .pointer (some ⟨b4, 4, none⟩))] fun a h102 => ?_
 refine V.go (V.stn b4 4 (.slice A63 h.length c64) [.slice A63 h.length c64] h102.e h102.e rfl rfl (by kernel_rfl) hB92 (by simp) [.int .i64 k, .string s, .slice A34 l.length c35, .slice A48 z.length c49, .slice A63 h.length c64] rfl ?_)
 intro w103 hB104 hF105 hsw103
 have hF_106 := hF_94.own hF105 (by simp <;> omega)
 have hB15_110 := hB15_98.fr1 hF105 (by omega)
 have hO36_111 := hO36_99.frn hF105 (fun h => h) (fun e => by have := hl38 _ e; omega)
 have hO50_112 := hO50_100.frn hF105 (fun h => h) (fun e => by have := hl52 _ e; omega)
 have hO65_113 := hO65_101.frn hF105 (fun h => h) (fun e => by have := hl67 _ e; omega)
 refine V.eh trivial ?_
 refine V.pz h102 [] 1 0 [] fun a h114 => k24 _ _ ?_
 refine V.sg fun K115 k116 => ?_
 refine V.run h114 [(0, .bs hB104 0 [.int .i64 k, .string s, .slice A34 l.length c35, .slice A48 z.length c49, .slice A63 h.length c64])] 1 1 0 [(15, .agg #[.int .i64 k, .string s, .slice A34 l.length c35, .slice A48 z.length c49, .slice A63 h.length c64])] fun a h120 => ?_
 refine V.go (V.stn b13 0 (.agg #[.int .i64 k, .string s, .slice A34 l.length c35, .slice A48 z.length c49, .slice A63 h.length c64]) [.int .i64 k, .string s, .slice A34 l.length c35, .slice A48 z.length c49, .slice A63 h.length c64] h120.e h120.e rfl rfl (by kernel_rfl) hB15_110 (by simp) [.int .i64 k, .string s, .slice A34 l.length c35, .slice A48 z.length c49, .slice A63 h.length c64] rfl ?_)
 intro w117 hB118 hF119 hsw117
 have hF_121 := hF_106.own hF119 (by simp <;> omega)
 have hO36_125 := hO36_111.frn hF119 (fun h => h) (fun e => by have := hl38 _ e; omega)
 have hO50_126 := hO50_112.frn hF119 (fun h => h) (fun e => by have := hl52 _ e; omega)
 have hO65_127 := hO65_113.frn hF119 (fun h => h) (fun e => by have := hl67 _ e; omega)
 refine V.nt (k116 _ _ ?_)
 refine V.ret ?_
 refine V.retC h120.sd rfl _ (h120.e (v := (.pointer (some ⟨b13, 0, none⟩)))) (V.run_loadVar_agg (cs := [.int .i64 k, .string s, .slice A34 l.length c35, .slice A48 z.length c49, .slice A63 h.length c64]) (by kernel_rfl) (blk_cells hB118 0 _ rfl)) ?_
 exact ⟨_, _, _, _, _, _, rfl, hO36_125.rebase (base' := w.heap.size) (by omega), hO50_126.rebase (base' := w.heap.size) (by omega), hO65_127.rebase (base' := w.heap.size) (by omega), ⟨fun b h1 h2 => by have q1 := hl38 b h1; have q2 := hl52 b h2; omega, fun b h1 h2 => by have q1 := hl38 b h1; have q2 := hl67 b h2; omega, fun b h1 h2 => by have q1 := hl52 b h1; have q2 := hl67 b h2; omega⟩, hF_121⟩
theorem cl_en (w : World) (A : Option Addr) (c : Nat) (l : List EnQ) (hS : SlR prE (fun k => k < w.heap.size) w (.slice A l.length c) l) (hl : l.length ≤ 1099511627776) :
    Calls Tryz.prog 110 #[.slice A l.length c] w (fun e w' => ∃ A' c', e = .returned (.slice A' l.length c') ∧ OwR prE NoZ w' w.heap.size 55 (.slice A' l.length c') l ∧ Fr [] w w') := by
  cases A with
  | none =>
    have hl0 : l = [] := by
      cases l with
      | nil => rfl
      | cons x l => obtain ⟨g, o, h, _⟩ := hS.addr (by simp); cases h
    subst hl0
    exact (clonen_en w c).mono fun e w' ⟨h1, h2⟩ => ⟨none, 0, h1, OwR.nil .., h2⟩
  | some ad => exact clone_en w ad c l hS hl
section
variable {Z : Nat → Prop} {w : World} {ps qs : List EnQ} {p : EnQ} {i : Nat}
theorem PsOk.join (h1 : PsOk Z w (qs.take i)) (h2 : PsOk Z w ps) (he : qs.drop i = ps.drop i) : PsOk Z w qs := by
  rw [← List.take_append_drop i qs, he]
  exact h1.app (h2.sub fun p hp => List.mem_of_mem_drop hp)
theorem sm_at (h : ∀ p ∈ ps, smE p.2) (he : datE qs = datE ps) (hi : i < qs.length) : smE (at_ prE qs (i : Int)).2 := by
  have h1 : (at_ prE qs (i : Int)).2 ∈ datE qs := List.mem_map.2 ⟨_, at_in prE hi, rfl⟩
  rw [he] at h1
  obtain ⟨p, hp, e⟩ := List.mem_map.1 h1
  rw [← e]; exact h p hp
theorem take_set (hi : i < qs.length) : (qs.set i p).take (i + 1) = qs.take i ++ [p] := by
  rw [List.set_eq_take_append_cons_drop, if_pos hi, List.take_append, List.length_take, Nat.min_eq_left (by omega), List.take_take, Nat.min_eq_right (by omega), Nat.add_sub_cancel_left]
  rfl
theorem dat_set {r : ByteArray × EntV} (hi : i < qs.length) : datE (qs.set i (r, (at_ prE qs (i : Int)).2)) = datE qs := by
  unfold datE
  rw [List.map_set, at_el prE hi]
  apply List.ext_getElem?
  intro j
  rw [List.getElem?_set]
  split
  · rename_i h
    subst h
    split
    · rw [List.getElem?_map, List.getElem?_eq_getElem hi]; rfl
    · rw [List.length_map] at *; omega
  · rfl
theorem drop_set (he : qs.drop i = ps.drop i) : (qs.set i p).drop (i + 1) = ps.drop (i + 1) := by
  rw [List.drop_set_of_lt (by omega), ← List.drop_drop, he, List.drop_drop]
end
theorem owned_raw (w : World) (A : Option Addr) (c : Nat) (ps : List EnQ) (hSp : SlR prE (fun k => k < w.heap.size) w (.slice A ps.length c) ps) (hPp : PsOk (fun k => k < w.heap.size) w ps) (hl : ps.length ≤ 1099511627776) (hsm : ∀ p ∈ ps, smE p.2) : Calls Tryz.prog 62 #[.slice A ps.length c] w (fun e w' => ∃ A' c' qs, e = .returned (.slice A' qs.length c') ∧ datE qs = datE ps ∧ OwR prE NoZ w' w.heap.size 55 (.slice A' qs.length c') qs ∧ PsOk (Zi w.heap.size w'.heap.size (.slice A' qs.length c')) w' qs ∧ Fr [] w w') := by
 have hF := Fr.refl [] w
 refine V.en 24 Tryz.func62 fun a h1 => ?_
 refine V.sr h1 [] 2 2 [] fun a h4 => ?_
 refine V.sg fun K5 k6 => ?_
 refine V.run h4 [] 1 1 0 [(5, .slice A ps.length c)] fun a h7 => ?_
 refine V.cl h7 (Go.Proofs.enters_of Tryz.func110 (by kernel_rfl) rfl) (cl_en w A c ps hSp.old (by omega)) ?_
 rintro _ w12 ⟨A8, c9, rfl, hO10, hF11⟩
 refine ⟨_, rfl, fun a h13 => ?_⟩
 have hsw12 := hF11.size
 have hF_14 := hF.new hF11
 have hPp_16 := hPp.fr0 hF11
 refine V.re h13 [] 1 0 [(3, .slice A8 ps.length c9)] fun a h17 => k6 _ _ ?_
 refine V.seq fun K18 k19 => ?_
 refine V.sr h17 [] 7 7 [(8, .int .i64 ((ps.length : Nat) : Int)), (9, .int .i64 0)] fun a h22 => ?_
 refine V.block ?_
 refine V.loop2 (fun (i : Nat) (qs : List EnQ) a_ w_ => En 24 [] a_ [(3, .slice A8 ps.length c9), (8, .int .i64 ((ps.length : Nat) : Int)), (9, .int .i64 (i : Int))] ∧ OwR prE NoZ w_ w.heap.size 55 (.slice A8 ps.length c9) qs ∧ PsOk (Zi w.heap.size w_.heap.size (.slice A8 ps.length c9)) w_ (qs.take i) ∧ Fr [] w w_ ∧ PsOk (fun k => k < w.heap.size) w_ ps ∧ (i ≤ ps.length) ∧ (qs.length = ps.length) ∧ (datE qs = datE ps) ∧ (qs.drop i = ps.drop i)) (fun (i : Nat) (qs : List EnQ) => ps.length - i) 0 ps ?_ ?_
 ·
  refine ⟨(h22.eq 9 (v := (.int .i64 0)) (u := (.int .i64 (0 : Int))) (V.int_eq (by omega))).only _, hO10, PsOk.nil, hF_14, hPp_16, (by omega), rfl, rfl, rfl⟩
 ·
  rintro i qs a23 w24 ⟨h25, hO_26, hN_27, hF_28, hPp_29, hi, hql, hqd, hqp⟩
  have hfs30 := hF_28.size
  refine V.sr h25 [] 1 0 [(10, .bool (decide ((i : Int) < ((ps.length : Nat) : Int))))] fun a h33 => ?_
  refine V.seq fun K34 k35 => ?_
  refine V.cp h33 ((i : Int) < ((ps.length : Nat) : Int)) (fun ht36 => ?_) (fun ht36 => ?_)
  ·
   refine V.skip ?_
   refine V.then_n (k35 _ _ ?_)
   refine V.seq fun K37 k38 => ?_
   refine V.block ?_
   refine V.sr h33 [] 11 11 [(4, .int .i64 (i : Int))] fun a h41 => ?_
   have hQ42 : PsOk (fun k => k < w24.heap.size) w24 qs := PsOk.join (hN_27.zone fun b hb _ => hb) (hPp_29.zone fun b hb _ => hb) hqp
   have hS43 := hO_26.read (Z' := fun k => k < w24.heap.size) (fun _ hb _ => hb) (fun _ _ hb => hb)
   obtain ⟨hsl, hsz, hsh⟩ := sm_at hsm hqd (i := i) (by omega)
   obtain ⟨g44, o45, hA46, hA46l, hA46z⟩ := hS43.addr (by omega)
   obtain ⟨cs47, hok48, hE49⟩ := hS43.els hA46 (i : Int) (by omega) (by omega)
   obtain rfl : cs47 = entC (at_ prE qs (i : Int)).1 := hok48
   obtain ⟨Al50, cl51, Az52, cz53, Ah54, ch55, hq56, hS57, hS58, hS59⟩ := en_open (hQ42 (at_ prE qs (i : Int)) (at_in prE (by omega)))
   rw [hq56] at hE49
   refine V.rg ?_
   refine V.run h41 [(4, .ix g44 o45 ps.length c9 .i64 (i : Int) 7 hA46), (1, .ls ⟨g44, (o45 + (i : Int).toNat * 7) + 1, none⟩ [.int .i64 ((at_ prE qs (i : Int)).2.k), .string ((at_ prE qs (i : Int)).2.s), .slice Al50 ((at_ prE qs (i : Int)).2.l.length) cl51, .slice Az52 ((at_ prE qs (i : Int)).2.z.length) cz53, .slice Ah54 ((at_ prE qs (i : Int)).2.h.length) ch55] (hE49.cells 1 _ rfl))] 7 14 17 [(12, .slice A8 ps.length c9), (13, .int .i64 (i : Int)), (18, .agg #[.int .i64 ((at_ prE qs (i : Int)).2.k), .string ((at_ prE qs (i : Int)).2.s), .slice Al50 ((at_ prE qs (i : Int)).2.l.length) cl51, .slice Az52 ((at_ prE qs (i : Int)).2.z.length) cz53, .slice Ah54 ((at_ prE qs (i : Int)).2.h.length) ch55])] fun a h60 => ?_
   refine V.cl h60 (Go.Proofs.enters_of Tryz.func63 (by kernel_rfl) rfl) (own_any w24 ((at_ prE qs (i : Int)).2.k) ((at_ prE qs (i : Int)).2.s) Al50 cl51 ((at_ prE qs (i : Int)).2.l) hS57.old Az52 cz53 ((at_ prE qs (i : Int)).2.z) hS58.old Ah54 ch55 ((at_ prE qs (i : Int)).2.h) hS59.old hsl hsz hsh) ?_
   rintro _ w75 ⟨Al61, cl62, Az63, cz64, Ah65, ch66, rfl, hO68, hO69, hO70, hd71, hF67⟩
   refine ⟨_, rfl, fun a h76 => ?_⟩
   have hsw75 := hF67.size
   have hO_77 := hO_26.fr0 hF67
   have hN_78 := hN_27.fr0 hF67
   have hF_79 := hF_28.new hF67
   have hPp_80 := hPp_29.fr0 hF67
   have hQ42_81 := hQ42.fr0 hF67
   have hS72 := hO68.read (Z' := fun k => w24.heap.size ≤ k ∧ k < w75.heap.size) (fun _ _ q => q.elim) (fun _ q q2 => ⟨q, q2⟩)
   have hS73 := hO69.read (Z' := fun k => w24.heap.size ≤ k ∧ k < w75.heap.size) (fun _ _ q => q.elim) (fun _ q q2 => ⟨q, q2⟩)
   have hS74 := hO70.read (Z' := fun k => w24.heap.size ≤ k ∧ k < w75.heap.size) (fun _ _ q => q.elim) (fun _ q q2 => ⟨q, q2⟩)
   refine V.run h76 [(0, .ix g44 o45 ps.length c9 .i64 (i : Int) 7 hA46)] 2 20 20 [(21, .pointer (some ⟨g44, (o45 + (i : Int).toNat * 7) + 1, none⟩))] fun a h88 => ?_
   have hk87 := EnR.key (hQ42_81 _ (at_in prE (show i < qs.length by omega)))
   have hp89 : EnR (Zi w.heap.size w75.heap.size (.slice A8 ps.length c9)) w75 (rawE (at_ prE qs (i : Int)).2 Al61 cl62 Az63 cz64 Ah65 ch66, (at_ prE qs (i : Int)).2) := ⟨_, _, _, rfl, hS72.zone (fun k _ hz => ⟨by omega, hz.2, fun e => by have := (hO_26.lt _ e).2; omega⟩), hS73.zone (fun k _ hz => ⟨by omega, hz.2, fun e => by have := (hO_26.lt _ e).2; omega⟩), hS74.zone (fun k _ hz => ⟨by omega, hz.2, fun e => by have := (hO_26.lt _ e).2; omega⟩)⟩
   have hN90 := (hN_78.raise (M := w75.heap.size) (by omega)).app (PsOk.one hp89)
   refine V.go (V.stoVa (dβ := enR.dflt) i (rawE (at_ prE qs (i : Int)).2 Al61 cl62 Az63 cz64 Ah65 ch66, (at_ prE qs (i : Int)).2) hO_77 (by omega) hA46 (h88.e (v := (.pointer (some ⟨g44, (o45 + (i : Int).toNat * 7) + 1, none⟩)))) (h88.e (v := (.agg #[.int .i64 ((at_ prE qs (i : Int)).2.k), .string ((at_ prE qs (i : Int)).2.s), .slice Al61 (((at_ prE qs (i : Int)).2.l).length) cl62, .slice Az63 (((at_ prE qs (i : Int)).2.z).length) cz64, .slice Ah65 (((at_ prE qs (i : Int)).2.h).length) ch66]))) rfl hk87.1.symm hk87.2.symm (by kernel_rfl) ?_)
   intro w91 hO92 hF93 hsw91
   have hF_94 := hF_79.own hF93 (own_ge hO_77 (by omega))
   have hPp_95 := hPp_80.fr hF93 (by intro b hb hz; have := own_ge hO_77 (Nat.le_refl _) b hb; (try dsimp only at hz); omega)
   have hN90_96 := hN90.own hF93 (by intro k hk; simpa using hk)
   refine V.nil ?_
   refine V.blk_n ?_
   refine V.then_n (k38 _ _ ?_)
   refine V.rr h88 [(0, .i ((i : Int) + 1))] 22 22 [(9, .int .i64 ((i : Int) + 1))] fun a h97 => ?_
   refine V.then_n ?_
   refine ⟨i + 1, qs.set i (rawE (at_ prE qs (i : Int)).2 Al61 cl62 Az63 cz64 Ah65 ch66, (at_ prE qs (i : Int)).2), by omega, ?_⟩
   refine ⟨(h97.eq 9 (v := (.int .i64 ((i : Int) + 1))) (u := (.int .i64 ((i + 1) : Int))) (V.int_eq (by omega))).only _, hO92, (by rw [take_set (by omega)]; exact hN90_96.raise (M := w91.heap.size) (by omega)), hF_94, hPp_95, (by omega), (by rw [List.length_set]; omega), (by rw [← hqd]; exact dat_set (i := i) (by omega)), (drop_set hqp)⟩
  ·
   refine V.exit (V.then_e (V.then_e (V.blk_hit ?_)))
   refine V.then_n (k19 _ _ ?_)
   refine V.sr h33 [] 23 23 [(2, .slice A8 ps.length c9)] fun a h100 => ?_
   refine V.ret ?_
   refine V.r1 h100 (.slice A8 ps.length c9) ?_
   have hqt : qs.take i = qs := List.take_of_length_le (by omega)
   rw [hqt] at hN_27
   exact ⟨_, _, qs, by rw [hql], hqd, by rw [hql]; exact hO_26, by rw [hql]; exact hN_27.raise (by omega), hF_28⟩
theorem owned_any (w : World) (A : Option Addr) (c n : Nat) (xs : List EnD) (hn : n = xs.length) (hS : SlR enR (fun k => k < w.heap.size) w (.slice A n c) xs) (hl : xs.length ≤ 1099511627776) (hsm : ∀ x ∈ xs, smE x) :
    Calls Tryz.prog 62 #[.slice A n c] w fun e w' => ∃ A' c' qs, e = .returned (.slice A' qs.length c') ∧ datE qs = xs ∧ OwR prE NoZ w' w.heap.size 55 (.slice A' qs.length c') qs ∧ PsOk (Zi w.heap.size w'.heap.size (.slice A' qs.length c')) w' qs ∧ Fr [] w w' := by
  subst hn
  obtain ⟨ps, rfl, h1, h2⟩ := SlR.raw hS
  rw [datE_len] at h1 hl ⊢
  exact owned_raw w A c ps h1 h2 hl fun p hp => hsm _ (List.mem_map.2 ⟨p, hp, rfl⟩)
/-! ### a key's place -/
def plN : List EnD → ByteArray → Int
  | [], _ => -1
  | x :: l, key => if x.key = key then 0 else if plN l key < 0 then -1 else plN l key + 1
theorem plN_spec : ∀ (l : List EnD) (key : ByteArray), (plN l key = -1 ∧ ∀ x ∈ l, ¬ x.key = key) ∨ ∃ i : Nat, plN l key = i ∧ ∃ h : i < l.length, l[i].key = key ∧ ∀ (j : Nat) (hj : j < i), ¬ (l[j]'(by omega)).key = key
  | [], _ => .inl ⟨rfl, fun x h => by cases h⟩
  | x :: l, key => by
    unfold plN
    by_cases hx : x.key = key
    · rw [if_pos hx]
      exact .inr ⟨0, rfl, by simp, hx, fun j hj => by omega⟩
    · rw [if_neg hx]
      rcases plN_spec l key with ⟨h1, h2⟩ | ⟨i, h1, h2, h3, h4⟩
      · rw [if_pos (by omega)]
        refine .inl ⟨rfl, fun y hy => ?_⟩
        rcases List.mem_cons.1 hy with rfl | hy
        · exact hx
        · exact h2 y hy
      · rw [if_neg (by omega)]
        refine .inr ⟨i + 1, by omega, by simp; exact h2, by simpa using h3, fun j hj => ?_⟩
        cases j with
        | zero => exact hx
        | succ j => simpa using h4 j (by omega)
def gK (l : List EnD) (key : ByteArray) (i : Nat) : Prop := ¬ (at_ enR l (i : Int)).key = key
section
variable {l : List EnD} {key : ByteArray} {i : Nat}
theorem plN_no (h : AllG (gK l key) l.length) : plN l key = -1 := by
  rcases plN_spec l key with ⟨h1, _⟩ | ⟨i, _, h2, h3, _⟩
  · exact h1
  · exact absurd (by rw [at_el enR h2]; exact h3) (h i h2)
theorem plN_at (hi : i < l.length) (hk : (at_ enR l (i : Int)).key = key) (h : AllG (gK l key) i) : plN l key = i := by
  rw [at_el enR hi] at hk
  rcases plN_spec l key with ⟨_, h2⟩ | ⟨j, h1, h2, h3, h4⟩
  · exact absurd hk (h2 _ (List.getElem_mem hi))
  · rcases Nat.lt_trichotomy i j with hj | hj | hj
    · exact absurd hk (h4 i hj)
    · rw [h1, hj]
    · exact absurd (by rw [at_el enR h2]; exact h3) (h j hj)
theorem plN_lt (h : ¬ plN l key < 0) : ∃ i : Nat, plN l key = i ∧ i < l.length ∧ (at_ enR l (i : Int)).key = key := by
  rcases plN_spec l key with ⟨h1, _⟩ | ⟨j, h1, h2, h3, _⟩
  · omega
  · exact ⟨j, h1, h2, by rw [at_el enR h2]; exact h3⟩
end
def fdE (l : List EnD) (key : ByteArray) : EnD := if plN l key < 0 then enR.dflt else at_ enR l (plN l key)
theorem fd_no {l : List EnD} {key : ByteArray} (h : plN l key < 0) : fdE l key = enR.dflt := if_pos h
theorem fd_at {l : List EnD} {key : ByteArray} {i : Nat} (h : plN l key = i) : fdE l key = at_ enR l (i : Int) := by unfold fdE; rw [if_neg (by omega), h]
theorem fd_pick {l : List EnD} {qs : List EnQ} {i k : Nat} (h : datE qs = (l.drop i).take k) (hi : i < l.length) (hk : 0 < k) : (at_ prE qs (0 : Int)).2 = at_ enR l (i : Int) := by
  have hl : qs.length = ((l.drop i).take k).length := by rw [← h, datE_len]
  have h0 : 0 < qs.length := by rw [hl, List.length_take, List.length_drop]; omega
  have e := at_dat (ps := qs) (i := 0) h0
  have h2 : 0 < ((l.drop i).take k).length := by omega
  refine e.symm.trans ?_
  rw [h, at_el enR h2, at_el enR hi, List.getElem_take, List.getElem_drop]; rfl
theorem plc1_any (w : World) (key : ByteArray) (k : Int) (s : ByteArray) (Al : Option Addr) (cl : Nat) (l : List ByteArray) (hSl : SlR Rp.str (fun k => k < w.heap.size) w (.slice Al l.length cl) l) (Az : Option Addr) (cz : Nat) (z : List (ByteArray × Int)) (hSz : SlR scR (fun k => k < w.heap.size) w (.slice Az z.length cz) z) (Ah : Option Addr) (ch : Nat) (h : List (ByteArray × ByteArray)) (hSh : SlR fdR (fun k => k < w.heap.size) w (.slice Ah h.length ch) h) (at' : Int) (b : Nat) (key2 : ByteArray) (hB : Blk w b [.string key2] 9) : Calls Tryz.prog 116 #[.agg #[.string key, .int .i64 k, .string s, .slice Al l.length cl, .slice Az z.length cz, .slice Ah h.length ch, .int .i64 at'], .pointer (some ⟨b, 0, none⟩)] w (fun e w' => e = .returned (.bool (decide (key = key2))) ∧ Fr [] w w') := by
 have hF := Fr.refl [] w
 have hlt0 := hB.lt
 refine V.en 8 Tryz.func116 fun a h1 => ?_
 refine V.sg fun K2 k3 => ?_
 refine V.go (V.mk [(0, .agg #[.string key, .int .i64 k, .string s, .slice Al l.length cl, .slice Az z.length cz, .slice Ah h.length ch, .int .i64 at'])] ⟨h1.e, trivial⟩ (by kernel_rfl) [.string key, .int .i64 k, .string s, .slice Al l.length cl, .slice Az z.length cz, .slice Ah h.length ch, .int .i64 at'] 55 (fun b => .pointer (some ⟨b, 0, none⟩)) (by kernel_rfl) ?_)
 intro w5 b4 heb4 hB6 hF7 hsb4
 have hF_8 := hF.new hF7
 have hB_12 := hB.fr0 hF7
 refine V.pt h1 fun a h13 => ?_
 refine V.re h13 [] 3 3 [] fun a h14 => k3 _ _ ?_
 refine V.sr h14 [(1, .b hB6 0), (0, .b hB_12 0), (0, .seq key key2)] 4 7 [(3, .bool (decide (key = key2)))] fun a h17 => ?_
 refine V.ret ?_
 refine V.r1 h17 (.bool (decide (key = key2))) ?_
 exact ⟨rfl, hF_8⟩
theorem ixk_any (w : World) (Al : Option Addr) (cl : Nat) (l : List EnD) (hSl : SlR enR (fun k => k < w.heap.size) w (.slice Al l.length cl) l) (b : Nat) (key2 : ByteArray) (hB : Blk w b [.string key2] 9) : Calls Tryz.prog 109 #[.slice Al l.length cl, .func (.func 116) #[] #[.pointer (some ⟨b, 0, none⟩)]] w (fun e w' => e = .returned (.int .i64 (plN l key2)) ∧ Fr [] w w') := by
 have hF := Fr.refl [] w
 have hlen0 := hSl.len_le
 have hlt0 := hB.lt
 refine V.en 19 Tryz.func109 fun a h1 => ?_
 refine V.sr h1 [] 4 4 [] fun a h4 => ?_
 refine V.seq fun K5 k6 => ?_
 refine V.sr h4 [] 6 6 [(7, .int .i64 ((l.length : Nat) : Int)), (8, .int .i64 0)] fun a h9 => ?_
 refine V.block ?_
 refine V.loop1 (fun (i : Nat) a_ w_ => En 19 [] a_ [(0, .slice Al l.length cl), (1, .func (.func 116) #[] #[.pointer (some ⟨b, 0, none⟩)]), (7, .int .i64 ((l.length : Nat) : Int)), (8, .int .i64 (i : Int))] ∧ Fr [] w w_ ∧ SlR enR (fun k => k < w.heap.size) w_ (.slice Al l.length cl) l ∧ Blk w_ b [.string key2] 9 ∧ (i ≤ l.length) ∧ (AllG (gK l key2) i)) (fun (i : Nat) => l.length - i) 0 ?_ ?_
 ·
  refine ⟨(h9.eq 8 (v := (.int .i64 0)) (u := (.int .i64 (0 : Int))) (V.int_eq (by omega))).only _, hF, hSl, hB, (by omega), (AllG.zero _)⟩
 ·
  rintro i a10 w11 ⟨h12, hF_13, hSl_14, hB_15, hi, hG⟩
  have hfs16 := hF_13.size
  have hlt17 := hB_15.lt
  refine V.sr h12 [] 1 0 [(9, .bool (decide ((i : Int) < ((l.length : Nat) : Int))))] fun a h20 => ?_
  refine V.seq fun K21 k22 => ?_
  refine V.cp h20 ((i : Int) < ((l.length : Nat) : Int)) (fun ht23 => ?_) (fun ht23 => ?_)
  ·
   refine V.skip ?_
   refine V.then_n (k22 _ _ ?_)
   refine V.seq fun K24 k25 => ?_
   refine V.block ?_
   refine V.sr h20 [] 10 10 [(5, .int .i64 (i : Int))] fun a h28 => ?_
   obtain ⟨g31, o32, hA33, hA33l, hA33z⟩ := hSl_14.addr (by omega)
   obtain ⟨cs34, hok35, hE36⟩ := hSl_14.els hA33 (i : Int) (by omega) (by omega)
   obtain ⟨Al37, cl38, Az39, cz40, Ah41, ch42, rfl, hS43, hS44, hS45⟩ := en_open hok35
   refine V.sg fun K29 k30 => ?_
   refine V.run h28 [(3, .ix g31 o32 l.length cl .i64 (i : Int) 7 hA33), (0, .ls ⟨g31, o32 + (i : Int).toNat * 7, none⟩ [.string ((at_ enR l (i : Int)).key), .int .i64 ((at_ enR l (i : Int)).k), .string ((at_ enR l (i : Int)).s), .slice Al37 ((at_ enR l (i : Int)).l.length) cl38, .slice Az39 ((at_ enR l (i : Int)).z.length) cz40, .slice Ah41 ((at_ enR l (i : Int)).h.length) ch42, .int .i64 ((at_ enR l (i : Int)).till)] (hE36.cells 0 _ rfl))] 5 12 14 [(11, .func (.func 116) #[] #[.pointer (some ⟨b, 0, none⟩)]), (15, .agg #[.string ((at_ enR l (i : Int)).key), .int .i64 ((at_ enR l (i : Int)).k), .string ((at_ enR l (i : Int)).s), .slice Al37 ((at_ enR l (i : Int)).l.length) cl38, .slice Az39 ((at_ enR l (i : Int)).z.length) cz40, .slice Ah41 ((at_ enR l (i : Int)).h.length) ch42, .int .i64 ((at_ enR l (i : Int)).till)])] fun a h46 => ?_
   refine V.cl h46 (Go.Proofs.enters_of Tryz.func116 (by kernel_rfl) rfl) (plc1_any w11 ((at_ enR l (i : Int)).key) ((at_ enR l (i : Int)).k) ((at_ enR l (i : Int)).s) Al37 cl38 ((at_ enR l (i : Int)).l) hS43.old Az39 cz40 ((at_ enR l (i : Int)).z) hS44.old Ah41 ch42 ((at_ enR l (i : Int)).h) hS45.old ((at_ enR l (i : Int)).till) b key2 hB_15) ?_
   rintro _ w48 ⟨rfl, hF47⟩
   refine ⟨_, rfl, fun a h49 => ?_⟩
   have hsw48 := hF47.size
   have hF_50 := hF_13.new hF47
   have hSl_51 := hSl_14.fr0 hF47
   have hB_52 := hB_15.fr0 hF47
   refine V.nt (k30 _ _ ?_)
   refine V.cp h49 (((at_ enR l (i : Int)).key) = key2) (fun ht57 => ?_) (fun ht57 => ?_)
   ·
    refine V.sr h49 [] 17 17 [(4, .int .i64 (i : Int))] fun a h60 => ?_
    refine V.ret (V.blk_r (V.then_r (V.then_r (V.blk_r (V.then_r ?_)))))
    refine V.r1 h60 (.int .i64 (i : Int)) ?_
    exact ⟨congrArg (fun b => Ending.returned (Value.int .i64 b)) (plN_at (by omega) ht57 hG).symm, hF_50⟩
   ·
    refine V.skip (V.blk_n ?_)
    refine V.then_n (k25 _ _ ?_)
    refine V.rr h49 [(0, .i ((i : Int) + 1))] 18 18 [(8, .int .i64 ((i : Int) + 1))] fun a h61 => ?_
    refine V.then_n ?_
    refine ⟨i + 1, by omega, ?_⟩
    refine ⟨(h61.eq 8 (v := (.int .i64 ((i : Int) + 1))) (u := (.int .i64 ((i + 1) : Int))) (V.int_eq (by omega))).only _, hF_50, hSl_51, hB_52, (by omega), (hG.step (by unfold gK; exact ht57))⟩
  ·
   refine V.exit (V.then_e (V.then_e (V.blk_hit ?_)))
   refine V.then_n (k6 _ _ ?_)
   refine V.sr h20 [] 1 0 [(4, .int .i64 (-1))] fun a h64 => ?_
   refine V.ret ?_
   refine V.r1 h64 (.int .i64 (-1)) ?_
   exact ⟨congrArg (fun b => Ending.returned (Value.int .i64 b)) (plN_no (hG.le (by omega))).symm, hF_13⟩
theorem place_any (w : World) (Al : Option Addr) (cl : Nat) (l : List EnD) (hSl : SlR enR (fun k => k < w.heap.size) w (.slice Al l.length cl) l) (key2 : ByteArray) : Calls Tryz.prog 66 #[.slice Al l.length cl, .string key2] w (fun e w' => e = .returned (.int .i64 (plN l key2)) ∧ Fr [] w w') := by
 have hF := Fr.refl [] w
 refine V.en 8 Tryz.func66 fun a h1 => ?_
 refine V.sg fun K2 k3 => ?_
 refine V.go (V.mk [(1, .string key2)] ⟨h1.e, trivial⟩ (by kernel_rfl) [.string key2] 9 (fun b => .pointer (some ⟨b, 0, none⟩)) (by kernel_rfl) ?_)
 intro w5 b4 heb4 hB6 hF7 hsb4
 have hF_8 := hF.new hF7
 have hSl_9 := hSl.fr0 hF7
 refine V.pt h1 fun a h10 => ?_
 refine V.re h10 [] 4 4 [] fun a h11 => k3 _ _ ?_
 refine V.sg fun K12 k13 => ?_
 refine V.run h11 [] 2 1 0 [(5, .slice Al l.length cl), (6, .func (.func 116) #[] #[.pointer (some ⟨b4, 0, none⟩)])] fun a h14 => ?_
 refine V.cl h14 (Go.Proofs.enters_of Tryz.func109 (by kernel_rfl) rfl) (ixk_any w5 Al cl l hSl_9.old b4 key2 hB6) ?_
 rintro _ w16 ⟨rfl, hF15⟩
 refine ⟨_, rfl, fun a h17 => ?_⟩
 have hsw16 := hF15.size
 have hF_18 := hF_8.new hF15
 refine V.re h17 [] 1 0 [(4, .int .i64 (plN l key2))] fun a h21 => k13 _ _ ?_
 refine V.ret ?_
 refine V.r1 h21 (.int .i64 (plN l key2)) ?_
 exact ⟨rfl, hF_18⟩
theorem rplace_any (w : World) (Al : Option Addr) (cl : Nat) (l : List EnD) (hSl : SlR enR (fun k => k < w.heap.size) w (.slice Al l.length cl) l) (key2 : ByteArray) : Calls Tryz.prog 67 #[.slice Al l.length cl, .string key2] w (fun e w' => e = .returned (.int .i64 (plN l key2)) ∧ Fr [] w w') := by
 have hF := Fr.refl [] w
 have hlen0 := hSl.len_le
 refine V.en 20 Tryz.func67 fun a h1 => ?_
 refine V.sr h1 [] 4 4 [] fun a h4 => ?_
 refine V.seq fun K5 k6 => ?_
 refine V.sr h4 [] 1 0 [(5, .int .i64 0)] fun a h9 => ?_
 refine V.block ?_
 refine V.loop1 (fun (i : Nat) a_ w_ => En 20 [] a_ [(0, .slice Al l.length cl), (1, .string key2), (5, .int .i64 (i : Int))] ∧ Fr [] w w_ ∧ SlR enR (fun k => k < w.heap.size) w_ (.slice Al l.length cl) l ∧ (i ≤ l.length) ∧ (AllG (gK l key2) i)) (fun (i : Nat) => l.length - i) 0 ?_ ?_
 ·
  refine ⟨(h9.eq 5 (v := (.int .i64 0)) (u := (.int .i64 (0 : Int))) (V.int_eq (by omega))).only _, hF, hSl, (by omega), (AllG.zero _)⟩
 ·
  rintro i a10 w11 ⟨h12, hF_13, hSl_14, hi, hG⟩
  have hfs15 := hF_13.size
  refine V.seq fun K16 k17 => ?_
  refine V.sr h12 [] 6 8 [(9, .bool (decide ((i : Int) < ((l.length : Nat) : Int))))] fun a h20 => ?_
  refine V.cp h20 ((i : Int) < ((l.length : Nat) : Int)) (fun ht21 => ?_) (fun ht21 => ?_)
  ·
   refine V.skip ?_
   refine V.then_n (k17 _ _ ?_)
   refine V.seq fun K22 k23 => ?_
   refine V.block ?_
   obtain ⟨g26, o27, hA28, hA28l, hA28z⟩ := hSl_14.addr (by omega)
   obtain ⟨cs29, hok30, hE31⟩ := hSl_14.els hA28 (i : Int) (by omega) (by omega)
   obtain ⟨Al32, cl33, Az34, cz35, Ah36, ch37, rfl, hS38, hS39, hS40⟩ := en_open hok30
   refine V.sr h20 [(2, .ix g26 o27 l.length cl .i64 (i : Int) 7 hA28), (1, .l ⟨g26, o27 + (i : Int).toNat * 7, none⟩ (.string ((at_ enR l (i : Int)).key)) (hE31.at 0 rfl)), (1, .seq ((at_ enR l (i : Int)).key) key2)] 12 17 [(18, .bool (decide (((at_ enR l (i : Int)).key) = key2)))] fun a h41 => ?_
   refine V.cp h41 (((at_ enR l (i : Int)).key) = key2) (fun ht42 => ?_) (fun ht42 => ?_)
   ·
    refine V.sr h41 [] 19 19 [(4, .int .i64 (i : Int))] fun a h45 => ?_
    refine V.ret (V.blk_r (V.then_r (V.then_r (V.blk_r (V.then_r ?_)))))
    refine V.r1 h45 (.int .i64 (i : Int)) ?_
    exact ⟨congrArg (fun b => Ending.returned (Value.int .i64 b)) (plN_at (by omega) ht42 hG).symm, hF_13⟩
   ·
    refine V.skip (V.blk_n ?_)
    refine V.then_n (k23 _ _ ?_)
    refine V.rr h41 [(1, .i ((i : Int) + 1))] 10 11 [(5, .int .i64 ((i : Int) + 1))] fun a h46 => ?_
    refine V.then_n ?_
    refine ⟨i + 1, by omega, ?_⟩
    refine ⟨(h46.eq 5 (v := (.int .i64 ((i : Int) + 1))) (u := (.int .i64 ((i + 1) : Int))) (V.int_eq (by omega))).only _, hF_13, hSl_14, (by omega), (hG.step (by unfold gK; exact ht42))⟩
  ·
   refine V.exit (V.then_e (V.then_e (V.blk_hit ?_)))
   refine V.then_n (k6 _ _ ?_)
   refine V.sr h20 [] 1 0 [(4, .int .i64 (-1))] fun a h49 => ?_
   refine V.ret ?_
   refine V.r1 h49 (.int .i64 (-1)) ?_
   exact ⟨congrArg (fun b => Ending.returned (Value.int .i64 b)) (plN_no (hG.le (by omega))).symm, hF_13⟩
theorem find_any (w : World) (Al : Option Addr) (cl : Nat) (l : List EnD) (hSl : SlR enR (fun k => k < w.heap.size) w (.slice Al l.length cl) l) (key2 : ByteArray) (hsm : ∀ x ∈ l, smE x) : Calls Tryz.prog 26 #[.slice Al l.length cl, .string key2] w (fun e w' => ∃ key k sv Al nl cl Az nz cz Ah nh ch t, e = .returned (.tuple #[.agg #[.string key, .int .i64 k, .string sv, .slice Al nl cl, .slice Az nz cz, .slice Ah nh ch, .int .i64 t], .bool (decide (¬ plN l key2 < 0))]) ∧ Fr [] w w' ∧ enR.ok (fun k => k < w'.heap.size) w' (fdE l key2) [.string key, .int .i64 k, .string sv, .slice Al nl cl, .slice Az nz cz, .slice Ah nh ch, .int .i64 t]) := by
 have hF := Fr.refl [] w
 have hlen0 := hSl.len_le
 have hlen1 := hSl.cp.2
 refine V.en 21 Tryz.func26 fun a h1 => ?_
 refine V.sg fun K2 k3 => ?_
 refine V.go (V.mk [] trivial (by kernel_rfl) [.string ⟨#[]⟩, .int .i64 0, .string ⟨#[]⟩, .slice none 0 0, .slice none 0 0, .slice none 0 0, .int .i64 0] 55 (fun b => .pointer (some ⟨b, 0, none⟩)) (by kernel_rfl) ?_)
 intro w5 b4 heb4 hB6 hF7 hsb4
 have hF_8 := hF.new hF7
 have hSl_9 := hSl.fr0 hF7
 refine V.pt h1 fun a h10 => ?_
 refine V.re h10 [] 5 5 [] fun a h11 => k3 _ _ ?_
 refine V.sg fun K12 k13 => ?_
 refine V.run h11 [] 2 1 0 [(7, .slice Al l.length cl), (8, .string key2)] fun a h14 => ?_
 refine V.cl h14 (Go.Proofs.enters_of Tryz.func66 (by kernel_rfl) rfl) (place_any w5 Al cl l hSl_9.old key2) ?_
 rintro _ w16 ⟨rfl, hF15⟩
 refine ⟨_, rfl, fun a h17 => ?_⟩
 have hsw16 := hF15.size
 have hF_18 := hF_8.new hF15
 have hSl_19 := hSl_9.fr0 hF15
 have hB6_20 := hB6.fr0 hF15
 refine V.re h17 [] 1 0 [(6, .int .i64 (plN l key2))] fun a h21 => k13 _ _ ?_
 refine V.seq fun K22 k23 => ?_
 refine V.sr h21 [] 10 10 [(11, .bool (decide ((plN l key2) < 0)))] fun a h26 => ?_
 refine V.cp h26 ((plN l key2) < 0) (fun ht27 => ?_) (fun ht27 => ?_)
 ·
  refine V.sg fun K28 k29 => ?_
  refine V.run h26 [] 1 1 0 [(12, .agg #[.string ⟨#[]⟩, .int .i64 0, .string ⟨#[]⟩, .slice none 0 0, .slice none 0 0, .slice none 0 0, .int .i64 0])] fun a h33 => ?_
  refine V.go (V.stn b4 0 (.agg #[.string ⟨#[]⟩, .int .i64 0, .string ⟨#[]⟩, .slice none 0 0, .slice none 0 0, .slice none 0 0, .int .i64 0]) [.string ⟨#[]⟩, .int .i64 0, .string ⟨#[]⟩, .slice none 0 0, .slice none 0 0, .slice none 0 0, .int .i64 0] h33.e h33.e rfl rfl (by kernel_rfl) hB6_20 (by simp) [.string ⟨#[]⟩, .int .i64 0, .string ⟨#[]⟩, .slice none 0 0, .slice none 0 0, .slice none 0 0, .int .i64 0] rfl ?_)
  intro w30 hB31 hF32 hsw30
  have hF_34 := hF_18.own hF32 (by simp <;> omega)
  refine V.re h33 [] 1 0 [(5, .bool false)] fun a h36 => k29 _ _ ?_
  refine V.ret (V.then_r ?_)
  refine V.retCT h36.sd rfl _ (h36.e (v := (.pointer (some ⟨b4, 0, none⟩)))) (V.run_loadVar_agg (cs := [.string ⟨#[]⟩, .int .i64 0, .string ⟨#[]⟩, .slice none 0 0, .slice none 0 0, .slice none 0 0, .int .i64 0]) (by kernel_rfl) (blk_cells hB31 0 _ rfl)) (h36.e (v := (.bool false))) ?_
  exact ⟨_, _, _, _, _, _, _, _, _, _, _, _, _, congrArg (fun b => Ending.returned (Value.tuple #[.agg #[.string ⟨#[]⟩, .int .i64 0, .string ⟨#[]⟩, .slice none 0 0, .slice none 0 0, .slice none 0 0, .int .i64 0], Value.bool b])) (decide_eq_false (by omega)).symm, hF_34, (fd_no (by assumption)).symm ▸ (⟨_, _, _, rfl, SlR.nil _ _ _, SlR.nil _ _ _, SlR.nil _ _ _⟩ : enR.ok _ _ enR.dflt _)⟩
 ·
  refine V.skip ?_
  refine V.then_n (k23 _ _ ?_)
  refine V.seq fun K37 k38 => ?_
  obtain ⟨i, hpi, hil, hik⟩ := plN_lt (l := l) (key := key2) (by assumption)
  have h39 := h26.eq 6 (v := (.int .i64 (plN l key2))) (u := (.int .i64 (i : Int))) (V.int_eq (by omega))
  have hS40 := (hSl_19.dr (i := i) (by omega)).tk (i := (i + 1) - i) (by rw [List.length_drop]; omega)
  refine V.rg ?_
  refine V.run h39 [(3, .i ((i : Int) + 1)), (0, .cut2 Al l.length cl (i : Int) ((i : Int) + 1) i (i + 1) 7)] 5 13 16 [(17, .slice (cutA Al i cl 7) ((i + 1) - i) (cl - i))] fun a h41 => ?_
  refine V.cl h41 (Go.Proofs.enters_of Tryz.func62 (by kernel_rfl) rfl) (owned_any w16 (cutA Al i cl 7) (cl - i) ((i + 1) - i) ((l.drop i).take ((i + 1) - i)) (by first | rfl | (simp only [List.length_take, List.length_drop]; omega)) hS40.old (by simp only [List.length_take, List.length_drop]; omega) (fun y hy => hsm y (List.mem_of_mem_drop (List.mem_of_mem_take hy)))) ?_
  rintro _ w51 ⟨A42, c43, qs44, rfl, hd45, hO46, hP47, hF48⟩
  refine ⟨_, rfl, fun a h52 => ?_⟩
  have hsw51 := hF48.size
  have hF_53 := hF_18.new hF48
  have hB6_55 := hB6_20.fr0 hF48
  have hql50 : qs44.length = ((i + 1) - i) := by rw [← datE_len, hd45]; simp only [List.length_take, List.length_drop]; omega
  have hS49 := hO46.read (Z' := fun k => w16.heap.size ≤ k) (fun _ _ h => h.elim) (fun _ h _ => h)
  obtain ⟨g57, o58, hA59, hA59l, hA59z⟩ := hS49.addr (by omega)
  try dsimp only at hA59z
  obtain ⟨cs60, hok61, hE62⟩ := hS49.els hA59 (0 : Int) (by omega) (by omega)
  obtain rfl : cs60 = entC (at_ prE qs44 (0 : Int)).1 := hok61
  obtain ⟨Al63, cl64, Az65, cz66, Ah67, ch68, hq69, hS70, hS71, hS72⟩ := en_open (hP47 (at_ prE qs44 (0 : Int)) (at_in prE (i := 0) (by omega)))
  rw [hq69] at hE62
  replace hS70 := hS70.zone (Z' := fun k => w16.heap.size ≤ k ∧ k < w51.heap.size) (fun k _ hz => ⟨hz.1, hz.2.1⟩)
  replace hS71 := hS71.zone (Z' := fun k => w16.heap.size ≤ k ∧ k < w51.heap.size) (fun k _ hz => ⟨hz.1, hz.2.1⟩)
  replace hS72 := hS72.zone (Z' := fun k => w16.heap.size ≤ k ∧ k < w51.heap.size) (fun k _ hz => ⟨hz.1, hz.2.1⟩)
  refine V.run h52 [(0, .ix g57 o58 qs44.length c43 .i64 0 7 hA59), (0, .ls ⟨g57, o58 + (0 : Int).toNat * 7, none⟩ [.string ((at_ prE qs44 (0 : Int)).2.key), .int .i64 ((at_ prE qs44 (0 : Int)).2.k), .string ((at_ prE qs44 (0 : Int)).2.s), .slice Al63 ((at_ prE qs44 (0 : Int)).2.l.length) cl64, .slice Az65 ((at_ prE qs44 (0 : Int)).2.z.length) cz66, .slice Ah67 ((at_ prE qs44 (0 : Int)).2.h.length) ch68, .int .i64 ((at_ prE qs44 (0 : Int)).2.till)] (hE62.cells 0 _ rfl))] 2 19 19 [(20, .agg #[.string ((at_ prE qs44 (0 : Int)).2.key), .int .i64 ((at_ prE qs44 (0 : Int)).2.k), .string ((at_ prE qs44 (0 : Int)).2.s), .slice Al63 ((at_ prE qs44 (0 : Int)).2.l.length) cl64, .slice Az65 ((at_ prE qs44 (0 : Int)).2.z.length) cz66, .slice Ah67 ((at_ prE qs44 (0 : Int)).2.h.length) ch68, .int .i64 ((at_ prE qs44 (0 : Int)).2.till)])] fun a h76 => ?_
  refine V.go (V.stn b4 0 (.agg #[.string ((at_ prE qs44 (0 : Int)).2.key), .int .i64 ((at_ prE qs44 (0 : Int)).2.k), .string ((at_ prE qs44 (0 : Int)).2.s), .slice Al63 ((at_ prE qs44 (0 : Int)).2.l.length) cl64, .slice Az65 ((at_ prE qs44 (0 : Int)).2.z.length) cz66, .slice Ah67 ((at_ prE qs44 (0 : Int)).2.h.length) ch68, .int .i64 ((at_ prE qs44 (0 : Int)).2.till)]) [.string ((at_ prE qs44 (0 : Int)).2.key), .int .i64 ((at_ prE qs44 (0 : Int)).2.k), .string ((at_ prE qs44 (0 : Int)).2.s), .slice Al63 ((at_ prE qs44 (0 : Int)).2.l.length) cl64, .slice Az65 ((at_ prE qs44 (0 : Int)).2.z.length) cz66, .slice Ah67 ((at_ prE qs44 (0 : Int)).2.h.length) ch68, .int .i64 ((at_ prE qs44 (0 : Int)).2.till)] h76.e h76.e rfl rfl (by kernel_rfl) hB6_55 (by simp) [.string ((at_ prE qs44 (0 : Int)).2.key), .int .i64 ((at_ prE qs44 (0 : Int)).2.k), .string ((at_ prE qs44 (0 : Int)).2.s), .slice Al63 ((at_ prE qs44 (0 : Int)).2.l.length) cl64, .slice Az65 ((at_ prE qs44 (0 : Int)).2.z.length) cz66, .slice Ah67 ((at_ prE qs44 (0 : Int)).2.h.length) ch68, .int .i64 ((at_ prE qs44 (0 : Int)).2.till)] rfl ?_)
  intro w73 hB74 hF75 hsw73
  have hF_77 := hF_53.own hF75 (by simp <;> omega)
  have hS70_83 := hS70.fr hF75 (by simp <;> omega)
  have hS71_84 := hS71.fr hF75 (by simp <;> omega)
  have hS72_85 := hS72.fr hF75 (by simp <;> omega)
  refine V.re h76 [] 1 0 [(5, .bool true)] fun a h87 => k38 _ _ ?_
  refine V.ret ?_
  refine V.retCT h87.sd rfl _ (h87.e (v := (.pointer (some ⟨b4, 0, none⟩)))) (V.run_loadVar_agg (cs := [.string ((at_ prE qs44 (0 : Int)).2.key), .int .i64 ((at_ prE qs44 (0 : Int)).2.k), .string ((at_ prE qs44 (0 : Int)).2.s), .slice Al63 ((at_ prE qs44 (0 : Int)).2.l.length) cl64, .slice Az65 ((at_ prE qs44 (0 : Int)).2.z.length) cz66, .slice Ah67 ((at_ prE qs44 (0 : Int)).2.h.length) ch68, .int .i64 ((at_ prE qs44 (0 : Int)).2.till)]) (by kernel_rfl) (blk_cells hB74 0 _ rfl)) (h87.e (v := (.bool true))) ?_
  have hx := (fd_pick hd45 hil (by omega)).trans (fd_at hpi).symm
  exact ⟨_, _, _, _, _, _, _, _, _, _, _, _, _, congrArg (fun b => Ending.returned (Value.tuple #[.agg #[.string ((at_ prE qs44 (0 : Int)).2.key), .int .i64 ((at_ prE qs44 (0 : Int)).2.k), .string ((at_ prE qs44 (0 : Int)).2.s), .slice Al63 ((at_ prE qs44 (0 : Int)).2.l.length) cl64, .slice Az65 ((at_ prE qs44 (0 : Int)).2.z.length) cz66, .slice Ah67 ((at_ prE qs44 (0 : Int)).2.h.length) ch68, .int .i64 ((at_ prE qs44 (0 : Int)).2.till)], Value.bool b])) (decide_eq_true (by omega)).symm, hF_77, hx ▸ (⟨_, _, _, rfl, hS70_83.old, hS71_84.old, hS72_85.old⟩ : enR.ok _ _ ((at_ prE qs44 (0 : Int)).2) _)⟩
theorem rfind_any (w : World) (Al : Option Addr) (cl : Nat) (l : List EnD) (hSl : SlR enR (fun k => k < w.heap.size) w (.slice Al l.length cl) l) (key2 : ByteArray) : Calls Tryz.prog 27 #[.slice Al l.length cl, .string key2] w (fun e w' => ∃ key k sv Al nl cl Az nz cz Ah nh ch t, e = .returned (.tuple #[.agg #[.string key, .int .i64 k, .string sv, .slice Al nl cl, .slice Az nz cz, .slice Ah nh ch, .int .i64 t], .bool (decide (¬ plN l key2 < 0))]) ∧ Fr [] w w' ∧ enR.ok (fun k => k < w'.heap.size) w' (fdE l key2) [.string key, .int .i64 k, .string sv, .slice Al nl cl, .slice Az nz cz, .slice Ah nh ch, .int .i64 t]) := by
 have hF := Fr.refl [] w
 have hlen0 := hSl.len_le
 refine V.en 17 Tryz.func27 fun a h1 => ?_
 refine V.sg fun K2 k3 => ?_
 refine V.go (V.mk [] trivial (by kernel_rfl) [.string ⟨#[]⟩, .int .i64 0, .string ⟨#[]⟩, .slice none 0 0, .slice none 0 0, .slice none 0 0, .int .i64 0] 55 (fun b => .pointer (some ⟨b, 0, none⟩)) (by kernel_rfl) ?_)
 intro w5 b4 heb4 hB6 hF7 hsb4
 have hF_8 := hF.new hF7
 have hSl_9 := hSl.fr0 hF7
 refine V.pt h1 fun a h10 => ?_
 refine V.re h10 [] 5 5 [] fun a h11 => k3 _ _ ?_
 refine V.sg fun K12 k13 => ?_
 refine V.run h11 [] 2 1 0 [(7, .slice Al l.length cl), (8, .string key2)] fun a h14 => ?_
 refine V.cl h14 (Go.Proofs.enters_of Tryz.func67 (by kernel_rfl) rfl) (rplace_any w5 Al cl l hSl_9.old key2) ?_
 rintro _ w16 ⟨rfl, hF15⟩
 refine ⟨_, rfl, fun a h17 => ?_⟩
 have hsw16 := hF15.size
 have hF_18 := hF_8.new hF15
 have hSl_19 := hSl_9.fr0 hF15
 have hB6_20 := hB6.fr0 hF15
 refine V.re h17 [] 1 0 [(6, .int .i64 (plN l key2))] fun a h21 => k13 _ _ ?_
 refine V.seq fun K22 k23 => ?_
 refine V.sr h21 [] 10 10 [(11, .bool (decide ((plN l key2) < 0)))] fun a h26 => ?_
 refine V.cp h26 ((plN l key2) < 0) (fun ht27 => ?_) (fun ht27 => ?_)
 ·
  refine V.sg fun K28 k29 => ?_
  refine V.run h26 [] 1 1 0 [(12, .agg #[.string ⟨#[]⟩, .int .i64 0, .string ⟨#[]⟩, .slice none 0 0, .slice none 0 0, .slice none 0 0, .int .i64 0])] fun a h33 => ?_
  refine V.go (V.stn b4 0 (.agg #[.string ⟨#[]⟩, .int .i64 0, .string ⟨#[]⟩, .slice none 0 0, .slice none 0 0, .slice none 0 0, .int .i64 0]) [.string ⟨#[]⟩, .int .i64 0, .string ⟨#[]⟩, .slice none 0 0, .slice none 0 0, .slice none 0 0, .int .i64 0] h33.e h33.e rfl rfl (by kernel_rfl) hB6_20 (by simp) [.string ⟨#[]⟩, .int .i64 0, .string ⟨#[]⟩, .slice none 0 0, .slice none 0 0, .slice none 0 0, .int .i64 0] rfl ?_)
  intro w30 hB31 hF32 hsw30
  have hF_34 := hF_18.own hF32 (by simp <;> omega)
  refine V.re h33 [] 1 0 [(5, .bool false)] fun a h36 => k29 _ _ ?_
  refine V.ret (V.then_r ?_)
  refine V.retCT h36.sd rfl _ (h36.e (v := (.pointer (some ⟨b4, 0, none⟩)))) (V.run_loadVar_agg (cs := [.string ⟨#[]⟩, .int .i64 0, .string ⟨#[]⟩, .slice none 0 0, .slice none 0 0, .slice none 0 0, .int .i64 0]) (by kernel_rfl) (blk_cells hB31 0 _ rfl)) (h36.e (v := (.bool false))) ?_
  exact ⟨_, _, _, _, _, _, _, _, _, _, _, _, _, congrArg (fun b => Ending.returned (Value.tuple #[.agg #[.string ⟨#[]⟩, .int .i64 0, .string ⟨#[]⟩, .slice none 0 0, .slice none 0 0, .slice none 0 0, .int .i64 0], Value.bool b])) (decide_eq_false (by omega)).symm, hF_34, (fd_no (by assumption)).symm ▸ (⟨_, _, _, rfl, SlR.nil _ _ _, SlR.nil _ _ _, SlR.nil _ _ _⟩ : enR.ok _ _ enR.dflt _)⟩
 ·
  refine V.skip ?_
  refine V.then_n (k23 _ _ ?_)
  refine V.seq fun K37 k38 => ?_
  obtain ⟨i, hpi, hil, hik⟩ := plN_lt (l := l) (key := key2) (by assumption)
  have h39 := h26.eq 6 (v := (.int .i64 (plN l key2))) (u := (.int .i64 (i : Int))) (V.int_eq (by omega))
  obtain ⟨g40, o41, hA42, hA42l, hA42z⟩ := hSl_19.addr (by omega)
  obtain ⟨cs43, hok44, hE45⟩ := hSl_19.els hA42 (i : Int) (by omega) (by omega)
  obtain ⟨Al46, cl47, Az48, cz49, Ah50, ch51, rfl, hS52, hS53, hS54⟩ := en_open hok44
  refine V.rg ?_
  refine V.run h39 [(2, .ix g40 o41 l.length cl .i64 (i : Int) 7 hA42), (0, .ls ⟨g40, o41 + (i : Int).toNat * 7, none⟩ [.string ((at_ enR l (i : Int)).key), .int .i64 ((at_ enR l (i : Int)).k), .string ((at_ enR l (i : Int)).s), .slice Al46 ((at_ enR l (i : Int)).l.length) cl47, .slice Az48 ((at_ enR l (i : Int)).z.length) cz49, .slice Ah50 ((at_ enR l (i : Int)).h.length) ch51, .int .i64 ((at_ enR l (i : Int)).till)] (hE45.cells 0 _ rfl))] 4 13 15 [(16, .agg #[.string ((at_ enR l (i : Int)).key), .int .i64 ((at_ enR l (i : Int)).k), .string ((at_ enR l (i : Int)).s), .slice Al46 ((at_ enR l (i : Int)).l.length) cl47, .slice Az48 ((at_ enR l (i : Int)).z.length) cz49, .slice Ah50 ((at_ enR l (i : Int)).h.length) ch51, .int .i64 ((at_ enR l (i : Int)).till)])] fun a h58 => ?_
  refine V.go (V.stn b4 0 (.agg #[.string ((at_ enR l (i : Int)).key), .int .i64 ((at_ enR l (i : Int)).k), .string ((at_ enR l (i : Int)).s), .slice Al46 ((at_ enR l (i : Int)).l.length) cl47, .slice Az48 ((at_ enR l (i : Int)).z.length) cz49, .slice Ah50 ((at_ enR l (i : Int)).h.length) ch51, .int .i64 ((at_ enR l (i : Int)).till)]) [.string ((at_ enR l (i : Int)).key), .int .i64 ((at_ enR l (i : Int)).k), .string ((at_ enR l (i : Int)).s), .slice Al46 ((at_ enR l (i : Int)).l.length) cl47, .slice Az48 ((at_ enR l (i : Int)).z.length) cz49, .slice Ah50 ((at_ enR l (i : Int)).h.length) ch51, .int .i64 ((at_ enR l (i : Int)).till)] h58.e h58.e rfl rfl (by kernel_rfl) hB6_20 (by simp) [.string ((at_ enR l (i : Int)).key), .int .i64 ((at_ enR l (i : Int)).k), .string ((at_ enR l (i : Int)).s), .slice Al46 ((at_ enR l (i : Int)).l.length) cl47, .slice Az48 ((at_ enR l (i : Int)).z.length) cz49, .slice Ah50 ((at_ enR l (i : Int)).h.length) ch51, .int .i64 ((at_ enR l (i : Int)).till)] rfl ?_)
  intro w55 hB56 hF57 hsw55
  have hF_59 := hF_18.own hF57 (by simp <;> omega)
  have hS52_61 := hS52.fr hF57 (by simp <;> omega)
  have hS53_62 := hS53.fr hF57 (by simp <;> omega)
  have hS54_63 := hS54.fr hF57 (by simp <;> omega)
  refine V.re h58 [] 1 0 [(5, .bool true)] fun a h65 => k38 _ _ ?_
  refine V.ret ?_
  refine V.retCT h65.sd rfl _ (h65.e (v := (.pointer (some ⟨b4, 0, none⟩)))) (V.run_loadVar_agg (cs := [.string ((at_ enR l (i : Int)).key), .int .i64 ((at_ enR l (i : Int)).k), .string ((at_ enR l (i : Int)).s), .slice Al46 ((at_ enR l (i : Int)).l.length) cl47, .slice Az48 ((at_ enR l (i : Int)).z.length) cz49, .slice Ah50 ((at_ enR l (i : Int)).h.length) ch51, .int .i64 ((at_ enR l (i : Int)).till)]) (by kernel_rfl) (blk_cells hB56 0 _ rfl)) (h65.e (v := (.bool true))) ?_
  have hx := (fd_at hpi).symm
  exact ⟨_, _, _, _, _, _, _, _, _, _, _, _, _, congrArg (fun b => Ending.returned (Value.tuple #[.agg #[.string ((at_ enR l (i : Int)).key), .int .i64 ((at_ enR l (i : Int)).k), .string ((at_ enR l (i : Int)).s), .slice Al46 ((at_ enR l (i : Int)).l.length) cl47, .slice Az48 ((at_ enR l (i : Int)).z.length) cz49, .slice Ah50 ((at_ enR l (i : Int)).h.length) ch51, .int .i64 ((at_ enR l (i : Int)).till)], Value.bool b])) (decide_eq_true (by omega)).symm, hF_59, hx ▸ (⟨_, _, _, rfl, hS52_61.old, hS53_62.old, hS54_63.old⟩ : enR.ok _ _ (at_ enR l (i : Int)) _)⟩
end Go.Proofs.YtdebkbfnngkdlaaGreatDoor
end
section
namespace Go.V
end Go.V
end
section
namespace Go.V
open Go.Base Go.RowKit
set_option linter.unusedVariables false
set_option linter.unusedSimpArgs false
abbrev idV : Value → Value := fun v => v
abbrev nilS : Value := .slice none 0 0
/-- What turned lies among P's blocks, or is new. -/
structure FrP (P : Nat → Prop) (w w' : World) : Prop where
  os : w'.os = w.os
  tape : w'.tape = w.tape
  output : w'.output = w.output
  size : w.heap.size ≤ w'.heap.size
  block : ∀ k, k < w.heap.size → ¬ P k → w'.heap[k]? = w.heap[k]?
section
variable {P P' : Nat → Prop} {w w1 w2 : World} {l : List Nat}
theorem FrP.refl (P : Nat → Prop) (w : World) : FrP P w w := ⟨rfl, rfl, rfl, Nat.le_refl _, fun _ _ _ => rfl⟩
theorem FrP.of (f : Fr l w w1) : FrP (fun k => k ∈ l) w w1 := ⟨f.os, f.tape, f.output, f.size, fun k hk hn => f.block k hk hn⟩
theorem FrP.mono (h : FrP P w w1) (hs : ∀ k, P k → P' k) : FrP P' w w1 := ⟨h.os, h.tape, h.output, h.size, fun k hk hn => h.block k hk fun hp => hn (hs k hp)⟩
theorem FrP.fr (h : FrP P w w1) (hn : ∀ k, P k → w.heap.size ≤ k) : Fr [] w w1 := ⟨h.os, h.tape, h.output, h.size, fun k hk _ => h.block k hk fun hp => by have := hn k hp; omega⟩
theorem _root_.Go.Base.Blk.frP {b t : Nat} {cs : List Value} (h : Blk w b cs t) (f : FrP P w w1) (hb : ¬ P b) : Blk w1 b cs t := h.same (f.block b h.lt hb)
theorem SlR.frP {α : Type} {R : Rp α} {Z : Nat → Prop} {v : Value} {xs : List α} (h : SlR R Z w v xs) (f : FrP P w w1) (hz : ∀ k, Z k → ¬ P k) : SlR R Z w1 v xs :=
  h.mono (fun b hb hZ => ⟨hZ, f.block b hb (hz b hZ)⟩) f.size
theorem OwR.frP {α : Type} {R : Rp α} {base : Nat} {e : TypeId} {v : Value} {xs : List α} (h : OwR R NoZ w base e v xs) (f : FrP P w w1) (hv : ∀ b, v.ownBlock = some b → ¬ P b) : OwR R NoZ w1 base e v xs := by
  obtain ⟨cs, h1, h2, h3⟩ := h
  refine ⟨cs, ?_, h2.mono (fun b hb hz => hz.elim) f.size, h3⟩
  rcases h1.2 with ⟨rfl, hn⟩ | ⟨g, cap, cur, rfl, hg, hh, hr⟩
  · exact ⟨h1.1, .inl ⟨rfl, hn⟩⟩
  · exact ⟨h1.1, .inr ⟨g, cap, cur, rfl, hg, (f.block g (lt_of_block hh) (hv g rfl)).trans hh, hr⟩⟩
end
structure Bks {α : Type} (R : Rp α) (w : World) (e : TypeId) (H : Nat → Prop) (av : List Nat) (vs : List Value) (xs : List (List α)) : Prop where
  len : vs.length = xs.length
  own : ∀ (i : Nat) (v : Value), vs[i]? = some v → OwR R NoZ w 0 e v (xs.getD i [])
  nd : ∀ (i j : Nat) (u v : Value) (k : Nat), vs[i]? = some u → vs[j]? = some v → u.ownBlock = some k → v.ownBlock = some k → i = j
  hom : ∀ (i : Nat) (v : Value) (k : Nat), vs[i]? = some v → v.ownBlock = some k → k ∉ av ∧ H k
  avl : ∀ k ∈ av, k < w.heap.size
section
variable {α : Type} {R : Rp α} {w w1 : World} {e : TypeId} {H H' : Nat → Prop} {av av' : List Nat} {vs us : List Value} {xs ys : List (List α)} {l : List Nat} {i : Nat}
theorem Bks.frP {P : Nat → Prop} (h : Bks R w e H av vs xs) (f : FrP P w w1) (hl : ∀ k, P k → k ∈ av ∨ ¬ H k) : Bks R w1 e H av vs xs :=
  ⟨h.len, fun i v hv => (h.own i v hv).frP f fun b hb hp => (hl b hp).elim (h.hom i v b hv hb).1 fun hn => hn (h.hom i v b hv hb).2, h.nd, h.hom, fun k hk => Nat.lt_of_lt_of_le (h.avl k hk) f.size⟩
theorem Bks.fr (h : Bks R w e H av vs xs) (f : Fr l w w1) (hl : ∀ k ∈ l, k ∈ av) : Bks R w1 e H av vs xs := h.frP (FrP.of f) fun k hk => .inl (hl k hk)
theorem Bks.fr0 (h : Bks R w e H av vs xs) (f : Fr [] w w1) : Bks R w1 e H av vs xs := h.fr f fun k hk => by cases hk
theorem Bks.lt (h : Bks R w e H av vs xs) {v : Value} (hv : vs[i]? = some v) {k : Nat} (hk : v.ownBlock = some k) : k < w.heap.size := ((h.own i v hv).lt k hk).2
/-- A new block of another's is avoided. -/
theorem Bks.alloc (h : Bks R w e H av vs xs) (f : Fr [] w w1) {b : Nat} (hb : b = w.heap.size) (hlt : b < w1.heap.size) : Bks R w1 e H (b :: av) vs xs := by
  have h1 := h.fr0 f
  refine ⟨h1.len, h1.own, h1.nd, fun i v k hv hk => ⟨fun hm => ?_, (h1.hom i v k hv hk).2⟩, fun k hk => ?_⟩
  · rcases List.mem_cons.1 hm with rfl | hm
    · have := h.lt hv hk; omega
    · exact (h1.hom i v k hv hk).1 hm
  · rcases List.mem_cons.1 hk with rfl | hk
    · exact hlt
    · exact h1.avl k hk
theorem Bks.sub (h : Bks R w e H av vs xs) (hs : ∀ k ∈ av', k ∈ av) (hH : ∀ k, k < w.heap.size → k ∉ av → H k → H' k) : Bks R w e H' av' vs xs :=
  ⟨h.len, h.own, h.nd, fun i v k hv hk => ⟨fun hm => (h.hom i v k hv hk).1 (hs k hm), hH k (h.lt hv hk) (h.hom i v k hv hk).1 (h.hom i v k hv hk).2⟩, fun k hk => h.avl k (hs k hk)⟩
theorem Bks.get (h : Bks R w e H av vs xs) (hi : i < xs.length) (d : Value) : ∃ A c, vs.getD i d = .slice A (xs.getD i []).length c := by
  have hv : vs[i]? = some (vs.getD i d) := by
    rw [List.getD_eq_getElem?_getD, List.getElem?_eq_getElem (by rw [h.len]; exact hi)]; rfl
  exact (h.own i _ hv).slice
theorem Bks.get' (h : Bks R w e H av vs xs) (hi : i < xs.length) (d : Value) : vs[i]? = some (vs.getD i d) := by
  rw [List.getD_eq_getElem?_getD, List.getElem?_eq_getElem (by rw [h.len]; exact hi)]; rfl
/-- A slice of the row, read. -/
theorem Bks.sl (h : Bks R w e H av vs xs) (hi : i < xs.length) {d : Value} {v : Value} (hv : vs.getD i d = v) : SlR R (fun _ => True) w v (xs.getD i []) := by
  subst hv
  exact (h.own i _ (h.get' hi d)).read (fun _ _ h => h.elim) (fun _ _ _ => trivial)
theorem Bks.nil (R : Rp α) (w : World) (e : TypeId) (H : Nat → Prop) {av : List Nat} (hav : ∀ k ∈ av, k < w.heap.size) (n : Nat) : Bks R w e H av (List.replicate n nilS) (List.replicate n []) := by
  have hn : ∀ (i : Nat) (v : Value), (List.replicate n nilS)[i]? = some v → v = nilS := fun i v hv => List.eq_of_mem_replicate (List.mem_of_getElem? hv)
  refine ⟨by simp, fun i v hv => ?_, fun i j u v k hu hv hk => ?_, fun i v k hv hk => ?_, hav⟩
  · rw [hn i v hv]
    have : (List.replicate n ([] : List α)).getD i [] = [] := by
      rw [List.getD_eq_getElem?_getD, List.getElem?_replicate]; split <;> rfl
    rw [this]; exact OwR.nil _ _ _ _ _
  · rw [hn i u hu] at hk; cases hk
  · rw [hn i v hv] at hk; cases hk
theorem getD_set_self {β : Type} {l : List β} (hi : i < l.length) (v d : β) : (l.set i v).getD i d = v := by
  rw [List.getD_eq_getElem?_getD, List.getElem?_set_self hi]; rfl
theorem getD_set_ne {β : Type} {l : List β} {j : Nat} (h : i ≠ j) (v d : β) : (l.set i v).getD j d = l.getD j d := by
  rw [List.getD_eq_getElem?_getD, List.getElem?_set_ne h, ← List.getD_eq_getElem?_getD]
/-- One slice turned. -/
theorem Bks.upd (h : Bks R w e H av vs xs) (hi : i < xs.length) {v v' : Value} {x' : List α} (hv : vs[i]? = some v) (f : Fr v.ownBlock.toList w w1) (ho : OwR R NoZ w1 0 e v' x') (hat : v'.ownBlock = v.ownBlock ∨ v'.ownBlock = some w.heap.size ∨ v'.ownBlock = none) (hH : H w.heap.size) :
    Bks R w1 e H av (vs.set i v') (xs.set i x') := by
  have hil : i < vs.length := by rw [h.len]; exact hi
  have hset : ∀ (j : Nat) (u : Value), (vs.set i v')[j]? = some u → (j = i ∧ u = v') ∨ (j ≠ i ∧ vs[j]? = some u) := fun j u hu => by
    by_cases hj : j = i
    · subst hj; rw [List.getElem?_set_self hil] at hu; injection hu with hu; exact .inl ⟨rfl, hu.symm⟩
    · rw [List.getElem?_set_ne (fun e => hj e.symm)] at hu; exact .inr ⟨hj, hu⟩
  have hat' : ∀ k, v'.ownBlock = some k → v.ownBlock = some k ∨ k = w.heap.size := fun k hk => by
    rcases hat with h1 | h1 | h1
    · exact .inl (h1 ▸ hk)
    · rw [h1] at hk; injection hk with hk; exact .inr hk.symm
    · rw [h1] at hk; cases hk
  refine ⟨by simp [h.len], fun j u hu => ?_, fun j j' u u' k hu hu' hk hk' => ?_, fun j u k hu hk => ?_, fun k hk => Nat.lt_of_lt_of_le (h.avl k hk) f.size⟩
  · rcases hset j u hu with ⟨rfl, rfl⟩ | ⟨hj, hu⟩
    · rw [getD_set_self hi]; exact ho
    · rw [getD_set_ne (fun e => hj e.symm)]
      exact (h.own j u hu).fr f (fun b _ hz => hz.elim) fun b hb hm => by
        cases hv' : v.ownBlock with
        | none => rw [hv'] at hm; simp at hm
        | some q => rw [hv'] at hm; simp at hm; subst hm; exact hj (h.nd j i u v b hu hv hb hv')
  · rcases hset j u hu with ⟨rfl, rfl⟩ | ⟨hj, hu1⟩ <;> rcases hset j' u' hu' with ⟨rfl, rfl⟩ | ⟨hj', hu2⟩
    · rfl
    · exfalso
      rcases hat' k hk with h1 | rfl
      · exact hj' (h.nd j' j u' v k hu2 hv hk' h1)
      · exact Nat.lt_irrefl _ (h.lt hu2 hk')
    · exfalso
      rcases hat' k hk' with h1 | rfl
      · exact hj (h.nd j j' u v k hu1 hv hk h1)
      · exact Nat.lt_irrefl _ (h.lt hu1 hk)
    · exact h.nd j j' u u' k hu1 hu2 hk hk'
  · rcases hset j u hu with ⟨rfl, rfl⟩ | ⟨hj, hu⟩
    · rcases hat' k hk with h1 | rfl
      · exact h.hom j v k hv h1
      · exact ⟨fun hm => Nat.lt_irrefl _ (h.avl _ hm), hH⟩
    · exact h.hom j u k hu hk
/-- One slice is taken out: its block is avoided from now on. -/
theorem Bks.take (h : Bks R w e H av vs xs) (hi : i < xs.length) {v : Value} (hv : vs[i]? = some v) : Bks R w e H (v.ownBlock.toList ++ av) (vs.set i nilS) (xs.set i []) := by
  have hil : i < vs.length := by rw [h.len]; exact hi
  have hset : ∀ (j : Nat) (u : Value), (vs.set i nilS)[j]? = some u → (j = i ∧ u = nilS) ∨ (j ≠ i ∧ vs[j]? = some u) := fun j u hu => by
    by_cases hj : j = i
    · subst hj; rw [List.getElem?_set_self hil] at hu; injection hu with hu; exact .inl ⟨rfl, hu.symm⟩
    · rw [List.getElem?_set_ne (fun e => hj e.symm)] at hu; exact .inr ⟨hj, hu⟩
  refine ⟨by simp [h.len], fun j u hu => ?_, fun j j' u u' k hu hu' hk hk' => ?_, fun j u k hu hk => ?_, fun k hk => ?_⟩
  · rcases hset j u hu with ⟨rfl, rfl⟩ | ⟨hj, hu⟩
    · rw [getD_set_self hi]; exact OwR.nil _ _ _ _ _
    · rw [getD_set_ne (fun e => hj e.symm)]; exact h.own j u hu
  · rcases hset j u hu with ⟨rfl, rfl⟩ | ⟨hj, hu⟩
    · cases hk
    · rcases hset j' u' hu' with ⟨rfl, rfl⟩ | ⟨hj', hu'⟩
      · cases hk'
      · exact h.nd j j' u u' k hu hu' hk hk'
  · rcases hset j u hu with ⟨rfl, rfl⟩ | ⟨hj, hu⟩
    · cases hk
    · refine ⟨fun hm => ?_, (h.hom j u k hu hk).2⟩
      rcases List.mem_append.1 hm with hm | hm
      · cases hv' : v.ownBlock with
        | none => rw [hv'] at hm; simp at hm
        | some q => rw [hv'] at hm; simp at hm; subst hm; exact hj (h.nd j i u v k hu hv hk hv')
      · exact (h.hom j u k hu hk).1 hm
  · rcases List.mem_append.1 hk with hk | hk
    · cases hv' : v.ownBlock with
      | none => rw [hv'] at hk; simp at hk
      | some q => rw [hv'] at hk; simp at hk; subst hk; exact h.lt hv hv'
    · exact h.avl k hk
end
section
variable {α : Type} {R : Rp α} {w w1 : World} {e : TypeId} {H : Nat → Prop} {av : List Nat} {vs : List Value} {xs : List (List α)} {i : Nat}
variable {ro : Option Nat} {P : Program} {Q : Exit → Act → World → Prop} {a : Act} {ops : Array Oper} {rest : List Oper} {d : Option Tmp} {ty : TypeId} {pos : String} {aft : Array Edge} {g : Option (Nat × Bool)}
end
end Go.V
end
section
namespace Go.V
open Go.Base Go.RowKit
set_option linter.unusedVariables false
section
variable {ro : Option Nat} {P : Program} {Q : Exit → Act → World → Prop} {a : Act} {w : World} {ops : Array Oper} {rest : List Oper} {d : Option Tmp} {ty : TypeId} {pos : String} {aft : Array Edge} {g : Option (Nat × Bool)}
end
/-- A key's hash. -/
def hstep (h c : Nat) : Nat := (h ^^^ c) * 1099511628211 % 18446744073709551616
end Go.V
end
section
namespace Go.V
open Go.Base Go.RowKit
set_option linter.unusedVariables false
set_option linter.unusedSimpArgs false
/-! ### As data -/
structure Tb (α : Type) where
  seed : Nat
  a : List (List (ByteArray × α))
  b : List (List (ByteArray × α))
  moved : Nat
  n : Nat
section
variable {α : Type}
end
/-! ### In memory -/
section
variable {α : Type}
/-- What is in a row of buckets at rest. -/
structure TabN (tt te e : TypeId) (R : Rp (ByteArray × α)) (w : World) (H : Nat → Prop) (av : List Nat) (t gA : Nat) (vsA : List Value) (T : Tb α) : Prop where
  blk : Blk w t [.int .u64 (T.seed : Int), .slice (some ⟨gA, 0, none⟩) T.a.length T.a.length, .slice none 0 0, .int .i64 (T.moved : Int), .int .i64 (T.n : Int)] tt
  ra : Row idV w gA vsA te
  la : vsA.length = T.a.length
  bk : Bks R w e H (t :: gA :: av) (vsA ++ []) (T.a ++ [])
  ne : t ≠ gA
  pt : H t ∧ t ∉ av
  pg : H gA ∧ gA ∉ av
structure TabM (tt te e : TypeId) (R : Rp (ByteArray × α)) (w : World) (H : Nat → Prop) (av : List Nat) (t gA gB : Nat) (vsA vsB : List Value) (T : Tb α) : Prop where
  blk : Blk w t [.int .u64 (T.seed : Int), .slice (some ⟨gA, 0, none⟩) T.a.length T.a.length, .slice (some ⟨gB, 0, none⟩) T.b.length T.b.length, .int .i64 (T.moved : Int), .int .i64 (T.n : Int)] tt
  ra : Row idV w gA vsA te
  rb : Row idV w gB vsB te
  la : vsA.length = T.a.length
  lb : vsB.length = T.b.length
  bk : Bks R w e H (t :: gA :: gB :: av) (vsA ++ vsB) (T.a ++ T.b)
  ne : t ≠ gA
  ne2 : t ≠ gB
  ne3 : gA ≠ gB
  pt : H t ∧ t ∉ av
  pg : H gA ∧ gA ∉ av
  ph : H gB ∧ gB ∉ av
/-- What holds of every table that was made. -/
structure Tb.Ok (T : Tb α) : Prop where
  sd : T.seed < 18446744073709551616
  pa : 0 < T.a.length
  la : T.a.length ≤ 4398046511104
  lb : T.b.length ≤ 4398046511104
  mv : T.b.length ≠ 0 → T.moved < T.a.length
  mz : T.b.length = 0 → T.moved = 0
  nn : T.n ≤ 1099511627776
  cn : (T.a ++ T.b).flatten.length = T.n
  ks : (∀ (i : Nat), ∀ x ∈ T.a.getD i [], x.1.size ≤ 9223372036854775807) ∧ (∀ (i : Nat), ∀ x ∈ T.b.getD i [], x.1.size ≤ 9223372036854775807)
def TabX (tt te e : TypeId) (R : Rp (ByteArray × α)) (w : World) (H : Nat → Prop) (av : List Nat) (t : Nat) (T : Tb α) : Prop :=
  T.Ok ∧ ((T.b = [] ∧ ∃ gA vsA, TabN tt te e R w H av t gA vsA T) ∨ (T.b ≠ [] ∧ ∃ gA gB vsA vsB, TabM tt te e R w H av t gA gB vsA vsB T))
variable {tt te e : TypeId} {R : Rp (ByteArray × α)} {w w1 : World} {H H' P : Nat → Prop} {av av' : List Nat} {t gA gB : Nat} {vsA vsB : List Value} {T : Tb α}
theorem Row.frP {w w1 : World} {b tt : Nat} {xs : List Value} (h : Row idV w b xs tt) (f : FrP P w w1) (hb : ¬ P b) : Row idV w1 b xs tt := ⟨h.blk.frP f hb⟩
theorem TabN.frP (h : TabN tt te e R w H av t gA vsA T) (f : FrP P w w1) (hl : ∀ k, P k → k ∈ av ∨ ¬ H k) : TabN tt te e R w1 H av t gA vsA T := by
  have hn : ∀ b, H b ∧ b ∉ av → ¬ P b := fun b hb hp => (hl b hp).elim hb.2 fun q => q hb.1
  exact ⟨h.blk.frP f (hn _ h.pt), h.ra.frP f (hn _ h.pg), h.la, h.bk.frP f fun k hk => (hl k hk).imp (by intro q; simp [q]) id, h.ne, h.pt, h.pg⟩
theorem TabM.frP (h : TabM tt te e R w H av t gA gB vsA vsB T) (f : FrP P w w1) (hl : ∀ k, P k → k ∈ av ∨ ¬ H k) : TabM tt te e R w1 H av t gA gB vsA vsB T := by
  have hn : ∀ b, H b ∧ b ∉ av → ¬ P b := fun b hb hp => (hl b hp).elim hb.2 fun q => q hb.1
  exact ⟨h.blk.frP f (hn _ h.pt), h.ra.frP f (hn _ h.pg), h.rb.frP f (hn _ h.ph), h.la, h.lb, h.bk.frP f fun k hk => (hl k hk).imp (by intro q; simp [q]) id, h.ne, h.ne2, h.ne3, h.pt, h.pg, h.ph⟩
theorem TabX.frP (h : TabX tt te e R w H av t T) (f : FrP P w w1) (hl : ∀ k, P k → k ∈ av ∨ ¬ H k) : TabX tt te e R w1 H av t T :=
  ⟨h.1, h.2.imp (fun ⟨hb, gA, vsA, h⟩ => ⟨hb, gA, vsA, h.frP f hl⟩) fun ⟨hb, gA, gB, vsA, vsB, h⟩ => ⟨hb, gA, gB, vsA, vsB, h.frP f hl⟩⟩
theorem TabX.fr (h : TabX tt te e R w H av t T) {l : List Nat} (f : Fr l w w1) (hl : ∀ k ∈ l, k ∈ av ∨ ¬ H k) : TabX tt te e R w1 H av t T := h.frP (FrP.of f) hl
theorem TabX.fr0 (h : TabX tt te e R w H av t T) (f : Fr [] w w1) : TabX tt te e R w1 H av t T := h.fr f fun k hk => by cases hk
theorem TabX.alloc (h : TabX tt te e R w H av t T) (f : Fr [] w w1) {b : Nat} (hb : b = w.heap.size) (hlt : b < w1.heap.size) : TabX tt te e R w1 H (b :: av) t T := by
  have hne : ∀ x, x < w.heap.size → ¬ x = b := fun x hx e => by omega
  have hperm : ∀ {x y : Nat} {l : List Nat}, ∀ k ∈ x :: y :: b :: l, k ∈ b :: x :: y :: l := by intro x y l k hk; simp at hk ⊢; rcases hk with h | h | h | h <;> simp [h]
  refine ⟨h.1, h.2.imp (fun ⟨he, gA, vsA, h⟩ => ⟨he, gA, vsA, ?_⟩) fun ⟨he, gA, gB, vsA, vsB, h⟩ => ⟨he, gA, gB, vsA, vsB, ?_⟩⟩
  · have ht := h.blk.lt
    have hg := h.ra.lt
    exact ⟨h.blk.fr0 f, h.ra.fr0 f, h.la, (h.bk.alloc f hb hlt).sub hperm (fun k _ _ q => q), h.ne, ⟨h.pt.1, by simp [hne t ht, h.pt.2]⟩, ⟨h.pg.1, by simp [hne gA hg, h.pg.2]⟩⟩
  · have ht := h.blk.lt
    have hg := h.ra.lt
    have hg2 := h.rb.lt
    refine ⟨h.blk.fr0 f, h.ra.fr0 f, h.rb.fr0 f, h.la, h.lb, (h.bk.alloc f hb hlt).sub (fun k hk => ?_) (fun k _ _ q => q), h.ne, h.ne2, h.ne3, ⟨h.pt.1, by simp [hne t ht, h.pt.2]⟩, ⟨h.pg.1, by simp [hne gA hg, h.pg.2]⟩, ⟨h.ph.1, by simp [hne gB hg2, h.ph.2]⟩⟩
    simp at hk ⊢
    rcases hk with h | h | h | h | h <;> simp [h]
theorem TabX.sub (h : TabX tt te e R w H av t T) (hs : ∀ k ∈ av', k ∈ av) (hH : ∀ k, k < w.heap.size → H k → H' k) : TabX tt te e R w H' av' t T := by
  refine ⟨h.1, h.2.imp (fun ⟨he, gA, vsA, h⟩ => ⟨he, gA, vsA, ?_⟩) fun ⟨he, gA, gB, vsA, vsB, h⟩ => ⟨he, gA, gB, vsA, vsB, ?_⟩⟩
  · exact ⟨h.blk, h.ra, h.la, h.bk.sub (fun k hk => by simp at hk ⊢; exact hk.imp id (Or.imp id (hs k))) (fun k hk _ q => hH k hk q), h.ne, ⟨hH _ h.blk.lt h.pt.1, fun hm => h.pt.2 (hs _ hm)⟩, ⟨hH _ h.ra.lt h.pg.1, fun hm => h.pg.2 (hs _ hm)⟩⟩
  · exact ⟨h.blk, h.ra, h.rb, h.la, h.lb, h.bk.sub (fun k hk => by simp at hk ⊢; exact hk.imp id (Or.imp id (Or.imp id (hs k)))) (fun k hk _ q => hH k hk q), h.ne, h.ne2, h.ne3, ⟨hH _ h.blk.lt h.pt.1, fun hm => h.pt.2 (hs _ hm)⟩, ⟨hH _ h.ra.lt h.pg.1, fun hm => h.pg.2 (hs _ hm)⟩, ⟨hH _ h.rb.lt h.ph.1, fun hm => h.ph.2 (hs _ hm)⟩⟩
theorem TabX.lt (h : TabX tt te e R w H av t T) : t < w.heap.size := by
  rcases h.2 with ⟨_, gA, vsA, h⟩ | ⟨_, gA, gB, vsA, vsB, h⟩
  · exact h.blk.lt
  · exact h.blk.lt
theorem TabX.pt (h : TabX tt te e R w H av t T) : H t ∧ t ∉ av := by
  rcases h.2 with ⟨_, gA, vsA, h⟩ | ⟨_, gA, gB, vsA, vsB, h⟩
  · exact h.pt
  · exact h.pt
end
/-! ### Two rows' slices in one -/
section
variable {α : Type} {R : Rp α} {w w1 : World} {e : TypeId} {H : Nat → Prop} {av : List Nat} {vsA vsB : List Value} {xa xb : List (List α)} {i : Nat} {d v : Value}
variable {ro : Option Nat} {P : Program} {Q : Exit → Act → World → Prop} {a : Act} {ops : Array Oper} {rest : List Oper} {d' : Option Tmp} {ty : TypeId} {pos : String} {aft : Array Edge} {g : Option (Nat × Bool)}
end
end Go.V
end
section
namespace Go.V
open Go.Base Go.RowKit
set_option linter.unusedVariables false
section
variable {α : Type} {R : Rp α} {w w1 : World}
end
section
variable {α : Type} {R : Rp α} {w : World} {e : TypeId} {H : Nat → Prop} {av : List Nat} {vs vsA vsB : List Value} {xs xa xb : List (List α)} {i j f : Nat} {d v : Value}
variable {ro : Option Nat} {P : Program} {Q : Exit → Act → World → Prop} {a : Act} {ops : Array Oper} {rest : List Oper} {ty : TypeId} {pos : String} {aft : Array Edge} {g : Option (Nat × Bool)}
end
end Go.V
end
section
namespace Go.V
open Go.Base Go.RowKit
set_option linter.unusedVariables false
set_option linter.unusedSimpArgs false
theorem over_take : ∀ (vs cs : List Value) (off n : Nat), n ≤ off → (over cs off vs).take n = cs.take n
  | [], cs, off, n, h => rfl
  | v :: vs, cs, off, n, h => by
    show (over (cs.set off v) (off + 1) vs).take n = cs.take n
    rw [over_take vs _ _ _ (by omega)]
    apply List.ext_getElem?
    intro i
    rw [List.getElem?_take, List.getElem?_take]
    split
    · rw [List.getElem?_set_ne (by omega)]
    · rfl
theorem zero1 (z : Array Value) : (Builtin.zeroCells z 1).toList = z.toList := by
  unfold Builtin.zeroCells
  apply List.ext_getElem
  · simp
  · intro i h1 h2
    simp at h1
    simp [Nat.mod_eq_of_lt h1, h1]
section
variable {ro : Option Nat} {P : Program} {Q : Exit → Act → World → Prop} {a : Act} {w : World} {ops : Array Oper} {rest : List Oper} {d : Option Tmp} {ty : TypeId} {pos : String} {aft : Array Edge} {gd : Option (Nat × Bool)}
theorem slc {t e : TypeId} {x : Operand} {lo hi mx : Option Operand} {sz : Nat} (g o n c l h m : Nat) (hx : a.eval x = .slice (some ⟨g, o, none⟩) n c)
    (hl : match lo with | some q => ∃ k, a.eval q = .int k (l : Int) | none => l = 0) (hh : match hi with | some q => ∃ k, a.eval q = .int k (h : Int) | none => h = n ∧ mx = none) (hm : match mx with | some q => ∃ k, a.eval q = .int k (m : Int) | none => m = c)
    (h1 : l ≤ h) (h2 : h ≤ m) (h3 : m ≤ c) (ht : P.underlying t = some (.slice e)) (hs : (P.info? e).map (·.size) = some sz)
    (k : ∀ ad : Addr, (m ≠ l → ad = ⟨g, o + l * sz, none⟩) → (l = 0 → ad = ⟨g, o, none⟩) → L ro P ops Q rest (a.put d (.slice (some ad) (h - l) (m - l))) w) : St ro P ops Q rest ⟨d, .slice t x lo hi mx, ty, pos, aft, gd⟩ a w := by
  obtain ⟨i, hi', hsz⟩ := Option.map_eq_some_iff.1 hs
  have hb : (Instr.sliceBounds true n c (lo.map a.eval) (hi.map a.eval) (mx.map a.eval)).run P w = .ok (l, h, m) w := by
    unfold Instr.sliceBounds
    cases mx with
    | none =>
      subst hm
      cases hi with
      | none =>
        obtain ⟨rfl, _⟩ := hh
        cases lo with
        | none => subst hl; simp [Sem.run_bind]
        | some q =>
          obtain ⟨kk, hq⟩ := hl
          simp [Sem.run_bind, hq, Instr.sliceBound, asIntOf, h1]
      | some p =>
        obtain ⟨kp, hp⟩ := hh
        cases lo with
        | none => subst hl; simp [Sem.run_bind, hp, Instr.sliceBound, asIntOf, h2]
        | some q =>
          obtain ⟨kk, hq⟩ := hl
          simp [Sem.run_bind, hp, hq, Instr.sliceBound, asIntOf, h1, h2]
    | some r =>
      obtain ⟨kr, hr⟩ := hm
      cases hi with
      | none => cases hh.2
      | some p =>
        obtain ⟨kp, hp⟩ := hh
        cases lo with
        | none => subst hl; simp [Sem.run_bind, hp, hr, Instr.sliceBound, asIntOf, h2, h3]
        | some q =>
          obtain ⟨kk, hq⟩ := hl
          simp [Sem.run_bind, hp, hq, hr, Instr.sliceBound, asIntOf, h1, h2, h3]
  have hadd : (⟨g, o, none⟩ : Addr).add (l * sz) = ⟨g, o + l * sz, none⟩ := by unfold Addr.add; split <;> simp_all
  refine St.val (v := .slice (some (if m = l then ⟨g, o, none⟩ else ⟨g, o + l * sz, none⟩)) (h - l) (m - l)) (w' := w) ?_ (k _ (fun hne => by rw [if_neg hne]) (fun h0 => by subst h0; split <;> simp))
  simp only [execOp, hx]
  unfold Instr.sliceAt
  simp only [Sem.run_bind, run_underlying ht, Result.andThen_ok]
  unfold Instr.slice
  simp only [Sem.run_bind, run_underlying ht, Result.andThen_ok]
  rw [hb]
  simp only [Result.andThen_ok, sizeOf, typeInfo, run_program, Sem.run_bind, hi', hsz, Sem.run_pure]
  split <;> simp [hadd]
theorem appIn {α : Type} {R : Rp α} {base : Nat} {e t : TypeId} {s x : Operand} {xs : List α} {g n c i m c2 : Nat} (hO : OwR R NoZ w base e (.slice (some ⟨g, 0, none⟩) n c) xs) (hn : n = xs.length) (hin : i < n) (hm : m = n - (i + 1)) (ad : Addr) (had : m ≠ 0 → ad = ⟨g, (i + 1) * R.sz, none⟩)
    (hs : a.eval s = .slice (some ⟨g, 0, none⟩) i c) (hx : a.eval x = .slice (some ad) m c2) (ht : P.underlying t = some (.slice e)) (hinfo : (P.info? e).map (·.size) = some R.sz)
    (k : ∀ w1 cur, OwR R NoZ w1 base e (.slice (some ⟨g, 0, none⟩) (i + m) c) (xs.eraseIdx i) → Fr [g] w w1 → Blk w1 g cur e → cur.length = c * R.sz → L ro P ops Q rest (a.put d (.slice (some ⟨g, 0, none⟩) (i + m) c)) w1) : St ro P ops Q rest ⟨d, .call ⟨.builtin .append, #[s, x], #[t, t]⟩, ty, pos, aft, gd⟩ a w := by
  subst hn
  obtain ⟨cs, h1, h2, h3⟩ := hO
  obtain ⟨inf, hi, hsz⟩ := Option.map_eq_some_iff.1 hinfo
  have hcl := h2.length
  rcases h1.2 with ⟨h, _⟩ | ⟨g', cap, cur, he, hb, hh, hnc, hcm, hcs, htk⟩
  · cases h
  injection he with e1 e2 e3
  injection e1 with e1
  injection e1 with e1
  subst e1; subst e3
  have hil : i * R.sz ≤ cs.length := by rw [hcl]; exact Nat.mul_le_mul_right _ (by omega)
  have hil1 : (i + 1) * R.sz ≤ cs.length := by rw [hcl]; exact Nat.mul_le_mul_right _ (by omega)
  have hpre : w.ownsRow base e R.sz (.slice (some ⟨g, 0, none⟩) i c) i (cs.take (i * R.sz)) := by
    refine ⟨by rw [List.length_take]; omega, .inr ⟨g, c, cur, rfl, hb, hh, by omega, hcm, hcs, ?_⟩⟩
    rw [← htk, List.take_take]; congr 1
    have : i * R.sz ≤ xs.length * R.sz := Nat.mul_le_mul_right _ (by omega)
    omega
  have hnl : (cs.drop ((i + 1) * R.sz)).length = m * R.sz := by
    rw [List.length_drop, hcl, hm, Nat.sub_mul]
  have hcell : ∀ j u, (cs.drop ((i + 1) * R.sz))[j]? = some u → w.cell? (ad.add j) = some u := by
    intro j u hj
    have hlt : j < (cs.drop ((i + 1) * R.sz)).length := (List.getElem?_eq_some_iff.1 hj).1
    have hm0 : m ≠ 0 := by intro h0; rw [hnl, h0, Nat.zero_mul] at hlt; omega
    rw [had hm0, show (⟨g, (i + 1) * R.sz, none⟩ : Addr).add j = ⟨g, (i + 1) * R.sz + j, none⟩ by unfold Addr.add; split <;> simp_all]
    rw [List.getElem?_drop] at hj
    have := h1.cells (g := g) rfl ((i + 1) * R.sz + j) u hj
    rwa [Base.add_plain] at this
  have hone : ∀ u ∈ cs.drop ((i + 1) * R.sz), u.oneCell' = true := fun u hu => h2.one u (List.mem_of_mem_drop hu)
  obtain ⟨w1, hr, ho, hg⟩ := run_append_own_spare (P := P) w base t ty e inf R.sz ht hi hsz g i c (cs.take (i * R.sz)) hpre ad m c2 (cs.drop ((i + 1) * R.sz)) hnl hcell hone (by omega)
  have hf : Fr [g] w w1 := Fr.of_grown hg (fun k hk => by injection hk with hk; subst hk; simp)
  have hlen : (xs.eraseIdx i).length = i + m := by rw [List.length_eraseIdx_of_lt hin]; omega
  have herase : ∀ {xs : List α} {cs : List Value} {i : Nat}, Cells R NoZ w xs cs → i < xs.length → Cells R NoZ w (xs.eraseIdx i) (cs.take (i * R.sz) ++ cs.drop ((i + 1) * R.sz)) := by
    intro xs
    induction xs with
    | nil => intro cs i _ h; simp at h
    | cons y ys ih =>
      rintro cs i ⟨c', r, rfl, hok, hr⟩ hi
      have hl' := R.len hok
      cases i with
      | zero =>
        rw [List.eraseIdx_cons_zero, Nat.zero_mul, List.take_zero, List.nil_append, Nat.zero_add, Nat.one_mul, List.drop_append_of_le_length (by omega), List.drop_of_length_le (by omega), List.nil_append]
        exact hr
      | succ i =>
        rw [List.eraseIdx_cons_succ]
        refine ⟨c', r.take (i * R.sz) ++ r.drop ((i + 1) * R.sz), ?_, hok, ih hr (by simpa using hi)⟩
        rw [show (i + 1) * R.sz = c'.length + i * R.sz by rw [hl', Nat.add_mul]; omega, List.take_length_add_append]
        rw [show (i + 1 + 1) * R.sz = c'.length + (i + 1) * R.sz by rw [hl', Nat.add_mul (i + 1)]; omega, List.drop_length_add_append, List.append_assoc]
        congr 3
        rw [hl', Nat.add_mul]; omega
  have hOw : OwR R NoZ w1 base e (.slice (some ⟨g, 0, none⟩) (i + m) c) (xs.eraseIdx i) := ⟨_, by rw [hlen]; exact ho, (herase h2 hin).mono (fun b hb hz => hz.elim) hf.size, fun b hb hz => hz.elim⟩
  have hB1 : ∃ cur' : List Value, Blk w1 g cur' e ∧ cur'.length = c * R.sz := by
    rcases ho.2 with ⟨h, _⟩ | ⟨g', cap', cur', he', _, hh', _, _, hcs', _⟩
    · cases h
    · injection he' with e1 e2 e3
      injection e1 with e1
      injection e1 with e1
      subst e1; subst e3
      exact ⟨cur'.toList, by unfold Blk; rw [hh'], by rw [Array.length_toList, hcs']⟩
  obtain ⟨cur', hB1, hcl1⟩ := hB1
  have hrun : (execOp a.eval ⟨d, .call ⟨.builtin .append, #[s, x], #[t, t]⟩, ty, pos, aft, gd⟩).run P w = .ok (.value (.slice (some ⟨g, 0, none⟩) (i + m) c)) w1 := by
    simp only [execOp, resolve, invoke, builtin, Sem.run_bind, Sem.run_pure, Result.andThen_ok, List.map_toArray, List.map_cons, List.map_nil, hs, hx, hr]
  exact St.val hrun (k w1 cur' hOw hf hB1 hcl1)
/-- clear of the last element's cells, behind the slice. -/
theorem clr1 {α : Type} {R : Rp α} {base : Nat} {e t : TypeId} {x : Operand} {xs : List α} {g n c c2 : Nat} {z : Value} (hO : OwR R NoZ w base e (.slice (some ⟨g, 0, none⟩) n c) xs) (hn : n = xs.length) {cur : List Value} (hB : Blk w g cur e) (hcl : cur.length = c * R.sz) (hnc : n + 1 ≤ c)
    (hx : a.eval x = .slice (some ⟨g, 0 + n * R.sz, none⟩) 1 c2) (ht : P.underlying t = some (.slice e)) (hinfo : (P.info? e).map (fun i => (i.zero, i.size)) = some (some z, R.sz)) (hz : z.cells.toList.length = R.sz) (h1 : z.cells.toList.all Value.oneCell' = true)
    (k : ∀ w1, OwR R NoZ w1 base e (.slice (some ⟨g, 0, none⟩) n c) xs → Fr [g] w w1 → w1.heap.size = w.heap.size → L ro P ops Q rest a w1) : St ro P ops Q rest ⟨none, .call ⟨.builtin .clear, #[x], #[t]⟩, ty, pos, aft, gd⟩ a w := by
  subst hn
  obtain ⟨inf, hi, hzz⟩ := Option.map_eq_some_iff.1 hinfo
  simp only [Prod.mk.injEq] at hzz
  have hle : 0 + xs.length * R.sz + z.cells.toList.length ≤ cur.length := by rw [hcl, hz, Nat.zero_add, ← Nat.succ_mul]; exact Nat.mul_le_mul_right _ hnc
  obtain ⟨w1, hst, hB1, hF, hsz⟩ := run_storeCells (P := P) g e (0 + xs.length * R.sz) z.cells.toList 0 w cur (fun u hu => List.all_eq_true.1 h1 u hu) hB (by simpa using hle)
  have hO' := hO
  obtain ⟨cs, ho1, ho2, ho3⟩ := hO
  have hown : OwR R NoZ w1 base e (.slice (some ⟨g, 0, none⟩) xs.length c) xs := by
    refine ⟨cs, ⟨ho1.1, ?_⟩, ho2.mono (fun b hb hz => hz.elim) hF.size, fun b hb hz => hz.elim⟩
    rcases ho1.2 with ⟨h, _⟩ | ⟨g', cap, cur0, he, hb, hh, hnc', hcm, hcs, htk⟩
    · cases h
    injection he with e1 e2 e3
    injection e1 with e1
    injection e1 with e1
    subst e1; subst e3
    have hcur : cur0 = cur.toArray := by
      have hB' : w.heap[g]? = some (.cells cur.toArray e (0, 0)) := hB
      rw [hh] at hB'
      injection hB' with hB'
      injection hB' with hB'
    refine .inr ⟨g, c, _, rfl, hb, hB1, hnc', hcm, ?_, ?_⟩
    · rw [← hcs, hcur]; simp [over_length]
    · rw [List.toList_toArray, ← htk, hcur]
      rw [List.toList_toArray]
      have hadd0 : xs.length * R.sz + 0 = xs.length * R.sz := Nat.add_zero _
      rw [show 0 + xs.length * R.sz + 0 = xs.length * R.sz by omega] 
      exact over_take _ _ _ _ (Nat.le_refl _)
  have hzc := zero1 z.cells
  have hrun : (execOp a.eval ⟨none, .call ⟨.builtin .clear, #[x], #[t]⟩, ty, pos, aft, gd⟩).run P w = .ok (.value (.tuple #[])) w1 := by
    have hzv : ∀ w, (zeroValue e).run P w = .ok z w := fun w => by simp [zeroValue, typeInfo, hi, hzz.1, Sem.run_bind]
    simp only [execOp, resolve, invoke, builtin, Sem.run_bind, Sem.run_pure, Result.andThen_ok, List.map_toArray, List.map_cons, List.map_nil, hx, Builtin.clear_, run_underlying ht, hzv, hzc]
    simp only [List.getElem?_toArray, List.getElem?_cons_zero, Sem.run_bind, run_underlying ht, Result.andThen_ok, hzv, hzc, hst, Sem.run_pure]
  exact St.val hrun (k w1 hown hF hsz)
end
end Go.V
end
section
namespace Go.Proofs.YtdebkbfnngkdlaaGreatDoor
open Go.V Go.Base
open Go.RowKit (Below)
attribute [local irreducible] Act.put Act.eval
set_option linter.unusedVariables false
set_option linter.unusedSimpArgs false
set_option maxHeartbeats 4000000
set_option maxRecDepth 20000
/-! ### Delete -/
theorem info55c : (Tryz.prog.info? 55).map (fun i => (i.zero, i.size)) = some (some (.agg #[.string ⟨#[]⟩, .int .i64 0, .string ⟨#[]⟩, .slice none 0 0, .slice none 0 0, .slice none 0 0, .int .i64 0]), prE.sz) := by kernel_rfl
theorem placeQ_any (w : World) (base c : Nat) (A : Option Addr) (Z : Nat → Prop) (qs : List EnQ) (l : List EnD) (hd : datE qs = l) (hO : OwR prE NoZ w base 55 (.slice A qs.length c) qs) (hP : PsOk Z w qs) (key : ByteArray) :
    Calls Tryz.prog 66 #[.slice A qs.length c, .string key] w fun e w' => e = .returned (.int .i64 (plN l key)) ∧ Fr [] w w' := by
  subst hd
  have h := place_any w A c (datE qs) (by rw [datE_len]; exact OwR.dat hO hP) key
  rw [datE_len] at h
  exact h
def delL (l : List EnD) (key : ByteArray) : List EnD := if plN l key < 0 then l else l.eraseIdx (plN l key).toNat
theorem del_no {l : List EnD} {key : ByteArray} (h : plN l key < 0) : delL l key = l := if_pos h
theorem del_at {l : List EnD} {key : ByteArray} {i : Nat} (h : plN l key = i) : delL l key = l.eraseIdx i := by unfold delL; rw [if_neg (by omega), h, Int.toNat_natCast]
theorem dat_erase (qs : List EnQ) (i : Nat) : datE (qs.eraseIdx i) = (datE qs).eraseIdx i := by unfold datE; rw [List.eraseIdx_eq_take_drop_succ, List.eraseIdx_eq_take_drop_succ, List.map_append, List.map_take, List.map_drop]
theorem delg_any (w : World) (base g c i : Nat) (xs : List EnQ) (hO : OwR prE NoZ w base 55 (.slice (some ⟨g, 0, none⟩) xs.length c) xs) (hi : i < xs.length) (hc : xs.length ≤ c) (hl : xs.length ≤ 1099511627776) : Calls Tryz.prog 68 #[.slice (some ⟨g, 0, none⟩) xs.length c, .int .i64 (i : Int), .int .i64 ((i : Int) + 1)] w (fun e w' => e = .returned (.slice (some ⟨g, 0, none⟩) (xs.length - 1) c) ∧ OwR prE NoZ w' base 55 (.slice (some ⟨g, 0, none⟩) (xs.length - 1) c) (xs.eraseIdx i) ∧ Fr [g] w w') := by
 have hF := Fr.refl [g] w
 have herl : i + (xs.length - (i + 1)) = (xs.eraseIdx i).length := by rw [List.length_eraseIdx_of_lt hi]; omega
 refine V.en 33 Tryz.func68 fun a h1 => ?_
 refine V.sr h1 [] 6 6 [] fun a h4 => ?_
 refine V.sg fun K5 k6 => ?_
 refine V.run h4 [] 5 11 11 [(8, .slice (some ⟨g, 0, none⟩) xs.length c), (9, .int .i64 (i : Int)), (10, .int .i64 ((i : Int) + 1)), (12, .int .i64 ((xs.length : Nat) : Int))] fun a h7 => ?_
 refine V.go (V.slc (e := 55) (sz := 7) g 0 xs.length c i (i + 1) xs.length (h7.e (v := (.slice (some ⟨g, 0, none⟩) xs.length c))) ⟨_, ((h7.e (v := (.int .i64 (i : Int))))).trans (V.int_eq (by omega))⟩ ⟨_, ((h7.e (v := (.int .i64 ((i : Int) + 1))))).trans (V.int_eq (by omega))⟩ ⟨_, ((h7.e (v := (.int .i64 ((xs.length : Nat) : Int))))).trans (V.int_eq (by omega))⟩ (by omega) (by omega) (by omega) (by kernel_rfl) (by kernel_rfl) ?_)
 intro ad8 had9 hae10
 refine V.pt h7 fun a h11 => ?_
 refine V.nt (k6 _ _ ?_)
 refine V.seq fun K12 k13 => ?_
 refine V.sr h11 [(2, .eq (i : Int) ((i : Int) + 1))] 14 15 [(16, .bool (decide ((i : Int) = ((i : Int) + 1))))] fun a h16 => ?_
 refine V.cp h16 ((i : Int) = ((i : Int) + 1)) (fun ht17 => ?_) (fun ht17 => ?_)
 ·
  refine V.sr h16 [] 17 17 [(6, .slice (some ⟨g, 0, none⟩) xs.length c)] fun a h20 => ?_
  refine V.ret (V.then_r ?_)
  refine V.r1 h20 (.slice (some ⟨g, 0, none⟩) xs.length c) ?_
  exact absurd ht17 (by omega)
 ·
  refine V.skip ?_
  refine V.then_n (k13 _ _ ?_)
  refine V.sr h16 [] 18 19 [(7, .int .i64 ((xs.length : Nat) : Int))] fun a h23 => ?_
  refine V.seq fun K24 k25 => ?_
  refine V.pl [([0,1,2,3,4,5],some (6,[])),([7],none)] fun w26 hF27 hsw26 => ?_
  have hF_28 := hF.trans hF27 (by simp <;> omega)
  have hO_29 := hO.fr0 hF27
  refine V.pe0 ?_
  refine V.run h23 [] 2 1 0 [(20, .slice (some ⟨g, 0, none⟩) xs.length c), (21, .int .i64 (i : Int))] fun a h30 => ?_
  refine V.go (V.slc (e := 55) (sz := 7) g 0 xs.length c 0 i c (h30.e (v := (.slice (some ⟨g, 0, none⟩) xs.length c))) rfl ⟨_, ((h30.e (v := (.int .i64 (i : Int))))).trans (V.int_eq (by omega))⟩ rfl (by omega) (by omega) (by omega) (by kernel_rfl) (by kernel_rfl) ?_)
  intro ad31 had32 hae33
  obtain rfl := hae33 rfl
  refine V.pt h30 fun a h34 => ?_
  refine V.run h34 [] 2 1 0 [(23, .slice (some ⟨g, 0, none⟩) xs.length c), (24, .int .i64 ((i : Int) + 1))] fun a h35 => ?_
  refine V.go (V.slc (e := 55) (sz := 7) g 0 xs.length c (i + 1) xs.length c (h35.e (v := (.slice (some ⟨g, 0, none⟩) xs.length c))) ⟨_, ((h35.e (v := (.int .i64 ((i : Int) + 1))))).trans (V.int_eq (by omega))⟩ ⟨rfl, rfl⟩ rfl (by omega) (by omega) (by omega) (by kernel_rfl) (by kernel_rfl) ?_)
  intro ad36 had37 hae38
  refine V.pt h35 fun a h39 => ?_
  refine V.se h39 [] 1 0 [] fun a h40 => ?_
  refine V.go (V.appIn (R := prE) (i := i) (m := xs.length - (i + 1)) hO_29 rfl hi rfl ad36 (fun hq => by rw [had37 (by omega)]; exact congrArg (fun o => (⟨g, o, none⟩ : Addr)) (Nat.zero_add _)) (h40.e (v := (.slice (some ⟨g, 0, none⟩) (i - 0) (c - 0)))) (h40.e (v := (.slice (some ad36) (xs.length - (i + 1)) (c - (i + 1))))) (by kernel_rfl) (by kernel_rfl) ?_)
  intro w41 cur46 hO42 hF43 hB44 hcl45
  have hsw41 := hF43.size
  have hF_47 := hF_28.trans hF43 (by simp <;> omega)
  refine V.pt h40 fun a h48 => ?_
  refine V.eh trivial ?_
  refine V.pz h48 [] 1 0 [(0, .slice (some ⟨g, 0, none⟩) (i + (xs.length - (i + 1))) c)] fun a h49 => k25 _ _ ?_
  refine V.sg fun K50 k51 => ?_
  refine V.run h49 [] 4 28 28 [(27, .slice (some ⟨g, 0, none⟩) (i + (xs.length - (i + 1))) c), (29, .int .i64 (((i + (xs.length - (i + 1))) : Nat) : Int)), (30, .int .i64 ((xs.length : Nat) : Int))] fun a h52 => ?_
  refine V.go (V.slc (e := 55) (sz := 7) g 0 (i + (xs.length - (i + 1))) c (i + (xs.length - (i + 1))) xs.length c (h52.e (v := (.slice (some ⟨g, 0, none⟩) (i + (xs.length - (i + 1))) c))) ⟨_, ((h52.e (v := (.int .i64 (((i + (xs.length - (i + 1))) : Nat) : Int))))).trans (V.int_eq (by omega))⟩ ⟨_, ((h52.e (v := (.int .i64 ((xs.length : Nat) : Int))))).trans (V.int_eq (by omega))⟩ rfl (by omega) (by omega) (by omega) (by kernel_rfl) (by kernel_rfl) ?_)
  intro ad53 had54 hae55
  obtain rfl := had54 (by omega)
  refine V.pt h52 fun a h56 => ?_
  refine V.go (V.clr1 (R := prE) (n := i + (xs.length - (i + 1))) hO42 herl hB44 hcl45 (by omega) ((h56.e (v := (.slice (some ⟨g, 0 + (i + (xs.length - (i + 1))) * 7, none⟩) (xs.length - (i + (xs.length - (i + 1)))) (c - (i + (xs.length - (i + 1))))))).trans (V.sl_eq (by omega))) (by kernel_rfl) (info55c) rfl rfl ?_)
  intro w57 hO58 hF59 hsw57
  have hF_60 := hF_47.trans hF59 (by simp <;> omega)
  refine V.nt (k51 _ _ ?_)
  refine V.sr h56 [] 32 32 [(6, .slice (some ⟨g, 0, none⟩) (i + (xs.length - (i + 1))) c)] fun a h63 => ?_
  refine V.ret ?_
  refine V.r1 h63 (.slice (some ⟨g, 0, none⟩) (i + (xs.length - (i + 1))) c) ?_
  have hq1 : i + (xs.length - (i + 1)) = xs.length - 1 := by omega
  rw [hq1] at hO58 ⊢
  exact ⟨rfl, hO58, hF_60⟩
theorem del_any (w : World) (base c i : Nat) (A : Option Addr) (xs : List EnQ) (hO : OwR prE NoZ w base 55 (.slice A xs.length c) xs) (hi : i < xs.length) (hl : xs.length ≤ 1099511627776) :
    Calls Tryz.prog 68 #[.slice A xs.length c, .int .i64 (i : Int), .int .i64 ((i : Int) + 1)] w (fun e w' => e = .returned (.slice A (xs.length - 1) c) ∧ OwR prE NoZ w' base 55 (.slice A (xs.length - 1) c) (xs.eraseIdx i) ∧ Fr ((Value.slice A xs.length c).ownBlock.toList) w w') := by
  rcases hO.caseE with ⟨_, h0⟩ | ⟨g, c', he⟩
  · rw [h0] at hi; simp at hi
  · injection he with e1 e2 e3
    subst e1; subst e3
    exact (delg_any w base g c i xs hO hi hO.cap hl)
theorem dele_any (w : World) (Al : Option Addr) (cl : Nat) (l : List EnD) (hSl : SlR enR (fun k => k < w.heap.size) w (.slice Al l.length cl) l) (key2 : ByteArray) (hsm : ∀ x ∈ l, smE x) (hl : l.length ≤ 1099511627776) : Calls Tryz.prog 28 #[.slice Al l.length cl, .string key2] w (fun e w' => ∃ A' c', e = .returned (.tuple #[.slice A' (delL l key2).length c', .bool (decide (¬ plN l key2 < 0))]) ∧ SlR enR (fun k => k < w'.heap.size) w' (.slice A' (delL l key2).length c') (delL l key2) ∧ Fr [] w w') := by
 have hF := Fr.refl [] w
 have hlen0 := hSl.len_le
 refine V.en 21 Tryz.func28 fun a h1 => ?_
 refine V.sr h1 [] 4 5 [] fun a h4 => ?_
 refine V.sg fun K5 k6 => ?_
 refine V.run h4 [] 1 1 0 [(8, .slice Al l.length cl)] fun a h7 => ?_
 refine V.cl h7 (Go.Proofs.enters_of Tryz.func62 (by kernel_rfl) rfl) (owned_any w Al cl l.length l (by first | rfl | (simp only [List.length_take, List.length_drop]; omega)) hSl.old (by omega) hsm) ?_
 rintro _ w17 ⟨A8, c9, qs10, rfl, hd11, hO12, hP13, hF14⟩
 refine ⟨_, rfl, fun a h18 => ?_⟩
 have hsw17 := hF14.size
 have hF_19 := hF.new hF14
 have hql16 : qs10.length = l.length := by rw [← datE_len, hd11]
 have hS15 := hO12.read (Z' := fun k => w.heap.size ≤ k) (fun _ _ h => h.elim) (fun _ h _ => h)
 refine V.re h18 [] 1 0 [(6, .slice A8 qs10.length c9)] fun a h21 => k6 _ _ ?_
 refine V.sg fun K22 k23 => ?_
 refine V.run h21 [] 2 1 0 [(10, .slice A8 qs10.length c9), (11, .string key2)] fun a h24 => ?_
 refine V.cl h24 (Go.Proofs.enters_of Tryz.func66 (by kernel_rfl) rfl) (placeQ_any w17 w.heap.size c9 A8 _ qs10 l hd11 hO12 hP13 key2) ?_
 rintro _ w26 ⟨rfl, hF25⟩
 refine ⟨_, rfl, fun a h27 => ?_⟩
 have hsw26 := hF25.size
 have hF_28 := hF_19.new hF25
 have hO12_30 := hO12.fr0 hF25
 have hP13_31 := hP13.fr0 hF25
 refine V.re h27 [] 1 0 [(7, .int .i64 (plN l key2))] fun a h33 => k23 _ _ ?_
 refine V.seq fun K34 k35 => ?_
 refine V.sr h33 [] 13 13 [(14, .bool (decide ((plN l key2) < 0)))] fun a h38 => ?_
 refine V.cp h38 ((plN l key2) < 0) (fun ht39 => ?_) (fun ht39 => ?_)
 ·
  refine V.sr h38 [] 15 15 [(4, .slice A8 qs10.length c9), (5, .bool false)] fun a h42 => ?_
  refine V.ret (V.then_r ?_)
  refine V.r2 h42 (.slice A8 qs10.length c9) (.bool false) ?_
  have hSq := OwR.dat hO12_30 hP13_31
  have hdd := del_no (l := l) (key := key2) (by assumption)
  rw [hd11, ← hdd] at hSq
  have hn9 : qs10.length = (delL l key2).length := by rw [hdd]; omega
  rw [hn9] at hSq
  exact ⟨_, _, by rw [hn9]; exact congrArg (fun q => Ending.returned (Value.tuple #[_, Value.bool q])) (decide_eq_false (by omega)).symm, hSq, hF_28⟩
 ·
  refine V.skip ?_
  refine V.then_n (k35 _ _ ?_)
  refine V.seq fun K43 k44 => ?_
  obtain ⟨i, hpi, hil, hik⟩ := plN_lt (l := l) (key := key2) (by assumption)
  have h45 := h38.eq 7 (v := (.int .i64 (plN l key2))) (u := (.int .i64 (i : Int))) (V.int_eq (by omega))
  refine V.rg ?_
  refine V.run h45 [(3, .i ((i : Int) + 1))] 4 18 18 [(16, .slice A8 qs10.length c9), (17, .int .i64 (i : Int)), (19, .int .i64 ((i : Int) + 1))] fun a h46 => ?_
  refine V.cl h46 (Go.Proofs.enters_of Tryz.func68 (by kernel_rfl) rfl) (del_any w26 w.heap.size c9 i A8 qs10 hO12_30 (by omega) (by omega)) ?_
  rintro _ w49 ⟨rfl, hO47, hF48⟩
  refine ⟨_, rfl, fun a h50 => ?_⟩
  have hsw49 := hF48.size
  have hF_51 := hF_28.own hF48 (own_ge hO12_30 (by omega))
  have hP13_53 := hP13_31.own hF48 (by intro k hk; simpa using hk)
  refine V.re h50 [] 1 0 [(4, .slice A8 (qs10.length - 1) c9), (5, .bool true)] fun a h54 => k44 _ _ ?_
  refine V.ret ?_
  refine V.r2 h54 (.slice A8 (qs10.length - 1) c9) (.bool true) ?_
  have hSq := OwR.dat hO47 (hP13_53.sub fun q hq => List.mem_of_mem_eraseIdx hq)
  have hdd := del_at hpi
  rw [dat_erase, hd11, ← hdd] at hSq
  have hn9 : qs10.length - 1 = (delL l key2).length := by rw [hdd, List.length_eraseIdx_of_lt hil]; omega
  rw [hn9] at hSq
  exact ⟨_, _, by rw [hn9]; exact congrArg (fun q => Ending.returned (Value.tuple #[_, Value.bool q])) (decide_eq_true (by omega)).symm, hSq, hF_51⟩
/-! ### rows that rise by their keys; where a key belongs -/
theorem cmpS_zero (x y : ByteArray) : cmpS x y = 0 ↔ x = y := by
  unfold cmpS
  constructor
  · intro h
    split at h
    · cases h
    · split at h
      · cases h
      · rename_i h1 h2
        rcases slt_tri x y with h3 | h3 | h3
        · exact absurd h3 h1
        · exact h3
        · exact absurd h3 h2
  · rintro rfl
    rw [if_neg (slt_irr x), if_neg (slt_irr x)]
def Srt (l : List EnD) : Prop := ∀ i j : Nat, i < j → j < l.length → slt (at_ enR l (i : Int)).key (at_ enR l (j : Int)).key
def LoE (l : List EnD) (key : ByteArray) (k : Nat) : Prop := ∀ j : Nat, j < k → j < l.length → slt (at_ enR l (j : Int)).key key
def HiE (l : List EnD) (key : ByteArray) (k : Nat) : Prop := ∀ j : Nat, k ≤ j → j < l.length → ¬ slt (at_ enR l (j : Int)).key key
def lbN (l : List EnD) (key : ByteArray) : Nat := (l.takeWhile fun x => decide (slt x.key key)).length
def thR (l : List EnD) (key : ByteArray) : Prop := lbN l key < l.length ∧ (at_ enR l (lbN l key : Int)).key = key
instance (l : List EnD) (key : ByteArray) : Decidable (thR l key) := inferInstanceAs (Decidable (_ ∧ _))
section
variable {l : List EnD} {key : ByteArray} {i : Nat}
theorem lb_spec : ∀ (l : List EnD) (key : ByteArray), lbN l key ≤ l.length ∧ (∀ (j : Nat) (h : j < l.length), j < lbN l key → slt l[j].key key) ∧ ∀ h : lbN l key < l.length, ¬ slt (l[lbN l key]).key key
  | [], _ => ⟨Nat.le_refl _, fun j h => absurd h (by simp), fun h => absurd h (by simp)⟩
  | x :: l, key => by
    by_cases hx : slt x.key key
    · have e : lbN (x :: l) key = lbN l key + 1 := by unfold lbN; rw [List.takeWhile_cons, if_pos (decide_eq_true hx)]; rfl
      obtain ⟨h1, h2, h3⟩ := lb_spec l key
      refine ⟨by rw [e]; simp; omega, fun j h hj => ?_, fun h => ?_⟩
      · cases j with
        | zero => exact hx
        | succ j => simpa using h2 j (by simpa using h) (by omega)
      · have h' : lbN l key < l.length := by rw [e] at h; simpa using h
        have := h3 h'
        simpa [e] using this
    · have e : lbN (x :: l) key = 0 := by unfold lbN; rw [List.takeWhile_cons, if_neg (by simpa using hx)]; rfl
      refine ⟨by omega, fun j h hj => by omega, fun h => ?_⟩
      simpa [e] using hx
theorem lb_eq (h1 : i ≤ l.length) (hL : LoE l key i) (hH : HiE l key i) : lbN l key = i := by
  obtain ⟨h2, h3, h4⟩ := lb_spec l key
  rcases Nat.lt_trichotomy (lbN l key) i with h | h | h
  · have hlt : lbN l key < l.length := by omega
    have := hL _ h hlt
    rw [at_el enR hlt] at this
    exact absurd this (h4 hlt)
  · exact h
  · have hlt : i < l.length := by omega
    have := h3 i hlt h
    rw [← at_el enR hlt] at this
    exact absurd this (hH i (Nat.le_refl _) hlt)
theorem lb_le : lbN l key ≤ l.length := (lb_spec l key).1
theorem be_lo (hI : Srt l) {m : Nat} (hm : m < l.length) (h : slt (at_ enR l (m : Int)).key key) : LoE l key (m + 1) := fun j hj hl => by
  rcases Nat.lt_or_ge j m with h1 | h1
  · exact slt_trans (hI j m h1 hm) h
  · obtain rfl : j = m := by omega
    exact h
theorem be_hi (hI : Srt l) {m : Nat} (hm : m < l.length) (h : ¬ slt (at_ enR l (m : Int)).key key) : HiE l key m := fun j hj hl hs => by
  rcases Nat.lt_or_ge m j with h1 | h1
  · exact h (slt_trans (hI m j h1 hl) hs)
  · obtain rfl : j = m := by omega
    exact h hs
end
theorem bsf_any (w : World) (Al : Option Addr) (cl : Nat) (l : List EnD) (hSl : SlR enR (fun k => k < w.heap.size) w (.slice Al l.length cl) l) (hI : Srt l) (hl : l.length ≤ 1099511627776) (key : ByteArray) (m1 m5 : Int) (m2 : ByteArray) (A0 A3 A4 : Option Addr) (n0 c0 n3 c3 n4 c4 : Nat) : Calls Tryz.prog 64 #[.slice Al l.length cl, .agg #[.string key, .int .i64 m1, .string m2, .slice A0 n0 c0, .slice A3 n3 c3, .slice A4 n4 c4, .int .i64 m5], .func (.func 51) #[] #[]] w (fun e w' => e = .returned (.tuple #[.int .i64 ((lbN l key : Nat) : Int), .bool (decide (thR l key))]) ∧ Fr [] w w') := by
 have hF := Fr.refl [] w
 have hlen0 := hSl.len_le
 refine V.en 49 Tryz.func64 fun a h1 => ?_
 refine V.sg fun K2 k3 => ?_
 refine V.go (V.mk [(1, .agg #[.string key, .int .i64 m1, .string m2, .slice A0 n0 c0, .slice A3 n3 c3, .slice A4 n4 c4, .int .i64 m5])] ⟨h1.e, trivial⟩ (by kernel_rfl) [.string key, .int .i64 m1, .string m2, .slice A0 n0 c0, .slice A3 n3 c3, .slice A4 n4 c4, .int .i64 m5] 55 (fun b => .pointer (some ⟨b, 0, none⟩)) (by kernel_rfl) ?_)
 intro w5 b4 heb4 hB6 hF7 hsb4
 have hF_8 := hF.new hF7
 have hSl_9 := hSl.fr0 hF7
 refine V.pt h1 fun a h10 => ?_
 refine V.re h10 [] 6 7 [] fun a h11 => k3 _ _ ?_
 refine V.sr h11 [] 12 13 [(8, .int .i64 ((l.length : Nat) : Int))] fun a h14 => ?_
 refine V.sr h14 [] 14 14 [(9, .int .i64 0), (10, .int .i64 ((l.length : Nat) : Int))] fun a h17 => ?_
 refine V.seq fun K18 k19 => ?_
 refine V.block ?_
 refine V.loop2 (fun (lo : Nat) (hi : Nat) a_ w_ => En 49 [] a_ [(0, .slice Al l.length cl), (2, .func (.func 51) #[] #[]), (4, .pointer (some ⟨b4, 0, none⟩)), (8, .int .i64 ((l.length : Nat) : Int)), (9, .int .i64 ((lo : Nat) : Int)), (10, .int .i64 ((hi : Nat) : Int))] ∧ Fr [] w w_ ∧ SlR enR (fun k => k < w.heap.size) w_ (.slice Al l.length cl) l ∧ Blk w_ b4 [.string key, .int .i64 m1, .string m2, .slice A0 n0 c0, .slice A3 n3 c3, .slice A4 n4 c4, .int .i64 m5] 55 ∧ (lo ≤ hi ∧ hi ≤ l.length) ∧ (LoE l key lo) ∧ (HiE l key hi)) (fun (lo : Nat) (hi : Nat) => hi - lo) 0 l.length ?_ ?_
 ·
  refine ⟨((h17.eq 9 (v := (.int .i64 0)) (u := (.int .i64 ((0 : Nat) : Int))) (rfl)).eq 10 (v := (.int .i64 ((l.length : Nat) : Int))) (u := (.int .i64 ((l.length : Nat) : Int))) (rfl)).only _, hF_8, hSl_9, hB6, (by omega), (fun j h => absurd h (by omega)), (fun j h k => absurd h (by omega))⟩
 ·
  rintro lo hi a20 w21 ⟨h22, hF_23, hSl_24, hB6_25, hb, hL, hH⟩
  have hfs26 := hF_23.size
  have hlt27 := hB6_25.lt
  refine V.seq fun K28 k29 => ?_
  refine V.sr h22 [] 15 16 [(17, .bool (decide (((lo : Nat) : Int) < ((hi : Nat) : Int))))] fun a h32 => ?_
  refine V.cp h32 (((lo : Nat) : Int) < ((hi : Nat) : Int)) (fun ht33 => ?_) (fun ht33 => ?_)
  ·
   refine V.skip ?_
   refine V.then_n (k29 _ _ ?_)
   refine V.block ?_
   refine V.sr h32 [(2, .i (((lo : Nat) : Int) + ((hi : Nat) : Int))), (0, .q (.int .u64 ((lo + hi : Nat) : Int)) (w_toU (by omega))), (0, .q (.int .u64 (((lo + hi) / 2 : Nat) : Int)) (w_shr1 (lo + hi))), (0, .q (.int .i64 (((lo + hi) / 2 : Nat) : Int)) (w_toI (by omega)))] 18 23 [(11, .int .i64 (((lo + hi) / 2 : Nat) : Int))] fun a h36 => ?_
   refine V.seq fun K37 k38 => ?_
   refine V.pl [([0,1,2,3,4,5],some (6,[])),([7],none)] fun w39 hF40 hsw39 => ?_
   have hF_41 := hF_23.new hF40
   have hSl_42 := hSl_24.fr0 hF40
   have hB6_43 := hB6_25.fr0 hF40
   obtain ⟨g44, o45, hA46, hA46l, hA46z⟩ := hSl_42.addr (by omega)
   obtain ⟨cs47, hok48, hE49⟩ := hSl_42.els hA46 (((lo + hi) / 2 : Nat) : Int) (by omega) (by omega)
   obtain ⟨Al50, cl51, Az52, cz53, Ah54, ch55, rfl, hS56, hS57, hS58⟩ := en_open hok48
   refine V.pe h36 [(3, .ix g44 o45 l.length cl .i64 (((lo + hi) / 2 : Nat) : Int) 7 hA46), (0, .ls ⟨g44, o45 + (((lo + hi) / 2 : Nat) : Int).toNat * 7, none⟩ [.string ((at_ enR l (((lo + hi) / 2 : Nat) : Int)).key), .int .i64 ((at_ enR l (((lo + hi) / 2 : Nat) : Int)).k), .string ((at_ enR l (((lo + hi) / 2 : Nat) : Int)).s), .slice Al50 ((at_ enR l (((lo + hi) / 2 : Nat) : Int)).l.length) cl51, .slice Az52 ((at_ enR l (((lo + hi) / 2 : Nat) : Int)).z.length) cz53, .slice Ah54 ((at_ enR l (((lo + hi) / 2 : Nat) : Int)).h.length) ch55, .int .i64 ((at_ enR l (((lo + hi) / 2 : Nat) : Int)).till)] (hE49.cells 0 _ rfl)), (0, .bs hB6_43 0 [.string key, .int .i64 m1, .string m2, .slice A0 n0 c0, .slice A3 n3 c3, .slice A4 n4 c4, .int .i64 m5])] 25 27 [(24, .func (.func 51) #[] #[]), (28, .agg #[.string ((at_ enR l (((lo + hi) / 2 : Nat) : Int)).key), .int .i64 ((at_ enR l (((lo + hi) / 2 : Nat) : Int)).k), .string ((at_ enR l (((lo + hi) / 2 : Nat) : Int)).s), .slice Al50 ((at_ enR l (((lo + hi) / 2 : Nat) : Int)).l.length) cl51, .slice Az52 ((at_ enR l (((lo + hi) / 2 : Nat) : Int)).z.length) cz53, .slice Ah54 ((at_ enR l (((lo + hi) / 2 : Nat) : Int)).h.length) ch55, .int .i64 ((at_ enR l (((lo + hi) / 2 : Nat) : Int)).till)]), (29, .agg #[.string key, .int .i64 m1, .string m2, .slice A0 n0 c0, .slice A3 n3 c3, .slice A4 n4 c4, .int .i64 m5])] fun a h59 => ?_
   refine V.cl h59 (Go.Proofs.enters_of Tryz.func51 (by kernel_rfl) rfl) (byKey_any w39 ((at_ enR l (((lo + hi) / 2 : Nat) : Int)).key) key (.int .i64 ((at_ enR l (((lo + hi) / 2 : Nat) : Int)).k)) (.string ((at_ enR l (((lo + hi) / 2 : Nat) : Int)).s)) (.slice Al50 ((at_ enR l (((lo + hi) / 2 : Nat) : Int)).l.length) cl51) (.slice Az52 ((at_ enR l (((lo + hi) / 2 : Nat) : Int)).z.length) cz53) (.slice Ah54 ((at_ enR l (((lo + hi) / 2 : Nat) : Int)).h.length) ch55) (.int .i64 ((at_ enR l (((lo + hi) / 2 : Nat) : Int)).till)) (.int .i64 m1) (.string m2) (.slice A0 n0 c0) (.slice A3 n3 c3) (.slice A4 n4 c4) (.int .i64 m5)) ?_
   rintro _ w61 ⟨rfl, hF60⟩
   refine ⟨_, rfl, fun a h62 => ?_⟩
   have hsw61 := hF60.size
   have hF_63 := hF_41.new hF60
   have hSl_64 := hSl_42.fr0 hF60
   have hB6_65 := hB6_43.fr0 hF60
   refine V.eh trivial ?_
   refine V.pz h62 [] 1 0 [(31, .bool (decide ((cmpS ((at_ enR l (((lo + hi) / 2 : Nat) : Int)).key) key) < 0)))] fun a h70 => k38 _ _ ?_
   refine V.cp h70 ((cmpS ((at_ enR l (((lo + hi) / 2 : Nat) : Int)).key) key) < 0) (fun ht71 => ?_) (fun ht71 => ?_)
   ·
    refine V.rr h70 [(1, .i ((((lo + hi) / 2 : Nat) : Int) + 1))] 32 33 [(9, .int .i64 ((((lo + hi) / 2 : Nat) : Int) + 1))] fun a h72 => ?_
    refine V.blk_n (V.then_n ?_)
    refine ⟨((lo + hi) / 2) + 1, hi, by omega, ?_⟩
    refine ⟨(h72.eq 9 (v := (.int .i64 ((((lo + hi) / 2 : Nat) : Int) + 1))) (u := (.int .i64 (((((lo + hi) / 2) + 1) : Nat) : Int))) (V.int_eq (by omega))).only _, hF_63, hSl_64, hB6_65, (by omega), (be_lo hI (by omega) ((cmpS_neg _ _).1 ht71)), hH⟩
   ·
    refine V.rr h70 [] 34 34 [(10, .int .i64 (((lo + hi) / 2 : Nat) : Int))] fun a h73 => ?_
    refine V.blk_n (V.then_n ?_)
    refine ⟨lo, ((lo + hi) / 2), by omega, ?_⟩
    refine ⟨(h73.eq 10 (v := (.int .i64 (((lo + hi) / 2 : Nat) : Int))) (u := (.int .i64 ((((lo + hi) / 2) : Nat) : Int))) (rfl)).only _, hF_63, hSl_64, hB6_65, (by omega), hL, (be_hi hI (by omega) (fun q => ht71 ((cmpS_neg _ _).2 q)))⟩
  ·
   refine V.exit (V.then_e (V.then_e (V.blk_hit ?_)))
   refine V.then_n (k19 _ _ ?_)
   refine V.seq fun K74 k75 => ?_
   refine V.pl [([0,1,2,3,4,5,6,7,8,9,10],some (11,[])),([12,13,14,15],none)] fun w76 hF77 hsw76 => ?_
   have hF_78 := hF_23.new hF77
   have hSl_79 := hSl_24.fr0 hF77
   have hB6_80 := hB6_25.fr0 hF77
   refine V.pe0 ?_
   refine V.run h32 [] 5 38 38 [(35, .int .i64 ((lo : Nat) : Int)), (36, .int .i64 ((lo : Nat) : Int)), (37, .int .i64 ((l.length : Nat) : Int)), (39, .bool (decide (((lo : Nat) : Int) < ((l.length : Nat) : Int))))] fun a h81 => ?_
   by_cases hg82 : ((lo : Nat) : Int) < ((l.length : Nat) : Int)
   ·
    have h83 := h81.kt 39 hg82
    obtain ⟨g84, o85, hA86, hA86l, hA86z⟩ := hSl_79.addr (by omega)
    obtain ⟨cs87, hok88, hE89⟩ := hSl_79.els hA86 ((lo : Nat) : Int) (by omega) (by omega)
    obtain ⟨Al90, cl91, Az92, cz93, Ah94, ch95, rfl, hS96, hS97, hS98⟩ := en_open hok88
    refine V.se h83 [(3, .ix g84 o85 l.length cl .i64 ((lo : Nat) : Int) 7 hA86), (0, .ls ⟨g84, o85 + ((lo : Nat) : Int).toNat * 7, none⟩ [.string ((at_ enR l ((lo : Nat) : Int)).key), .int .i64 ((at_ enR l ((lo : Nat) : Int)).k), .string ((at_ enR l ((lo : Nat) : Int)).s), .slice Al90 ((at_ enR l ((lo : Nat) : Int)).l.length) cl91, .slice Az92 ((at_ enR l ((lo : Nat) : Int)).z.length) cz93, .slice Ah94 ((at_ enR l ((lo : Nat) : Int)).h.length) ch95, .int .i64 ((at_ enR l ((lo : Nat) : Int)).till)] (hE89.cells 0 _ rfl)), (0, .bs hB6_80 0 [.string key, .int .i64 m1, .string m2, .slice A0 n0 c0, .slice A3 n3 c3, .slice A4 n4 c4, .int .i64 m5])] 41 43 [(40, .func (.func 51) #[] #[]), (44, .agg #[.string ((at_ enR l ((lo : Nat) : Int)).key), .int .i64 ((at_ enR l ((lo : Nat) : Int)).k), .string ((at_ enR l ((lo : Nat) : Int)).s), .slice Al90 ((at_ enR l ((lo : Nat) : Int)).l.length) cl91, .slice Az92 ((at_ enR l ((lo : Nat) : Int)).z.length) cz93, .slice Ah94 ((at_ enR l ((lo : Nat) : Int)).h.length) ch95, .int .i64 ((at_ enR l ((lo : Nat) : Int)).till)]), (45, .agg #[.string key, .int .i64 m1, .string m2, .slice A0 n0 c0, .slice A3 n3 c3, .slice A4 n4 c4, .int .i64 m5])] fun a h99 => ?_
    refine V.clg h99 (Go.Proofs.enters_of Tryz.func51 (by kernel_rfl) rfl) (byKey_any w76 ((at_ enR l ((lo : Nat) : Int)).key) key (.int .i64 ((at_ enR l ((lo : Nat) : Int)).k)) (.string ((at_ enR l ((lo : Nat) : Int)).s)) (.slice Al90 ((at_ enR l ((lo : Nat) : Int)).l.length) cl91) (.slice Az92 ((at_ enR l ((lo : Nat) : Int)).z.length) cz93) (.slice Ah94 ((at_ enR l ((lo : Nat) : Int)).h.length) ch95) (.int .i64 ((at_ enR l ((lo : Nat) : Int)).till)) (.int .i64 m1) (.string m2) (.slice A0 n0 c0) (.slice A3 n3 c3) (.slice A4 n4 c4) (.int .i64 m5)) ?_
    rintro _ w101 ⟨rfl, hF100⟩
    refine ⟨_, rfl, fun a h102 => ?_⟩
    have hsw101 := hF100.size
    have hF_103 := hF_78.new hF100
    refine V.eh trivial ?_
    refine V.pz h102 [(0, .eq (cmpS ((at_ enR l ((lo : Nat) : Int)).key) key) 0)] 47 48 [(6, .int .i64 ((lo : Nat) : Int)), (7, .bool (decide ((cmpS ((at_ enR l ((lo : Nat) : Int)).key) key) = 0)))] fun a h110 => k75 _ _ ?_
    refine V.ret ?_
    refine V.r2 h110 (.int .i64 ((lo : Nat) : Int)) (.bool (decide ((cmpS ((at_ enR l ((lo : Nat) : Int)).key) key) = 0))) ?_
    obtain rfl : lo = hi := by omega
    obtain rfl := (lb_eq (by omega) hL hH).symm
    exact ⟨congrArg (fun b => Ending.returned (.tuple #[.int .i64 _, .bool b])) (decide_eq_decide.2 ⟨fun q => ⟨by omega, (cmpS_zero _ _).1 q⟩, fun q => (cmpS_zero _ _).2 q.2⟩), hF_103⟩
   ·
    have h111 := h81.kf 39 hg82
    refine V.se h111 [] 41 43 [(40, undef), (44, undef), (45, undef)] fun a h112 => ?_
    refine V.run h112 [] 1 1 0 [(46, undef)] fun a h113 => ?_
    refine V.eh trivial ?_
    refine V.pz h113 [] 47 48 [(6, .int .i64 ((lo : Nat) : Int)), (7, .bool false)] fun a h114 => k75 _ _ ?_
    refine V.ret ?_
    refine V.r2 h114 (.int .i64 ((lo : Nat) : Int)) (.bool false) ?_
    obtain rfl : lo = hi := by omega
    obtain rfl := (lb_eq (by omega) hL hH).symm
    exact ⟨congrArg (fun b => Ending.returned (.tuple #[.int .i64 _, .bool b])) (decide_eq_false (fun q => by have := q.1; omega)).symm, hF_78⟩
/-! ### Insert -/
theorem cut_at {g c m o n k : Nat} (hc : ¬ c = m) (ho : o = m * 7) : Value.slice (cutA (some ⟨g, 0, none⟩) m c 7) n k = .slice (some ⟨g, o, none⟩) n k := by
  unfold cutA
  rw [if_neg hc, ho]
  show Value.slice (some ((⟨g, 0, none⟩ : Addr).add (m * 7))) n k = _
  rw [show (⟨g, 0, none⟩ : Addr).add (m * 7) = ⟨g, m * 7, none⟩ by unfold Addr.add; split <;> simp_all]
theorem ov_false {w : World} {b0 g n0 c0 o n1 c1 : Nat} {cs0 cur : List Value} (hB : Blk w b0 cs0 55) (hG : Blk w g cur 55) (hne : b0 ≠ g) (hcur : cur.length ≠ 0) :
    (callFunc 114 #[.slice (some ⟨b0, 0, none⟩) n0 c0, .slice (some ⟨g, o, none⟩) n1 c1]).run Tryz.prog w = .ok (.value (.bool false)) w := by
  have hz : ∀ w, (Go.sizeOf 55).run Tryz.prog w = .ok 7 w := fun w => by
    obtain ⟨i, hi, hq⟩ := Option.map_eq_some_iff.1 info55
    simp only [Prod.mk.injEq] at hq
    simp [sizeOf, typeInfo, hi, hq.2.1]
  rw [run_callFunc_extern Tryz.func114 (by kernel_rfl) (by kernel_rfl) (by kernel_rfl) (e := Extern.SlicesOverlaps.overlaps #[22, 22] #[4]) (by kernel_rfl),
    Lib.run_overlaps_apart w 22 4 55 Tryz.underlying22 7 hz ⟨b0, 0, none⟩ ⟨g, o, none⟩ n0 c0 n1 c1 hne 55 55 cs0.length cur.length (by simp [World.shape?, show w.heap[b0]? = _ from hB]) (by simp [World.shape?, show w.heap[g]? = _ from hG]) hcur (hB.frozen 0) (hB.frozen _)]
  rfl
theorem EnR.old {Z : Nat → Prop} {w : World} {p : EnQ} (h : EnR Z w p) : EnR (fun k => k < w.heap.size) w p := enR.mono (fun b hb _ => ⟨hb, rfl⟩) (Nat.le_refl _) h
theorem EnR.fr {Z : Nat → Prop} {w w1 : World} {p : EnQ} {l : List Nat} (h : EnR Z w p) (f : Fr l w w1) (hl : ∀ b ∈ l, ¬ Z b) : EnR Z w1 p := enR.mono (fun b hb hz => ⟨hz, f.block b hb fun hm => hl b hm hz⟩) f.size h
/-- The cells from a place on, where they lie. -/
theorem drop_cells {w : World} {g n i o : Nat} {cur : List Value} {qs : List EnQ} (hB : Blk w g cur 55) (htk : cur.take (n * 7) = entF qs) (ho : o = i * 7) : ∀ j u, (entF (qs.drop i))[j]? = some u → w.cell? ((⟨g, o, none⟩ : Addr).add j) = some u := fun j u hj => by
  rw [← entF_drop, List.getElem?_drop, ← htk, List.getElem?_take] at hj
  split at hj
  · rw [show (⟨g, o, none⟩ : Addr).add j = ⟨g, i * 7 + j, none⟩ by rw [ho]; unfold Addr.add; split <;> simp_all]
    exact (hB.cell _).trans hj
  · cases hj
/-- The row with one more, out of the block as it lies behind both copies. -/
theorem ins_own {w : World} {base G c i : Nat} {cur : List Value} {qs : List EnQ} (p : EnQ) (hB : Blk w G cur 55) (hi : i ≤ qs.length) (hcl : cur.length = c * 7) (hn : qs.length + 1 ≤ c) (hcm : c ≤ maxLen) (hG : base ≤ G) (ht : cur.take (i * 7 + 7 + (entF (qs.drop i)).length) = entF (qs.take i) ++ entC p.1 ++ entF (qs.drop i)) :
    OwR prE NoZ w base 55 (.slice (some ⟨G, 0, none⟩) (qs.length + 1) c) (qs.take i ++ p :: qs.drop i) := by
  have hl : (qs.take i ++ p :: qs.drop i).length = qs.length + 1 := by rw [List.length_append, List.length_cons, List.length_take, List.length_drop]; omega
  have h := OwR.mkE (dβ := enR.dflt) (ps := qs.take i ++ p :: qs.drop i) (base := base) (c := c) hB hcl (by omega) hcm hG ?_
  · rw [hl] at h; exact h
  · have e1 : i * 7 + 7 + (entF (qs.drop i)).length = (qs.take i ++ p :: qs.drop i).length * 7 := by rw [entF_len, List.length_drop, hl]; omega
    rw [← e1, ht, entF_app]
    have e2 : entF (p :: qs.drop i) = entC p.1 ++ entF (qs.drop i) := by unfold entF; rw [List.flatMap_cons]
    rw [e2, List.append_assoc]
def insP (qs : List EnQ) (i : Nat) (p : EnQ) : List EnQ := qs.take i ++ p :: qs.drop i
theorem insg_any (w : World) (base g b0 c i : Nat) (qs : List EnQ) (p : EnQ) (cur : List Value) (hB0 : Blk w g cur 55) (hcl : cur.length = c * 7) (hcn : qs.length ≤ c) (hcm : c ≤ maxLen) (hg : base ≤ g) (htk : cur.take (qs.length * 7) = entF qs) (hone : ∀ u ∈ cur.take (i * 7), u.oneCell' = true) (hN0 : Blk w b0 (entC p.1) 55) (hne : b0 ≠ g) (hi : i < qs.length) (hl : qs.length ≤ 1099511627776) : Calls Tryz.prog 65 #[.slice (some ⟨g, 0, none⟩) qs.length c, .int .i64 (i : Int), .slice (some ⟨b0, 0, none⟩) 1 1] w (fun e w' => ∃ A' c', e = .returned (.slice A' (qs.length + 1) c') ∧ OwR prE NoZ w' base 55 (.slice A' (qs.length + 1) c') (insP qs i p) ∧ Fr [g] w w') := by
 have hF := Fr.refl [g] w
 have hdl : (entF (qs.drop i)).length = (qs.length - i) * 7 := by rw [entF_len, List.length_drop]
 have htki : cur.take (i * 7) = entF (qs.take i) := by rw [← entF_take, ← htk, List.take_take]; congr 1; omega
 have hlg := hB0.lt
 have hlb := hN0.lt
 refine V.en 95 Tryz.func65 fun a h1 => ?_
 refine V.sr h1 [] 6 6 [] fun a h4 => ?_
 refine V.sr h4 [(2, .cutE (some ⟨g, 0, none⟩) qs.length c (i : Int) i 7)] 10 12 [] fun a h7 => ?_
 refine V.sr h7 [] 13 14 [(7, .int .i64 1)] fun a h10 => ?_
 refine V.seq fun K11 k12 => ?_
 refine V.sr h10 [] 15 15 [(16, .bool false)] fun a h15 => ?_
 refine V.cf h15 ?_
 refine V.skip ?_
 refine V.then_n (k12 _ _ ?_)
 refine V.sr h15 [] 18 19 [(8, .int .i64 ((qs.length : Nat) : Int))] fun a h18 => ?_
 refine V.seq fun K19 k20 => ?_
 refine V.sr h18 [(2, .eq (i : Int) ((qs.length : Nat) : Int))] 20 21 [(22, .bool (decide ((i : Int) = ((qs.length : Nat) : Int))))] fun a h23 => ?_
 refine V.cp h23 ((i : Int) = ((qs.length : Nat) : Int)) (fun ht24 => ?_) (fun ht24 => ?_)
 · exact absurd ht24 (by omega)
 ·
  refine V.skip ?_
  refine V.then_n (k20 _ _ ?_)
  refine V.seq fun K25 k26 => ?_
  refine V.sr h23 [(2, .i (((qs.length : Nat) : Int) + 1))] 26 30 [(31, .bool (decide ((((qs.length : Nat) : Int) + 1) > ((c : Nat) : Int))))] fun a h29 => ?_
  refine V.cp h29 ((((qs.length : Nat) : Int) + 1) > ((c : Nat) : Int)) (fun ht30 => ?_) (fun ht30 => ?_)
  ·
   refine V.sg fun K31 k32 => ?_
   refine V.run h29 [(2, .cut0 (some ⟨g, 0, none⟩) qs.length c (i : Int) i 7), (2, .i (((qs.length : Nat) : Int) + 1)), (1, .i ((((qs.length : Nat) : Int) + 1) - (i : Int)))] 8 32 38 [(34, .slice (some ⟨g, 0, none⟩) i c), (39, .int .i64 ((((qs.length : Nat) : Int) + 1) - (i : Int)))] fun a h43 => ?_
   refine V.go (V.apMk (sz := 7) (q := qs.length + 1 - i) (h43.e (v := (.slice (some ⟨g, 0, none⟩) i c))) (h43.e (v := (.int .i64 ((((qs.length : Nat) : Int) + 1) - (i : Int))))) (by omega) Tryz.underlying22 Tryz.underlying3 info55 rfl (by decide) hB0 (by omega) hone (by omega) (by omega) (by decide) (by omega) ?_)
   intro G33 c34 w35 Z36 hG37 hB38 hz39 hc40 hc41 hF42 hsw35
   have hF_44 := hF.trans hF42 (by simp <;> omega)
   have hB0_45 := hB0.fr0 hF42
   have hN0_46 := hN0.fr0 hF42
   have hcx : (cur.take (i * 7) ++ Z36).length = c34 * 7 := by rw [List.length_append, List.length_take, hz39]; omega
   have hgG : g < G33 := by have := hB0.lt; omega
   have hbG : b0 < G33 := by have := hN0.lt; omega
   refine V.pt h43 fun a h47 => ?_
   refine V.re h47 [] 1 0 [(9, .slice (some ⟨G33, 0, none⟩) (i + (qs.length + 1 - i)) c34)] fun a h48 => k32 _ _ ?_
   refine V.sg fun K49 k50 => ?_
   refine V.run h48 [(2, .cutE (some ⟨G33, 0, none⟩) (i + (qs.length + 1 - i)) c34 (i : Int) i 7)] 4 41 42 [(43, .slice (cutA (some ⟨G33, 0, none⟩) i c34 7) ((i + (qs.length + 1 - i)) - i) (c34 - i)), (44, .slice (some ⟨b0, 0, none⟩) 1 1)] fun a h51 => ?_
   refine V.go (V.cpB (sz := 7) (o := i * 7) 1 (vs := (entC p.1)) (by first | exact (((h51.e (v := (.slice (cutA (some ⟨G33, 0, none⟩) i c34 7) ((i + (qs.length + 1 - i)) - i) (c34 - i))))).trans (cut_at (o := i * 7) (by omega) (by omega))) | (have h := (((h51.e (v := (.slice (cutA (some ⟨G33, 0, none⟩) i c34 7) ((i + (qs.length + 1 - i)) - i) (c34 - i))))).trans (cut_at (o := i * 7) (by omega) (by omega))); exact h)) (h51.e (v := (.slice (some ⟨b0, 0, none⟩) 1 1))) Tryz.underlying22 (by kernel_rfl) (by simp only [Nat.min_def]; split <;> omega) rfl (fun j u hj => by rw [show (⟨b0, 0, none⟩ : Addr).add j = ⟨b0, j, none⟩ by unfold Addr.add; split <;> simp_all]; exact (hN0_46.cell j).trans hj) (fun u hu => List.all_eq_true.1 (entC_one p.1) u hu) hB38 (by (try rw [over_length]); (try simp only [List.length_append, List.length_take]); simp only [entC_len, entF_len, List.length_drop] at *; omega) ?_)
   intro w52 hB53 hF54 hsw52
   have hF_55 := hF_44.trans hF54 (by simp <;> omega)
   have hB0_56 := hB0_45.fr hF54 (by simp <;> omega)
   refine V.pt h51 fun a h58 => ?_
   refine V.nt (k50 _ _ ?_)
   refine V.seq fun K59 k60 => ?_
   refine V.pl [([0,1,2,3,4,5,6,7],some (8,[])),([],none)] fun w61 hF62 hsw61 => ?_
   have hF_63 := hF_55.trans hF62 (by simp <;> omega)
   have hB0_64 := hB0_56.fr0 hF62
   have hB53_66 := hB53.fr0 hF62
   refine V.pe h58 [(3, .i ((i : Int) + 1)), (0, .cutE (some ⟨G33, 0, none⟩) (i + (qs.length + 1 - i)) c34 ((i : Int) + 1) (i + 1) 7), (2, .cutE (some ⟨g, 0, none⟩) qs.length c (i : Int) i 7)] 46 52 [(50, .slice (cutA (some ⟨G33, 0, none⟩) (i + 1) c34 7) ((i + (qs.length + 1 - i)) - (i + 1)) (c34 - (i + 1))), (53, .slice (cutA (some ⟨g, 0, none⟩) i c 7) (qs.length - i) (c - i))] fun a h67 => ?_
   refine V.go (V.cpB (sz := 7) (o := i * 7 + 7) (qs.length - i) (vs := (entF (qs.drop i))) (by first | exact (((h67.e (v := (.slice (cutA (some ⟨G33, 0, none⟩) (i + 1) c34 7) ((i + (qs.length + 1 - i)) - (i + 1)) (c34 - (i + 1)))))).trans (cut_at (o := i * 7 + 7) (by omega) (by omega))) | (have h := (((h67.e (v := (.slice (cutA (some ⟨G33, 0, none⟩) (i + 1) c34 7) ((i + (qs.length + 1 - i)) - (i + 1)) (c34 - (i + 1)))))).trans (cut_at (o := i * 7 + 7) (by omega) (by omega))); exact h)) (((h67.e (v := (.slice (cutA (some ⟨g, 0, none⟩) i c 7) (qs.length - i) (c - i))))).trans (cut_at (o := i * 7) (by omega) (by omega))) Tryz.underlying22 (by kernel_rfl) (by simp only [Nat.min_def]; split <;> omega) (by rw [entF_len, List.length_drop]) (drop_cells hB0_64 htk rfl) entF_one hB53_66 (by (try rw [over_length]); (try simp only [List.length_append, List.length_take]); simp only [entC_len, entF_len, List.length_drop] at *; omega) ?_)
   intro w68 hB69 hF70 hsw68
   have hF_71 := hF_63.trans hF70 (by simp <;> omega)
   refine V.pt h67 fun a h74 => ?_
   refine V.eh trivial ?_
   refine V.pz h74 [] 1 0 [] fun a h75 => k60 _ _ ?_
   have h76 := h75.only [(0, .slice (some ⟨g, 0, none⟩) qs.length c), (1, .int .i64 (i : Int)), (2, .slice (some ⟨b0, 0, none⟩) 1 1), (7, .int .i64 1), (8, .int .i64 ((qs.length : Nat) : Int)), (9, .slice (some ⟨G33, 0, none⟩) (i + (qs.length + 1 - i)) c34)]
   refine V.sr h76 [] 55 55 [(6, .slice (some ⟨G33, 0, none⟩) (i + (qs.length + 1 - i)) c34)] fun a h79 => ?_
   refine V.ret (V.then_r ?_)
   refine V.r1 h79 (.slice (some ⟨G33, 0, none⟩) (i + (qs.length + 1 - i)) c34) ?_
   have hq1 : i + (qs.length + 1 - i) = qs.length + 1 := by omega
   rw [hq1]
   have htz : (cur.take (i * 7) ++ Z36).take (i * 7) = entF (qs.take i) := by rw [List.take_append_of_le_length (by rw [List.length_take]; omega), List.take_take, Nat.min_self]; exact htki
   exact ⟨_, _, rfl, ins_own p hB69 (by omega) (by rw [over_length, over_length]; exact hcx) (by omega) hc41 (by omega) (by rw [← htz]; exact (over2 (cur.take (i * 7) ++ Z36) (entC p.1) (entF (qs.drop i)) (i * 7) (by rw [hdl, entC_len]; omega)).1), hF_71⟩
  ·
   refine V.skip ?_
   refine V.then_n (k26 _ _ ?_)
   refine V.sr h29 [(3, .i (((qs.length : Nat) : Int) + 1)), (0, .cut0 (some ⟨g, 0, none⟩) qs.length c (((qs.length : Nat) : Int) + 1) (qs.length + 1) 7)] 56 60 [(0, .slice (some ⟨g, 0, none⟩) (qs.length + 1) c)] fun a h82 => ?_
   refine V.seq fun K83 k84 => ?_
   refine V.sg fun K85 k86 => ?_
   refine V.run h82 [(4, .i ((i : Int) + 1)), (0, .cutE (some ⟨g, 0, none⟩) (qs.length + 1) c ((i : Int) + 1) (i + 1) 7)] 6 62 65 [(61, .slice (some ⟨b0, 0, none⟩) 1 1), (66, .slice (cutA (some ⟨g, 0, none⟩) (i + 1) c 7) ((qs.length + 1) - (i + 1)) (c - (i + 1)))] fun a h87 => ?_
   refine V.go (V.xf (fid := 114) (v := .bool false) evf (h87.e (v := (.slice (some ⟨b0, 0, none⟩) 1 1))) (((h87.e (v := (.slice (cutA (some ⟨g, 0, none⟩) (i + 1) c 7) ((qs.length + 1) - (i + 1)) (c - (i + 1)))))).trans (cut_at (o := i * 7 + 7) (by omega) (by omega))) (ov_false hN0 hB0 hne (by omega)) ?_)
   refine V.pt h87 fun a h88 => ?_
   refine V.re h88 [] 1 0 [(68, .bool true)] fun a h89 => k86 _ _ ?_
   refine V.ct h89 ?_
   refine V.seq fun K90 k91 => ?_
   refine V.pl [([0,1,2,3,4,5,6,7],some (8,[])),([],none)] fun w92 hF93 hsw92 => ?_
   have hF_94 := hF.trans hF93 (by simp <;> omega)
   have hB0_95 := hB0.fr0 hF93
   have hN0_96 := hN0.fr0 hF93
   refine V.pe h89 [(3, .i ((i : Int) + 1)), (0, .cutE (some ⟨g, 0, none⟩) (qs.length + 1) c ((i : Int) + 1) (i + 1) 7), (2, .cutE (some ⟨g, 0, none⟩) (qs.length + 1) c (i : Int) i 7)] 69 75 [(73, .slice (cutA (some ⟨g, 0, none⟩) (i + 1) c 7) ((qs.length + 1) - (i + 1)) (c - (i + 1))), (76, .slice (cutA (some ⟨g, 0, none⟩) i c 7) ((qs.length + 1) - i) (c - i))] fun a h97 => ?_
   refine V.go (V.cpB (sz := 7) (o := i * 7 + 7) (qs.length - i) (vs := (entF (qs.drop i))) (by first | exact (((h97.e (v := (.slice (cutA (some ⟨g, 0, none⟩) (i + 1) c 7) ((qs.length + 1) - (i + 1)) (c - (i + 1)))))).trans (cut_at (o := i * 7 + 7) (by omega) (by omega))) | (have h := (((h97.e (v := (.slice (cutA (some ⟨g, 0, none⟩) (i + 1) c 7) ((qs.length + 1) - (i + 1)) (c - (i + 1)))))).trans (cut_at (o := i * 7 + 7) (by omega) (by omega))); exact h)) (((h97.e (v := (.slice (cutA (some ⟨g, 0, none⟩) i c 7) ((qs.length + 1) - i) (c - i))))).trans (cut_at (o := i * 7) (by omega) (by omega))) Tryz.underlying22 (by kernel_rfl) (by simp only [Nat.min_def]; split <;> omega) (by rw [entF_len, List.length_drop]) (drop_cells hB0_95 htk rfl) entF_one hB0_95 (by (try rw [over_length]); (try simp only [List.length_append, List.length_take]); simp only [entC_len, entF_len, List.length_drop] at *; omega) ?_)
   intro w98 hB99 hF100 hsw98
   have hF_101 := hF_94.trans hF100 (by simp <;> omega)
   have hN0_102 := hN0_96.fr1 hF100 (by omega)
   refine V.pt h97 fun a h103 => ?_
   refine V.eh trivial ?_
   refine V.pz h103 [] 1 0 [] fun a h104 => k91 _ _ ?_
   have h105 := h104.only [(0, .slice (some ⟨g, 0, none⟩) (qs.length + 1) c), (1, .int .i64 (i : Int)), (2, .slice (some ⟨b0, 0, none⟩) 1 1), (7, .int .i64 1), (8, .int .i64 ((qs.length : Nat) : Int))]
   refine V.sg fun K106 k107 => ?_
   refine V.run h105 [(2, .cutE (some ⟨g, 0, none⟩) (qs.length + 1) c (i : Int) i 7)] 4 78 79 [(80, .slice (cutA (some ⟨g, 0, none⟩) i c 7) ((qs.length + 1) - i) (c - i)), (81, .slice (some ⟨b0, 0, none⟩) 1 1)] fun a h108 => ?_
   refine V.go (V.cpB (sz := 7) (o := i * 7) 1 (vs := (entC p.1)) (by first | exact (((h108.e (v := (.slice (cutA (some ⟨g, 0, none⟩) i c 7) ((qs.length + 1) - i) (c - i))))).trans (cut_at (o := i * 7) (by omega) (by omega))) | (have h := (((h108.e (v := (.slice (cutA (some ⟨g, 0, none⟩) i c 7) ((qs.length + 1) - i) (c - i))))).trans (cut_at (o := i * 7) (by omega) (by omega))); exact h)) (h108.e (v := (.slice (some ⟨b0, 0, none⟩) 1 1))) Tryz.underlying22 (by kernel_rfl) (by simp only [Nat.min_def]; split <;> omega) rfl (fun j u hj => by rw [show (⟨b0, 0, none⟩ : Addr).add j = ⟨b0, j, none⟩ by unfold Addr.add; split <;> simp_all]; exact (hN0_102.cell j).trans hj) (fun u hu => List.all_eq_true.1 (entC_one p.1) u hu) hB99 (by (try rw [over_length]); (try simp only [List.length_append, List.length_take]); simp only [entC_len, entF_len, List.length_drop] at *; omega) ?_)
   intro w109 hB110 hF111 hsw109
   have hF_112 := hF_101.trans hF111 (by simp <;> omega)
   refine V.pt h108 fun a h114 => ?_
   refine V.nt (k107 _ _ ?_)
   refine V.sr h114 [] 83 83 [(6, .slice (some ⟨g, 0, none⟩) (qs.length + 1) c)] fun a h117 => ?_
   refine V.ret (V.then_r ?_)
   refine V.r1 h117 (.slice (some ⟨g, 0, none⟩) (qs.length + 1) c) ?_
   exact ⟨_, _, rfl, ins_own p hB110 (by omega) (by rw [over_length, over_length]; exact hcl) (by omega) hcm hg (by rw [← htki]; exact (over2 cur (entC p.1) (entF (qs.drop i)) (i * 7) (by rw [hdl, entC_len]; omega)).2), hF_112⟩
theorem inse_any (w : World) (base b0 c : Nat) (A : Option Addr) (qs : List EnQ) (p : EnQ) (hO : OwR prE NoZ w base 55 (.slice A qs.length c) qs) (hbw : base ≤ w.heap.size) (hN0 : Blk w b0 (entC p.1) 55) (hne : (Value.slice A qs.length c).ownBlock ≠ some b0) (hl : qs.length ≤ 1099511627776) : Calls Tryz.prog 65 #[.slice A qs.length c, .int .i64 ((qs.length : Nat) : Int), .slice (some ⟨b0, 0, none⟩) 1 1] w (fun e w' => ∃ A' c', e = .returned (.slice A' (qs.length + 1) c') ∧ OwR prE NoZ w' base 55 (.slice A' (qs.length + 1) c') (insP qs qs.length p) ∧ Fr ((Value.slice A qs.length c).ownBlock.toList) w w') := by
 have hF := Fr.refl ((Value.slice A qs.length c).ownBlock.toList) w
 have hcn := hO.cap
 refine V.en 95 Tryz.func65 fun a h1 => ?_
 refine V.sr h1 [] 6 6 [] fun a h4 => ?_
 refine V.sr h4 [(2, .cutE A qs.length c ((qs.length : Nat) : Int) qs.length 7)] 10 12 [] fun a h7 => ?_
 refine V.sr h7 [] 13 14 [(7, .int .i64 1)] fun a h10 => ?_
 refine V.seq fun K11 k12 => ?_
 refine V.sr h10 [] 15 15 [(16, .bool false)] fun a h15 => ?_
 refine V.cf h15 ?_
 refine V.skip ?_
 refine V.then_n (k12 _ _ ?_)
 refine V.sr h15 [] 18 19 [(8, .int .i64 ((qs.length : Nat) : Int))] fun a h18 => ?_
 refine V.seq fun K19 k20 => ?_
 refine V.sr h18 [(2, .q (.bool true) (V.t_same ((qs.length : Nat) : Int)))] 20 21 [(22, .bool true)] fun a h23 => ?_
 refine V.ct h23 ?_
 refine V.sg fun K24 k25 => ?_
 refine V.run h23 [] 2 1 0 [(23, .slice A qs.length c), (24, .slice (some ⟨b0, 0, none⟩) 1 1)] fun a h31 => ?_
 refine V.go (V.app (R := prE) (ys := ([p])) (news := (entC p.1)) (h31.e (v := (.slice A qs.length c))) ⟨b0, 0, none⟩ 1 1 (h31.e (v := (.slice (some ⟨b0, 0, none⟩) 1 1))) (by kernel_rfl) (info55) (by kernel_rfl) (by decide) hO rfl ⟨entC p.1, [], (List.append_nil _).symm, rfl, rfl⟩ (blk_cells hN0 0 _ rfl) (by first | omega | (simp; omega)) (by decide) (by omega) ?_)
 intro A26 c27 w28 hO29z hF30 hatw28
 have hsw28 := hF30.size
 have hF_32 := hF.trans hF30 (fun i hi _ => hi)
 have hO29 := hO29z.zone (Z' := NoZ) (fun _ _ q => q.1) (fun _ _ q => q)
 refine V.pt h31 fun a h33 => ?_
 refine V.re h33 [] 1 0 [(6, .slice A26 ((qs.length) + 1) c27)] fun a h34 => k25 _ _ ?_
 refine V.ret (V.then_r ?_)
 refine V.r1 h34 (.slice A26 ((qs.length) + 1) c27) ?_
 exact ⟨_, _, rfl, by unfold insP; rw [List.take_length, List.drop_length]; exact hO29, hF_32⟩
theorem ins_any (w : World) (base b0 c i : Nat) (A : Option Addr) (qs : List EnQ) (p : EnQ) (hO : OwR prE NoZ w base 55 (.slice A qs.length c) qs) (hbw : base ≤ w.heap.size) (hN0 : Blk w b0 (entC p.1) 55) (hne : (Value.slice A qs.length c).ownBlock ≠ some b0) (hi : i ≤ qs.length) (hl : qs.length ≤ 1099511627776) :
    Calls Tryz.prog 65 #[.slice A qs.length c, .int .i64 ((i : Nat) : Int), .slice (some ⟨b0, 0, none⟩) 1 1] w fun e w' => ∃ A' c', e = .returned (.slice A' (qs.length + 1) c') ∧ OwR prE NoZ w' base 55 (.slice A' (qs.length + 1) c') (insP qs i p) ∧ Fr ((Value.slice A qs.length c).ownBlock.toList) w w' := by
  rcases Nat.lt_or_ge i qs.length with h | h
  · rcases hO.caseE with ⟨_, h0⟩ | ⟨g, c', he⟩
    · rw [h0] at h; simp at h
    · injection he with e1 e2 e3
      subst e1; subst e3
      obtain ⟨cur, hB, hcl, _, hcn, hcm, hg, htk⟩ := hO.openE
      refine insg_any w base g b0 c i qs p cur hB hcl hcn hcm hg htk (fun u hu => ?_) hN0 (fun e => hne (by rw [e]; rfl)) h hl
      have h1 : u ∈ cur.take (qs.length * 7) := by
        have e : cur.take (i * 7) = (cur.take (qs.length * 7)).take (i * 7) := by rw [List.take_take]; congr 1; omega
        rw [e] at hu; exact List.mem_of_mem_take hu
      rw [htk] at h1
      exact entF_one u h1
  · obtain rfl : i = qs.length := by omega
    exact inse_any w base b0 c A qs p hO hbw hN0 hne hl
theorem bsfQ_any (w : World) (base c : Nat) (A : Option Addr) (Z : Nat → Prop) (qs : List EnQ) (l : List EnD) (hd : datE qs = l) (hO : OwR prE NoZ w base 55 (.slice A qs.length c) qs) (hP : PsOk Z w qs) (hI : Srt l) (hl : qs.length ≤ 1099511627776) (key : ByteArray) (m1 m5 : Int) (m2 : ByteArray) (A0 A3 A4 : Option Addr) (n0 c0 n3 c3 n4 c4 : Nat) :
    Calls Tryz.prog 64 #[.slice A qs.length c, .agg #[.string key, .int .i64 m1, .string m2, .slice A0 n0 c0, .slice A3 n3 c3, .slice A4 n4 c4, .int .i64 m5], .func (.func 51) #[] #[]] w fun e w' => e = .returned (.tuple #[.int .i64 ((lbN l key : Nat) : Int), .bool (decide (thR l key))]) ∧ Fr [] w w' := by
  subst hd
  have h := bsf_any w A c (datE qs) (by rw [datE_len]; exact OwR.dat hO hP) hI (by rw [datE_len]; exact hl) key m1 m5 m2 A0 A3 A4 n0 c0 n3 c3 n4 c4
  rw [datE_len] at h
  exact h
/-! ### a row with an entry more -/
def putD (l : List EnD) (x : EnD) : List EnD := l.take (lbN l x.key) ++ x :: l.drop (if thR l x.key then lbN l x.key + 1 else lbN l x.key)
noncomputable def putN (l : List EnD) (x : EnD) : Int := if imgN l = 0 then @ite Int (okD x) (Classical.propDecidable _) 0 90 else imgN l
noncomputable def putL (l : List EnD) (x : EnD) : List EnD := if putN l x = 0 then putD l x else []
section
variable {l : List EnD} {x : EnD} {qs : List EnQ} {i : Nat} {p : EnQ}
theorem put_bad (h : ¬ imgN l = 0) : putN l x = imgN l ∧ putL l x = [] := by
  have e : putN l x = imgN l := if_neg h
  exact ⟨e, by unfold putL; rw [e, if_neg h]⟩
theorem put_no (h : imgN l = 0) (hx : ¬ okD x) : putN l x = 90 ∧ putL l x = [] := by
  have e : putN l x = 90 := by unfold putN; rw [if_pos h]; exact @if_neg _ (Classical.propDecidable _) hx _ _ _
  exact ⟨e, by unfold putL; rw [e]; rfl⟩
theorem put_yes (h : imgN l = 0) (hx : okD x) : putN l x = 0 ∧ putL l x = putD l x := by
  have e : putN l x = 0 := by unfold putN; rw [if_pos h]; exact @if_pos _ (Classical.propDecidable _) hx _ _ _
  exact ⟨e, by unfold putL; rw [if_pos e]⟩
theorem srt_img (h : imgN l = 0) : Srt l := by
  have hg : AllG (gE l) l.length := by
    unfold imgN at h
    split at h
    · cases h
    · split at h
      · assumption
      · cases h
  intro i j hij hj
  induction j with
  | zero => omega
  | succ j ih =>
    have h1 := (hg (j + 1) hj).2 (by omega)
    have e : ((j + 1 : Nat) : Int) - 1 = ((j : Nat) : Int) := by omega
    rw [e] at h1
    rcases Nat.lt_or_ge i j with h2 | h2
    · exact slt_trans (ih h2 (by omega)) h1
    · obtain rfl : i = j := by omega
      exact h1
theorem dat_ins (hd : datE qs = l) (hx : p.2 = x) (hn : ¬ thR l x.key) : datE (insP qs (lbN l x.key) p) = putD l x := by
  unfold putD insP
  rw [if_neg hn, ← hd]
  unfold datE
  rw [List.map_append, List.map_cons, List.map_take, List.map_drop, hx]
theorem dat_put (hd : datE qs = l) (hx : p.2 = x) (hn : thR l x.key) : datE (qs.set (lbN l x.key) p) = putD l x := by
  have h1 : lbN l x.key < qs.length := by have := hn.1; rw [← hd, datE_len] at this; rw [hd] at this; exact this
  unfold putD
  rw [if_pos hn, List.set_eq_take_append_cons_drop, if_pos h1, ← hd]
  unfold datE
  rw [List.map_append, List.map_cons, List.map_take, List.map_drop, hx]
theorem putD_len (hn : ¬ thR l x.key) : (putD l x).length = l.length + 1 := by
  have := lb_le (l := l) (key := x.key)
  unfold putD; rw [if_neg hn, List.length_append, List.length_cons, List.length_take, List.length_drop]; omega
theorem putD_len2 (hn : thR l x.key) : (putD l x).length = l.length := by
  have := hn.1
  unfold putD; rw [if_pos hn, List.length_append, List.length_cons, List.length_take, List.length_drop]; omega
theorem mem_insP {q : EnQ} (h : q ∈ insP qs i p) : q ∈ qs ++ [p] := by
  unfold insP at h
  rcases List.mem_append.1 h with h | h
  · exact List.mem_append_left _ (List.mem_of_mem_take h)
  · rcases List.mem_cons.1 h with rfl | h
    · exact List.mem_append_right _ (List.mem_singleton.2 rfl)
    · exact List.mem_append_left _ (List.mem_of_mem_drop h)
theorem mem_setP {q : EnQ} (h : q ∈ qs.set i p) : q ∈ qs ++ [p] := by
  rcases List.mem_or_eq_of_mem_set h with h | rfl
  · exact List.mem_append_left _ h
  · exact List.mem_append_right _ (List.mem_singleton.2 rfl)
end
/-! ### the reference's Set, Put, Del, Live -/
section
variable {l : List EnD} {ps : List EnQ} {key : ByteArray} {i : Nat} {now : Int}
theorem lb_eq2 (h1 : i ≤ l.length) (hL : LoE l key i) (hH : i < l.length → ¬ slt (at_ enR l (i : Int)).key key) : lbN l key = i := by
  obtain ⟨h2, h3, h4⟩ := lb_spec l key
  rcases Nat.lt_trichotomy (lbN l key) i with h | h | h
  · have hlt : lbN l key < l.length := by omega
    have := hL _ h hlt
    rw [at_el enR hlt] at this
    exact absurd this (h4 hlt)
  · exact h
  · have hlt : i < l.length := by omega
    have := h3 i hlt h
    rw [← at_el enR hlt] at this
    exact absurd this (hH hlt)
theorem loE_step (hL : LoE (datE ps) key i) (hi : i < ps.length) (h : slt (at_ prE ps (i : Int)).2.key key) : LoE (datE ps) key (i + 1) := fun j hj hl => by
  rcases Nat.lt_or_ge j i with h1 | h1
  · exact hL j h1 hl
  · obtain rfl : j = i := by omega
    rw [at_dat hi]; exact h
theorem at_drop (hi : i < ps.length) : at_ prE (ps.drop i) (0 : Int) = at_ prE ps (i : Int) := by
  have h0 : 0 < (ps.drop i).length := by rw [List.length_drop]; omega
  have e := at_el prE h0
  rw [List.getElem_drop] at e
  rw [at_el prE hi]
  exact e
theorem th_yes (hlb : lbN (datE ps) key = i) (hi : i < ps.length) (h : (at_ prE (ps.drop i) (0 : Int)).2.key = key) : thR (datE ps) key := by
  rw [at_drop hi] at h
  refine ⟨by rw [hlb, datE_len]; exact hi, ?_⟩
  rw [hlb, at_dat hi]; exact h
theorem th_no (hlb : lbN (datE ps) key = i) (h : ¬ (at_ prE (ps.drop i) (0 : Int)).2.key = key) : ¬ thR (datE ps) key := fun q => by
  have hi : i < ps.length := by have := q.1; rw [hlb, datE_len] at this; exact this
  have := q.2
  rw [hlb, at_dat hi, ← at_drop hi] at this
  exact h this
theorem th_end (hlb : lbN (datE ps) key = i) (h : ps.length ≤ i) : ¬ thR (datE ps) key := fun q => by
  have := q.1; rw [hlb, datE_len] at this; omega
theorem dat_set9 {x : EnD} {r : ByteArray × EntV} {rs : List EnQ} (hlb : lbN (datE ps) x.key = i) (hr : rs = ps.drop (if thR (datE ps) x.key then i + 1 else i)) : datE ((([] ++ ps.take i) ++ [(r, x)]) ++ rs) = putD (datE ps) x := by
  unfold putD
  rw [hlb, hr, List.nil_append, List.append_assoc]
  unfold datE
  rw [List.map_append, List.map_append, List.map_take, List.map_drop]; rfl
/-- Does an entry not end by a time? -/
def lvP (now : Int) (x : EnD) : Bool := decide (x.till = -1 ∨ now < x.till)
theorem lv_next (h : i < l.length) : (l.take (i + 1)).filter (lvP now) = (l.take i).filter (lvP now) ++ (if lvP now (at_ enR l (i : Int)) then [at_ enR l (i : Int)] else []) := by
  rw [List.take_succ_eq_append_getElem h, List.filter_append, at_el enR h]
  congr 1
  rw [List.filter_cons, List.filter_nil]
theorem lv_yes (h : i < l.length) (hq : (at_ enR l (i : Int)).till = -1 ∨ now < (at_ enR l (i : Int)).till) : (l.take (i + 1)).filter (lvP now) = (l.take i).filter (lvP now) ++ [at_ enR l (i : Int)] := by
  rw [lv_next h, if_pos (show lvP now (at_ enR l (i : Int)) = true from decide_eq_true hq)]
theorem lv_no (h : i < l.length) (hq : ¬ ((at_ enR l (i : Int)).till = -1 ∨ now < (at_ enR l (i : Int)).till)) : (l.take (i + 1)).filter (lvP now) = (l.take i).filter (lvP now) := by
  rw [lv_next h, if_neg (show ¬ lvP now (at_ enR l (i : Int)) = true from fun q => hq (of_decide_eq_true q)), List.append_nil]
end
theorem rset_any (w : World) (A : Option Addr) (c : Nat) (ps : List EnQ) (hSp : SlR prE (fun k => k < w.heap.size) w (.slice A ps.length c) ps) (hPp : PsOk (fun k => k < w.heap.size) w ps) (hl : ps.length ≤ 1073741824) (key : ByteArray) (k : Int) (s : ByteArray) (Al : Option Addr) (cl : Nat) (l : List ByteArray) (hSl : SlR Rp.str (fun k => k < w.heap.size) w (.slice Al l.length cl) l) (Az : Option Addr) (cz : Nat) (z : List (ByteArray × Int)) (hSz : SlR scR (fun k => k < w.heap.size) w (.slice Az z.length cz) z) (Ah : Option Addr) (ch : Nat) (h : List (ByteArray × ByteArray)) (hSh : SlR fdR (fun k => k < w.heap.size) w (.slice Ah h.length ch) h) (at' : Int) : Calls Tryz.prog 69 #[.slice A ps.length c, .agg #[.string key, .int .i64 k, .string s, .slice Al l.length cl, .slice Az z.length cz, .slice Ah h.length ch, .int .i64 at']] w (fun e w' => ∃ A' c' qs, e = .returned (.slice A' qs.length c') ∧ datE qs = putD (datE ps) ⟨key, k, s, l, z, h, at'⟩ ∧ OwR prE NoZ w' w.heap.size 55 (.slice A' qs.length c') qs ∧ PsOk (fun k => k < w.heap.size) w' qs ∧ Fr [] w w') := by
 have hF := Fr.refl [] w
 have hlen0 := hSp.len_le
 have hcp0 := hSp.cp.2
 refine V.en 50 Tryz.func69 fun a h1 => ?_
 refine V.sg fun K2 k3 => ?_
 refine V.go (V.mk [(1, .agg #[.string key, .int .i64 k, .string s, .slice Al l.length cl, .slice Az z.length cz, .slice Ah h.length ch, .int .i64 at'])] ⟨h1.e, trivial⟩ (by kernel_rfl) [.string key, .int .i64 k, .string s, .slice Al l.length cl, .slice Az z.length cz, .slice Ah h.length ch, .int .i64 at'] 55 (fun b => .pointer (some ⟨b, 0, none⟩)) (by kernel_rfl) ?_)
 intro w5 b4 heb4 hB6 hF7 hsb4
 have hF_8 := hF.new hF7
 have hSp_9 := hSp.fr0 hF7
 have hPp_10 := hPp.fr0 hF7
 have hSl_11 := hSl.fr0 hF7
 have hSz_12 := hSz.fr0 hF7
 have hSh_13 := hSh.fr0 hF7
 refine V.pt h1 fun a h14 => ?_
 refine V.re h14 [] 4 4 [] fun a h15 => k3 _ _ ?_
 refine V.sr h15 [] 1 0 [(5, .int .i64 0)] fun a h18 => ?_
 refine V.seq_cut (fun a_ w_ => ∃ (j : Nat), En 50 [] a_ [(0, .slice A ps.length c), (3, .pointer (some ⟨b4, 0, none⟩)), (5, .int .i64 (j : Int))] ∧ Fr [] w w_ ∧ SlR prE (fun k => k < w.heap.size) w_ (.slice A ps.length c) ps ∧ PsOk (fun k => k < w.heap.size) w_ ps ∧ SlR Rp.str (fun k => k < w.heap.size) w_ (.slice Al l.length cl) l ∧ SlR scR (fun k => k < w.heap.size) w_ (.slice Az z.length cz) z ∧ SlR fdR (fun k => k < w.heap.size) w_ (.slice Ah h.length ch) h ∧ Blk w_ b4 [.string key, .int .i64 k, .string s, .slice Al l.length cl, .slice Az z.length cz, .slice Ah h.length ch, .int .i64 at'] 55 ∧ (j ≤ ps.length) ∧ (lbN (datE ps) key = j)) ?_ ?_
 ·
  refine V.block ?_
  refine V.loop1 (fun (i : Nat) a_ w_ => En 50 [] a_ [(0, .slice A ps.length c), (3, .pointer (some ⟨b4, 0, none⟩)), (5, .int .i64 (i : Int))] ∧ Fr [] w w_ ∧ SlR prE (fun k => k < w.heap.size) w_ (.slice A ps.length c) ps ∧ PsOk (fun k => k < w.heap.size) w_ ps ∧ SlR Rp.str (fun k => k < w.heap.size) w_ (.slice Al l.length cl) l ∧ SlR scR (fun k => k < w.heap.size) w_ (.slice Az z.length cz) z ∧ SlR fdR (fun k => k < w.heap.size) w_ (.slice Ah h.length ch) h ∧ Blk w_ b4 [.string key, .int .i64 k, .string s, .slice Al l.length cl, .slice Az z.length cz, .slice Ah h.length ch, .int .i64 at'] 55 ∧ (i ≤ ps.length) ∧ (LoE (datE ps) key i)) (fun (i : Nat) => ps.length - i) 0 ?_ ?_
  ·
   refine ⟨(h18.eq 5 (v := (.int .i64 0)) (u := (.int .i64 (0 : Int))) (V.int_eq (by omega))).only _, hF_8, hSp_9, hPp_10, hSl_11, hSz_12, hSh_13, hB6, (by omega), (fun j h => absurd h (by omega))⟩
  ·
   rintro i a19 w20 ⟨h21, hF_22, hSp_23, hPp_24, hSl_25, hSz_26, hSh_27, hB6_28, hi, hL⟩
   have hfs29 := hF_22.size
   have hlt30 := hB6_28.lt
   refine V.seq fun K31 k32 => ?_
   refine V.seq fun K33 k34 => ?_
   refine V.pl [([0,1,2,3,4,5,6,7,8,9,10,11,12,13],none)] fun w35 hF36 hsw35 => ?_
   have hF_37 := hF_22.new hF36
   have hSp_38 := hSp_23.fr0 hF36
   have hPp_39 := hPp_24.fr0 hF36
   have hSl_40 := hSl_25.fr0 hF36
   have hSz_41 := hSz_26.fr0 hF36
   have hSh_42 := hSh_27.fr0 hF36
   have hB6_43 := hB6_28.fr0 hF36
   refine V.pz0 ?_
   refine V.run h21 [] 5 10 10 [(7, .int .i64 (i : Int)), (8, .slice A ps.length c), (9, .int .i64 ((ps.length : Nat) : Int)), (11, .bool (decide ((i : Int) < ((ps.length : Nat) : Int))))] fun a h44 => ?_
   by_cases hg45 : (i : Int) < ((ps.length : Nat) : Int)
   ·
    have h46 := h44.kt 11 hg45
    obtain ⟨g47, o48, hA49, hA49l, hA49z⟩ := hSp_38.addr (by omega)
    obtain ⟨cs50, hok51, hE52⟩ := hSp_38.els hA49 (i : Int) (by omega) (by omega)
    obtain rfl : cs50 = entC (at_ prE ps (i : Int)).1 := hok51
    obtain ⟨Al53, cl54, Az55, cz56, Ah57, ch58, hq59, hS60, hS61, hS62⟩ := en_open (hPp_39 (at_ prE ps (i : Int)) (at_in prE (by omega)))
    rw [hq59] at hE52
    refine V.se h46 [(2, .ix g47 o48 ps.length c .i64 (i : Int) 7 hA49), (1, .l ⟨g47, o48 + (i : Int).toNat * 7, none⟩ (.string ((at_ prE ps (i : Int)).2.key)) (hE52.at 0 rfl)), (1, .b hB6_43 0), (0, .q (.bool (decide (slt ((at_ prE ps (i : Int)).2.key) key))) V.t_slss)] 12 19 [(16, .string ((at_ prE ps (i : Int)).2.key)), (18, .string key), (20, .bool (decide (slt ((at_ prE ps (i : Int)).2.key) key)))] fun a h63 => k34 _ _ ?_
    refine V.cp h63 (slt ((at_ prE ps (i : Int)).2.key) key) (fun ht64 => ?_) (fun ht64 => ?_)
    ·
     refine V.skip ?_
     refine V.then_n (k32 _ _ ?_)
     refine V.block ?_
     refine V.rr h63 [(1, .i ((i : Int) + 1))] 21 22 [(5, .int .i64 ((i : Int) + 1))] fun a h65 => ?_
     refine V.blk_n (V.then_n ?_)
     refine ⟨i + 1, by omega, ?_⟩
     refine ⟨(h65.eq 5 (v := (.int .i64 ((i : Int) + 1))) (u := (.int .i64 ((i + 1) : Int))) (V.int_eq (by omega))).only _, hF_37, hSp_38, hPp_39, hSl_40, hSz_41, hSh_42, hB6_43, (by omega), (loE_step hL (by omega) ht64)⟩
    ·
     refine V.exit (V.then_e (V.then_e (V.blk_hit (V.then_n ?_))))
     refine ⟨i, (h63.eq 5 (v := (.int .i64 (i : Int))) (u := (.int .i64 (i : Int))) (rfl)).only _, hF_37, hSp_38, hPp_39, hSl_40, hSz_41, hSh_42, hB6_43, (by omega), (lb_eq2 (by rw [datE_len]; omega) hL (fun q => by rw [datE_len] at q; rw [at_dat q]; exact ht64))⟩
   ·
    have h66 := h44.kf 11 hg45
    refine V.se h66 [] 12 19 [(16, undef), (18, undef), (20, .bool false)] fun a h67 => k34 _ _ ?_
    refine V.cf h67 ?_
    refine V.exit (V.then_e (V.then_e (V.blk_hit (V.then_n ?_))))
    refine ⟨i, (h67.eq 5 (v := (.int .i64 (i : Int))) (u := (.int .i64 (i : Int))) (rfl)).only _, hF_37, hSp_38, hPp_39, hSl_40, hSz_41, hSh_42, hB6_43, (by omega), (lb_eq2 (by rw [datE_len]; omega) hL (fun q => by rw [datE_len] at q; omega))⟩
 ·
  rintro a68 w69 ⟨j, h70, hF_71, hSp_72, hPp_73, hSl_74, hSz_75, hSh_76, hB6_77, hj, hlb⟩
  have hfs78 := hF_71.size
  have hlt79 := hB6_77.lt
  have hS82 := hSp_72.dr (i := j) (by omega)
  refine V.sr h70 [(2, .cutE A ps.length c (j : Int) j 7)] 23 25 [(6, .slice (cutA A j c 7) (ps.length - j) (c - j))] fun a h83 => ?_
  refine V.seq_cut (fun a_ w_ => ∃ (Ar : Option Addr), ∃ (cr : Nat), ∃ (rs : List EnQ), En 50 [] a_ [(0, .slice A ps.length c), (3, .pointer (some ⟨b4, 0, none⟩)), (5, .int .i64 (j : Int)), (6, .slice Ar rs.length cr)] ∧ SlR prE (fun k => k < w.heap.size) w_ (.slice Ar rs.length cr) rs ∧ Fr [] w w_ ∧ SlR prE (fun k => k < w.heap.size) w_ (.slice A ps.length c) ps ∧ PsOk (fun k => k < w.heap.size) w_ ps ∧ SlR Rp.str (fun k => k < w.heap.size) w_ (.slice Al l.length cl) l ∧ SlR scR (fun k => k < w.heap.size) w_ (.slice Az z.length cz) z ∧ SlR fdR (fun k => k < w.heap.size) w_ (.slice Ah h.length ch) h ∧ Blk w_ b4 [.string key, .int .i64 k, .string s, .slice Al l.length cl, .slice Az z.length cz, .slice Ah h.length ch, .int .i64 at'] 55 ∧ (rs = ps.drop (if thR (datE ps) key then j + 1 else j))) ?_ ?_
  ·
   refine V.seq fun K84 k85 => ?_
   have hP86 := hPp_73.sub (qs := ps.drop j) fun q hq => List.mem_of_mem_drop hq
   have hdl : (ps.drop j).length = ps.length - j := List.length_drop
   refine V.pl [([0,1,2,3,4,5,6,7,8,9,10,11],none)] fun w87 hF88 hsw87 => ?_
   have hF_89 := hF_71.new hF88
   have hSp_90 := hSp_72.fr0 hF88
   have hPp_91 := hPp_73.fr0 hF88
   have hSl_92 := hSl_74.fr0 hF88
   have hSz_93 := hSz_75.fr0 hF88
   have hSh_94 := hSh_76.fr0 hF88
   have hB6_95 := hB6_77.fr0 hF88
   have hS82_96 := hS82.fr0 hF88
   have hP86_97 := hP86.fr0 hF88
   refine V.pz0 ?_
   refine V.run h83 [] 4 28 28 [(26, .slice (cutA A j c 7) (ps.length - j) (c - j)), (27, .int .i64 ((ps.length - j : Nat) : Int)), (29, .bool (decide (((ps.length - j : Nat) : Int) > 0)))] fun a h98 => ?_
   by_cases hg99 : ((ps.length - j : Nat) : Int) > 0
   ·
    have h100 := h98.kt 29 hg99
    obtain ⟨g101, o102, hA103, hA103l, hA103z⟩ := hS82_96.addr (by omega)
    obtain ⟨cs104, hok105, hE106⟩ := hS82_96.els hA103 (0 : Int) (by omega) (by omega)
    obtain rfl : cs104 = entC (at_ prE (ps.drop j) (0 : Int)).1 := hok105
    obtain ⟨Al107, cl108, Az109, cz110, Ah111, ch112, hq113, hS114, hS115, hS116⟩ := en_open (hP86_97 (at_ prE (ps.drop j) (0 : Int)) (at_in prE (i := 0) (by omega)))
    rw [hq113] at hE106
    refine V.se h100 [(1, .ix g101 o102 (ps.length - j) (c - j) .i64 0 7 hA103), (1, .l ⟨g101, o102 + (0 : Int).toNat * 7, none⟩ (.string ((at_ prE (ps.drop j) (0 : Int)).2.key)) (hE106.at 0 rfl)), (1, .b hB6_95 0), (0, .seq ((at_ prE (ps.drop j) (0 : Int)).2.key) key)] 30 36 [(33, .string ((at_ prE (ps.drop j) (0 : Int)).2.key)), (35, .string key), (37, .bool (decide (((at_ prE (ps.drop j) (0 : Int)).2.key) = key)))] fun a h117 => k85 _ _ ?_
    refine V.cp h117 (((at_ prE (ps.drop j) (0 : Int)).2.key) = key) (fun ht118 => ?_) (fun ht118 => ?_)
    ·
     have hS119 := hS82_96.dr (i := 1) (by omega)
     refine V.rr h117 [(1, .cutE (cutA A j c 7) (ps.length - j) (c - j) 1 1 7)] 38 39 [(6, .slice (cutA (cutA A j c 7) 1 (c - j) 7) ((ps.length - j) - 1) ((c - j) - 1))] fun a h120 => ?_
     refine V.then_n ?_
     refine ⟨(cutA (cutA A j c 7) 1 (c - j) 7), ((c - j) - 1), ((ps.drop j).drop 1), (h120.eq 6 (v := (.slice (cutA (cutA A j c 7) 1 (c - j) 7) ((ps.length - j) - 1) ((c - j) - 1))) (u := (.slice (cutA (cutA A j c 7) 1 (c - j) 7) ((ps.drop j).drop 1).length ((c - j) - 1))) ((V.sl_eq (by simp only [List.length_drop])))).only _, (by have h := hS119; simp only [List.length_drop] at h ⊢; exact h), hF_89, hSp_90, hPp_91, hSl_92, hSz_93, hSh_94, hB6_95, (by rw [if_pos (th_yes hlb (by omega) ht118)]; exact List.drop_drop)⟩
    ·
     refine V.skip (V.then_n ?_)
     refine ⟨(cutA A j c 7), (c - j), (ps.drop j), (h117.eq 6 (v := (.slice (cutA A j c 7) (ps.length - j) (c - j))) (u := (.slice (cutA A j c 7) (ps.drop j).length (c - j))) ((V.sl_eq (by simp only [List.length_drop])))).only _, (by have h := hS82_96; simp only [List.length_drop] at h ⊢; exact h), hF_89, hSp_90, hPp_91, hSl_92, hSz_93, hSh_94, hB6_95, (by rw [if_neg (th_no hlb ht118)])⟩
   ·
    have h121 := h98.kf 29 hg99
    refine V.se h121 [] 30 36 [(33, undef), (35, undef), (37, .bool false)] fun a h122 => k85 _ _ ?_
    refine V.cf h122 ?_
    refine V.skip (V.then_n ?_)
    refine ⟨(cutA A j c 7), (c - j), (ps.drop j), (h122.eq 6 (v := (.slice (cutA A j c 7) (ps.length - j) (c - j))) (u := (.slice (cutA A j c 7) (ps.drop j).length (c - j))) ((V.sl_eq (by simp only [List.length_drop])))).only _, (by have h := hS82_96; simp only [List.length_drop] at h ⊢; exact h), hF_89, hSp_90, hPp_91, hSl_92, hSz_93, hSh_94, hB6_95, (by rw [if_neg (th_end hlb (by omega))])⟩
  ·
   rintro a123 w124 ⟨Ar, cr, rs, h125, hR_126, hF_127, hSp_128, hPp_129, hSl_130, hSz_131, hSh_132, hB6_133, hrs⟩
   have hfs134 := hF_127.size
   have hlt135 := hB6_133.lt
   refine V.seq fun K136 k137 => ?_
   have hrl : rs.length ≤ ps.length := by rw [hrs, List.length_drop]; omega
   refine V.ql (.seg [1, 2, 3, 5, 8] (.alt (.eff 0 [5] (.alt (.eff 4 [5] (.eff 6 [] (.eff 7 [] (.eff 9 [] (.seg [10] .nil))))) (.eff 6 [] (.eff 4 [5] (.eff 7 [] (.eff 9 [] (.seg [10] .nil))))))) (.eff 6 [] (.eff 0 [5] (.eff 4 [5] (.eff 7 [] (.eff 9 [] (.seg [10] .nil)))))))) fun w138 hF139 hsw138 => ?_
   have hR_140 := hR_126.fr0 hF139
   have hF_141 := hF_127.new hF139
   have hSp_142 := hSp_128.fr0 hF139
   have hPp_143 := hPp_129.fr0 hF139
   have hSl_144 := hSl_130.fr0 hF139
   have hSz_145 := hSz_131.fr0 hF139
   have hSh_146 := hSh_132.fr0 hF139
   have hB6_147 := hB6_133.fr0 hF139
   have hS148 := hSp_142.tk (i := j) (by omega)
   refine V.qs h125 [(2, .cut0 A ps.length c (j : Int) j 7), (0, .bs hB6_147 0 [.string key, .int .i64 k, .string s, .slice Al l.length cl, .slice Az z.length cz, .slice Ah h.length ch, .int .i64 at'])] 41 42 [(43, .slice A j c), (45, .agg #[.string key, .int .i64 k, .string s, .slice Al l.length cl, .slice Az z.length cz, .slice Ah h.length ch, .int .i64 at']), (48, .slice Ar rs.length cr)] fun a h149 => ?_
   refine V.qa ?_ ?_
   ·
    refine V.qe ?_
    refine V.go (V.mk [] trivial (by kernel_rfl) [] 55 (fun b => .slice (some ⟨b, 0, none⟩) 0 0) (by kernel_rfl) ?_)
    intro w151 b150 heb150 hB152 hF153 hsb150
    have hR_154 := hR_140.fr0 hF153
    have hF_155 := hF_141.new hF153
    have hPp_157 := hPp_143.fr0 hF153
    have hSl_158 := hSl_144.fr0 hF153
    have hSz_159 := hSz_145.fr0 hF153
    have hSh_160 := hSh_146.fr0 hF153
    have hB6_161 := hB6_147.fr0 hF153
    have hS148_162 := hS148.fr0 hF153
    refine V.pt h149 fun a h163 => ?_
    have hO164 := OwR.empty (R := prE) (base := b150) hB152 (Nat.le_refl _)
    refine V.eh (fun _ => held_blk (n := 7) (hx := (h149.e (v := (.pointer (some ⟨b4, 0, none⟩))))) hB6_147 hB6_161 (by kernel_rfl) rfl (by simp only [List.length]; omega)) ?_
    refine V.qa ?_ ?_
    ·
     refine V.qe ?_
     refine V.go (V.appS (R := prE) (h163.e (v := (.slice (some ⟨b150, 0, none⟩) 0 0))) (h163.e (v := (.slice A j c))) (by kernel_rfl) info55 (by kernel_rfl) (by decide) hO164 hS148_162 (fun _ _ h => h) (by (simp only [List.length_append, List.length_take, List.length_drop, List.length_nil, List.length_singleton]); omega) (by decide) (by omega) ?_)
     intro A165 c166 w167 hO168 hF169
     have hsw167 := hF169.size
     have hR_170 := hR_154.fr hF169 (by intro b hb hz; have := own_ge hO164 (Nat.le_refl _) b hb; (try dsimp only at hz); omega)
     have hF_171 := hF_155.own hF169 (own_ge hO164 (by omega))
     have hPp_173 := hPp_157.fr hF169 (by intro b hb hz; have := own_ge hO164 (Nat.le_refl _) b hb; (try dsimp only at hz); omega)
     have hSl_174 := hSl_158.fr hF169 (by intro b hb hz; have := own_ge hO164 (Nat.le_refl _) b hb; (try dsimp only at hz); omega)
     have hSz_175 := hSz_159.fr hF169 (by intro b hb hz; have := own_ge hO164 (Nat.le_refl _) b hb; (try dsimp only at hz); omega)
     have hSh_176 := hSh_160.fr hF169 (by intro b hb hz; have := own_ge hO164 (Nat.le_refl _) b hb; (try dsimp only at hz); omega)
     have hB6_177 := hB6_161.fr hF169 (by first | exact own_notin hO164 (by omega) | exact own_notin2 hO164 (by omega))
     refine V.pt h163 fun a h179 => ?_
     refine V.eh (fun _ => held_blk (n := 7) (hx := (h163.e (v := (.pointer (some ⟨b4, 0, none⟩))))) hB6_161 hB6_177 (by kernel_rfl) rfl (by simp only [List.length]; omega)) ?_
     refine V.qe ?_
     refine V.go (V.mk [(45, .agg #[.string key, .int .i64 k, .string s, .slice Al l.length cl, .slice Az z.length cz, .slice Ah h.length ch, .int .i64 at'])] ⟨h179.e, trivial⟩ (by kernel_rfl) [.string key, .int .i64 k, .string s, .slice Al l.length cl, .slice Az z.length cz, .slice Ah h.length ch, .int .i64 at'] 55 (fun b => .slice (some ⟨b, 0, none⟩) 1 1) (by kernel_rfl) ?_)
     intro w181 b180 heb180 hB182 hF183 hsb180
     have hR_184 := hR_170.fr0 hF183
     have hF_185 := hF_171.new hF183
     have hPp_187 := hPp_173.fr0 hF183
     have hSl_188 := hSl_174.fr0 hF183
     have hSz_189 := hSz_175.fr0 hF183
     have hSh_190 := hSh_176.fr0 hF183
     have hO168_193 := hO168.fr0 hF183
     refine V.pt h179 fun a h194 => ?_
     refine V.eh trivial ?_
     refine V.qe ?_
     refine V.go (V.app (R := prE) (ys := ([(rawE (⟨key, k, s, l, z, h, at'⟩ : EnD) Al cl Az cz Ah ch, (⟨key, k, s, l, z, h, at'⟩ : EnD))])) (news := [(.string key), (.int .i64 k), (.string s), (.slice Al l.length cl), (.slice Az z.length cz), (.slice Ah h.length ch), (.int .i64 at')]) (h194.e (v := (.slice A165 ((([] : List EnQ)).length + (ps.take j).length) c166))) ⟨b180, 0, none⟩ 1 1 (h194.e (v := (.slice (some ⟨b180, 0, none⟩) 1 1))) (by kernel_rfl) (info55) (by kernel_rfl) (by decide) hO168_193 rfl ⟨_, [], rfl, rfl, rfl⟩ (blk_cells hB182 0 _ rfl) (by first | omega | (simp; omega)) (by decide) (by omega) ?_)
     intro A195 c196 w197 hO198z hF199 hatw197
     have hsw197 := hF199.size
     have hR_200 := hR_184.fr hF199 (by intro b hb hz; have := own_ge hO168_193 (Nat.le_refl _) b hb; (try dsimp only at hz); omega)
     have hF_201 := hF_185.own hF199 (own_ge hO168_193 (by omega))
     have hPp_203 := hPp_187.fr hF199 (by intro b hb hz; have := own_ge hO168_193 (Nat.le_refl _) b hb; (try dsimp only at hz); omega)
     have hSl_204 := hSl_188.fr hF199 (by intro b hb hz; have := own_ge hO168_193 (Nat.le_refl _) b hb; (try dsimp only at hz); omega)
     have hSz_205 := hSz_189.fr hF199 (by intro b hb hz; have := own_ge hO168_193 (Nat.le_refl _) b hb; (try dsimp only at hz); omega)
     have hSh_206 := hSh_190.fr hF199 (by intro b hb hz; have := own_ge hO168_193 (Nat.le_refl _) b hb; (try dsimp only at hz); omega)
     have hO198 := hO198z.zone (Z' := NoZ) (fun _ _ q => q.1) (fun _ _ q => q)
     refine V.pt h194 fun a h209 => ?_
     refine V.eh trivial ?_
     refine V.qe ?_
     refine V.go (V.appS (R := prE) (h209.e (v := (.slice A195 (((([] : List EnQ) ++ (ps.take j)).length) + 1) c196))) (h209.e (v := (.slice Ar rs.length cr))) (by kernel_rfl) info55 (by kernel_rfl) (by decide) hO198 hR_200 (fun _ _ h => h) (by (simp only [List.length_append, List.length_take, List.length_drop, List.length_nil, List.length_singleton]); omega) (by decide) (by omega) ?_)
     intro A210 c211 w212 hO213 hF214
     have hsw212 := hF214.size
     have hF_216 := hF_201.own hF214 (own_ge hO198 (by omega))
     have hPp_218 := hPp_203.fr hF214 (by intro b hb hz; have := own_ge hO198 (Nat.le_refl _) b hb; (try dsimp only at hz); omega)
     have hSl_219 := hSl_204.fr hF214 (by intro b hb hz; have := own_ge hO198 (Nat.le_refl _) b hb; (try dsimp only at hz); omega)
     have hSz_220 := hSz_205.fr hF214 (by intro b hb hz; have := own_ge hO198 (Nat.le_refl _) b hb; (try dsimp only at hz); omega)
     have hSh_221 := hSh_206.fr hF214 (by intro b hb hz; have := own_ge hO198 (Nat.le_refl _) b hb; (try dsimp only at hz); omega)
     refine V.pt h209 fun a h224 => ?_
     refine V.eh trivial ?_
     refine V.qs h224 [] 1 0 [(4, .slice A210 (((([] : List EnQ) ++ (ps.take j)) ++ [(rawE (⟨key, k, s, l, z, h, at'⟩ : EnD) Al cl Az cz Ah ch, (⟨key, k, s, l, z, h, at'⟩ : EnD))]).length + (rs).length) c211)] fun a h225 => ?_
     refine V.qn (k137 _ _ ?_)
     refine V.ret ?_
     refine V.r1 h225 (.slice A210 (((([] : List EnQ) ++ (ps.take j)) ++ [(rawE (⟨key, k, s, l, z, h, at'⟩ : EnD) Al cl Az cz Ah ch, (⟨key, k, s, l, z, h, at'⟩ : EnD))]).length + (rs).length) c211) ?_
     have hq9 := hO213.rebase (base' := w.heap.size) (by omega)
     have hp9 : PsOk (fun k => k < w.heap.size) w212 (([] ++ ps.take j) ++ [(rawE (⟨key, k, s, l, z, h, at'⟩ : EnD) Al cl Az cz Ah ch, (⟨key, k, s, l, z, h, at'⟩ : EnD))]) := (PsOk.app PsOk.nil (hPp_218.sub fun q hq => List.mem_of_mem_take hq)).app (PsOk.one ⟨_, _, _, rfl, hSl_219, hSz_220, hSh_221⟩)
     have hp8 := hp9.app (hPp_218.sub (qs := rs) fun q hq => List.mem_of_mem_drop (hrs ▸ hq))
     have hd9 := dat_set9 (x := (⟨key, k, s, l, z, h, at'⟩ : EnD)) (r := ((rawE (⟨key, k, s, l, z, h, at'⟩ : EnD) Al cl Az cz Ah ch, (⟨key, k, s, l, z, h, at'⟩ : EnD))).1) hlb hrs
     have hn9 : ((([] : List EnQ) ++ (ps.take j)) ++ [(rawE (⟨key, k, s, l, z, h, at'⟩ : EnD) Al cl Az cz Ah ch, (⟨key, k, s, l, z, h, at'⟩ : EnD))]).length + (rs).length = (((([] : List EnQ) ++ (ps.take j)) ++ [(rawE (⟨key, k, s, l, z, h, at'⟩ : EnD) Al cl Az cz Ah ch, (⟨key, k, s, l, z, h, at'⟩ : EnD))]) ++ rs).length := by simp only [List.length_append, List.length_take, List.length_nil, List.length_singleton]; try omega
     rw [hn9] at hq9
     exact ⟨_, _, _, by rw [hn9], hd9, hq9, hp8, hF_216⟩
    ·
     refine V.qe ?_
     refine V.go (V.mk [(45, .agg #[.string key, .int .i64 k, .string s, .slice Al l.length cl, .slice Az z.length cz, .slice Ah h.length ch, .int .i64 at'])] ⟨h163.e, trivial⟩ (by kernel_rfl) [.string key, .int .i64 k, .string s, .slice Al l.length cl, .slice Az z.length cz, .slice Ah h.length ch, .int .i64 at'] 55 (fun b => .slice (some ⟨b, 0, none⟩) 1 1) (by kernel_rfl) ?_)
     intro w227 b226 heb226 hB228 hF229 hsb226
     have hR_230 := hR_154.fr0 hF229
     have hF_231 := hF_155.new hF229
     have hPp_233 := hPp_157.fr0 hF229
     have hSl_234 := hSl_158.fr0 hF229
     have hSz_235 := hSz_159.fr0 hF229
     have hSh_236 := hSh_160.fr0 hF229
     have hB6_237 := hB6_161.fr0 hF229
     have hS148_238 := hS148_162.fr0 hF229
     have hO164_239 := hO164.fr0 hF229
     refine V.pt h163 fun a h240 => ?_
     refine V.eh trivial ?_
     refine V.qe ?_
     refine V.go (V.appS (R := prE) (h240.e (v := (.slice (some ⟨b150, 0, none⟩) 0 0))) (h240.e (v := (.slice A j c))) (by kernel_rfl) info55 (by kernel_rfl) (by decide) hO164_239 hS148_238 (fun _ _ h => h) (by (simp only [List.length_append, List.length_take, List.length_drop, List.length_nil, List.length_singleton]); omega) (by decide) (by omega) ?_)
     intro A241 c242 w243 hO244 hF245
     have hsw243 := hF245.size
     have hR_246 := hR_230.fr hF245 (by intro b hb hz; have := own_ge hO164_239 (Nat.le_refl _) b hb; (try dsimp only at hz); omega)
     have hF_247 := hF_231.own hF245 (own_ge hO164_239 (by omega))
     have hPp_249 := hPp_233.fr hF245 (by intro b hb hz; have := own_ge hO164_239 (Nat.le_refl _) b hb; (try dsimp only at hz); omega)
     have hSl_250 := hSl_234.fr hF245 (by intro b hb hz; have := own_ge hO164_239 (Nat.le_refl _) b hb; (try dsimp only at hz); omega)
     have hSz_251 := hSz_235.fr hF245 (by intro b hb hz; have := own_ge hO164_239 (Nat.le_refl _) b hb; (try dsimp only at hz); omega)
     have hSh_252 := hSh_236.fr hF245 (by intro b hb hz; have := own_ge hO164_239 (Nat.le_refl _) b hb; (try dsimp only at hz); omega)
     have hB6_253 := hB6_237.fr hF245 (by first | exact own_notin hO164_239 (by omega) | exact own_notin2 hO164 (by omega))
     have hB228_255 := hB228.fr hF245 (by first | exact own_notin hO164_239 (by omega) | exact own_notin2 hO164 (by omega))
     refine V.pt h240 fun a h256 => ?_
     refine V.eh (fun _ => held_blk (n := 7) (hx := (h240.e (v := (.pointer (some ⟨b4, 0, none⟩))))) hB6_237 hB6_253 (by kernel_rfl) rfl (by simp only [List.length]; omega)) ?_
     refine V.qe ?_
     refine V.go (V.app (R := prE) (ys := ([(rawE (⟨key, k, s, l, z, h, at'⟩ : EnD) Al cl Az cz Ah ch, (⟨key, k, s, l, z, h, at'⟩ : EnD))])) (news := [(.string key), (.int .i64 k), (.string s), (.slice Al l.length cl), (.slice Az z.length cz), (.slice Ah h.length ch), (.int .i64 at')]) (h256.e (v := (.slice A241 ((([] : List EnQ)).length + (ps.take j).length) c242))) ⟨b226, 0, none⟩ 1 1 (h256.e (v := (.slice (some ⟨b226, 0, none⟩) 1 1))) (by kernel_rfl) (info55) (by kernel_rfl) (by decide) hO244 rfl ⟨_, [], rfl, rfl, rfl⟩ (blk_cells hB228_255 0 _ rfl) (by first | omega | (simp; omega)) (by decide) (by omega) ?_)
     intro A257 c258 w259 hO260z hF261 hatw259
     have hsw259 := hF261.size
     have hR_262 := hR_246.fr hF261 (by intro b hb hz; have := own_ge hO244 (Nat.le_refl _) b hb; (try dsimp only at hz); omega)
     have hF_263 := hF_247.own hF261 (own_ge hO244 (by omega))
     have hPp_265 := hPp_249.fr hF261 (by intro b hb hz; have := own_ge hO244 (Nat.le_refl _) b hb; (try dsimp only at hz); omega)
     have hSl_266 := hSl_250.fr hF261 (by intro b hb hz; have := own_ge hO244 (Nat.le_refl _) b hb; (try dsimp only at hz); omega)
     have hSz_267 := hSz_251.fr hF261 (by intro b hb hz; have := own_ge hO244 (Nat.le_refl _) b hb; (try dsimp only at hz); omega)
     have hSh_268 := hSh_252.fr hF261 (by intro b hb hz; have := own_ge hO244 (Nat.le_refl _) b hb; (try dsimp only at hz); omega)
     have hO260 := hO260z.zone (Z' := NoZ) (fun _ _ q => q.1) (fun _ _ q => q)
     refine V.pt h256 fun a h271 => ?_
     refine V.eh trivial ?_
     refine V.qe ?_
     refine V.go (V.appS (R := prE) (h271.e (v := (.slice A257 (((([] : List EnQ) ++ (ps.take j)).length) + 1) c258))) (h271.e (v := (.slice Ar rs.length cr))) (by kernel_rfl) info55 (by kernel_rfl) (by decide) hO260 hR_262 (fun _ _ h => h) (by (simp only [List.length_append, List.length_take, List.length_drop, List.length_nil, List.length_singleton]); omega) (by decide) (by omega) ?_)
     intro A272 c273 w274 hO275 hF276
     have hsw274 := hF276.size
     have hF_278 := hF_263.own hF276 (own_ge hO260 (by omega))
     have hPp_280 := hPp_265.fr hF276 (by intro b hb hz; have := own_ge hO260 (Nat.le_refl _) b hb; (try dsimp only at hz); omega)
     have hSl_281 := hSl_266.fr hF276 (by intro b hb hz; have := own_ge hO260 (Nat.le_refl _) b hb; (try dsimp only at hz); omega)
     have hSz_282 := hSz_267.fr hF276 (by intro b hb hz; have := own_ge hO260 (Nat.le_refl _) b hb; (try dsimp only at hz); omega)
     have hSh_283 := hSh_268.fr hF276 (by intro b hb hz; have := own_ge hO260 (Nat.le_refl _) b hb; (try dsimp only at hz); omega)
     refine V.pt h271 fun a h286 => ?_
     refine V.eh trivial ?_
     refine V.qs h286 [] 1 0 [(4, .slice A272 (((([] : List EnQ) ++ (ps.take j)) ++ [(rawE (⟨key, k, s, l, z, h, at'⟩ : EnD) Al cl Az cz Ah ch, (⟨key, k, s, l, z, h, at'⟩ : EnD))]).length + (rs).length) c273)] fun a h287 => ?_
     refine V.qn (k137 _ _ ?_)
     refine V.ret ?_
     refine V.r1 h287 (.slice A272 (((([] : List EnQ) ++ (ps.take j)) ++ [(rawE (⟨key, k, s, l, z, h, at'⟩ : EnD) Al cl Az cz Ah ch, (⟨key, k, s, l, z, h, at'⟩ : EnD))]).length + (rs).length) c273) ?_
     have hq9 := hO275.rebase (base' := w.heap.size) (by omega)
     have hp9 : PsOk (fun k => k < w.heap.size) w274 (([] ++ ps.take j) ++ [(rawE (⟨key, k, s, l, z, h, at'⟩ : EnD) Al cl Az cz Ah ch, (⟨key, k, s, l, z, h, at'⟩ : EnD))]) := (PsOk.app PsOk.nil (hPp_280.sub fun q hq => List.mem_of_mem_take hq)).app (PsOk.one ⟨_, _, _, rfl, hSl_281, hSz_282, hSh_283⟩)
     have hp8 := hp9.app (hPp_280.sub (qs := rs) fun q hq => List.mem_of_mem_drop (hrs ▸ hq))
     have hd9 := dat_set9 (x := (⟨key, k, s, l, z, h, at'⟩ : EnD)) (r := ((rawE (⟨key, k, s, l, z, h, at'⟩ : EnD) Al cl Az cz Ah ch, (⟨key, k, s, l, z, h, at'⟩ : EnD))).1) hlb hrs
     have hn9 : ((([] : List EnQ) ++ (ps.take j)) ++ [(rawE (⟨key, k, s, l, z, h, at'⟩ : EnD) Al cl Az cz Ah ch, (⟨key, k, s, l, z, h, at'⟩ : EnD))]).length + (rs).length = (((([] : List EnQ) ++ (ps.take j)) ++ [(rawE (⟨key, k, s, l, z, h, at'⟩ : EnD) Al cl Az cz Ah ch, (⟨key, k, s, l, z, h, at'⟩ : EnD))]) ++ rs).length := by simp only [List.length_append, List.length_take, List.length_nil, List.length_singleton]; try omega
     rw [hn9] at hq9
     exact ⟨_, _, _, by rw [hn9], hd9, hq9, hp8, hF_278⟩
   ·
    refine V.qe ?_
    refine V.go (V.mk [(45, .agg #[.string key, .int .i64 k, .string s, .slice Al l.length cl, .slice Az z.length cz, .slice Ah h.length ch, .int .i64 at'])] ⟨h149.e, trivial⟩ (by kernel_rfl) [.string key, .int .i64 k, .string s, .slice Al l.length cl, .slice Az z.length cz, .slice Ah h.length ch, .int .i64 at'] 55 (fun b => .slice (some ⟨b, 0, none⟩) 1 1) (by kernel_rfl) ?_)
    intro w289 b288 heb288 hB290 hF291 hsb288
    have hR_292 := hR_140.fr0 hF291
    have hF_293 := hF_141.new hF291
    have hPp_295 := hPp_143.fr0 hF291
    have hSl_296 := hSl_144.fr0 hF291
    have hSz_297 := hSz_145.fr0 hF291
    have hSh_298 := hSh_146.fr0 hF291
    have hB6_299 := hB6_147.fr0 hF291
    have hS148_300 := hS148.fr0 hF291
    refine V.pt h149 fun a h301 => ?_
    refine V.eh trivial ?_
    refine V.qe ?_
    refine V.go (V.mk [] trivial (by kernel_rfl) [] 55 (fun b => .slice (some ⟨b, 0, none⟩) 0 0) (by kernel_rfl) ?_)
    intro w303 b302 heb302 hB304 hF305 hsb302
    have hR_306 := hR_292.fr0 hF305
    have hF_307 := hF_293.new hF305
    have hPp_309 := hPp_295.fr0 hF305
    have hSl_310 := hSl_296.fr0 hF305
    have hSz_311 := hSz_297.fr0 hF305
    have hSh_312 := hSh_298.fr0 hF305
    have hB6_313 := hB6_299.fr0 hF305
    have hS148_314 := hS148_300.fr0 hF305
    have hB290_315 := hB290.fr0 hF305
    refine V.pt h301 fun a h316 => ?_
    have hO317 := OwR.empty (R := prE) (base := b302) hB304 (Nat.le_refl _)
    refine V.eh (fun _ => held_blk (n := 7) (hx := (h301.e (v := (.pointer (some ⟨b4, 0, none⟩))))) hB6_299 hB6_313 (by kernel_rfl) rfl (by simp only [List.length]; omega)) ?_
    refine V.qe ?_
    refine V.go (V.appS (R := prE) (h316.e (v := (.slice (some ⟨b302, 0, none⟩) 0 0))) (h316.e (v := (.slice A j c))) (by kernel_rfl) info55 (by kernel_rfl) (by decide) hO317 hS148_314 (fun _ _ h => h) (by (simp only [List.length_append, List.length_take, List.length_drop, List.length_nil, List.length_singleton]); omega) (by decide) (by omega) ?_)
    intro A318 c319 w320 hO321 hF322
    have hsw320 := hF322.size
    have hR_323 := hR_306.fr hF322 (by intro b hb hz; have := own_ge hO317 (Nat.le_refl _) b hb; (try dsimp only at hz); omega)
    have hF_324 := hF_307.own hF322 (own_ge hO317 (by omega))
    have hPp_326 := hPp_309.fr hF322 (by intro b hb hz; have := own_ge hO317 (Nat.le_refl _) b hb; (try dsimp only at hz); omega)
    have hSl_327 := hSl_310.fr hF322 (by intro b hb hz; have := own_ge hO317 (Nat.le_refl _) b hb; (try dsimp only at hz); omega)
    have hSz_328 := hSz_311.fr hF322 (by intro b hb hz; have := own_ge hO317 (Nat.le_refl _) b hb; (try dsimp only at hz); omega)
    have hSh_329 := hSh_312.fr hF322 (by intro b hb hz; have := own_ge hO317 (Nat.le_refl _) b hb; (try dsimp only at hz); omega)
    have hB6_330 := hB6_313.fr hF322 (by first | exact own_notin hO317 (by omega) | exact own_notin2 hO317 (by omega))
    have hB290_332 := hB290_315.fr hF322 (by first | exact own_notin hO317 (by omega) | exact own_notin2 hO317 (by omega))
    refine V.pt h316 fun a h333 => ?_
    refine V.eh (fun _ => held_blk (n := 7) (hx := (h316.e (v := (.pointer (some ⟨b4, 0, none⟩))))) hB6_313 hB6_330 (by kernel_rfl) rfl (by simp only [List.length]; omega)) ?_
    refine V.qe ?_
    refine V.go (V.app (R := prE) (ys := ([(rawE (⟨key, k, s, l, z, h, at'⟩ : EnD) Al cl Az cz Ah ch, (⟨key, k, s, l, z, h, at'⟩ : EnD))])) (news := [(.string key), (.int .i64 k), (.string s), (.slice Al l.length cl), (.slice Az z.length cz), (.slice Ah h.length ch), (.int .i64 at')]) (h333.e (v := (.slice A318 ((([] : List EnQ)).length + (ps.take j).length) c319))) ⟨b288, 0, none⟩ 1 1 (h333.e (v := (.slice (some ⟨b288, 0, none⟩) 1 1))) (by kernel_rfl) (info55) (by kernel_rfl) (by decide) hO321 rfl ⟨_, [], rfl, rfl, rfl⟩ (blk_cells hB290_332 0 _ rfl) (by first | omega | (simp; omega)) (by decide) (by omega) ?_)
    intro A334 c335 w336 hO337z hF338 hatw336
    have hsw336 := hF338.size
    have hR_339 := hR_323.fr hF338 (by intro b hb hz; have := own_ge hO321 (Nat.le_refl _) b hb; (try dsimp only at hz); omega)
    have hF_340 := hF_324.own hF338 (own_ge hO321 (by omega))
    have hPp_342 := hPp_326.fr hF338 (by intro b hb hz; have := own_ge hO321 (Nat.le_refl _) b hb; (try dsimp only at hz); omega)
    have hSl_343 := hSl_327.fr hF338 (by intro b hb hz; have := own_ge hO321 (Nat.le_refl _) b hb; (try dsimp only at hz); omega)
    have hSz_344 := hSz_328.fr hF338 (by intro b hb hz; have := own_ge hO321 (Nat.le_refl _) b hb; (try dsimp only at hz); omega)
    have hSh_345 := hSh_329.fr hF338 (by intro b hb hz; have := own_ge hO321 (Nat.le_refl _) b hb; (try dsimp only at hz); omega)
    have hO337 := hO337z.zone (Z' := NoZ) (fun _ _ q => q.1) (fun _ _ q => q)
    refine V.pt h333 fun a h348 => ?_
    refine V.eh trivial ?_
    refine V.qe ?_
    refine V.go (V.appS (R := prE) (h348.e (v := (.slice A334 (((([] : List EnQ) ++ (ps.take j)).length) + 1) c335))) (h348.e (v := (.slice Ar rs.length cr))) (by kernel_rfl) info55 (by kernel_rfl) (by decide) hO337 hR_339 (fun _ _ h => h) (by (simp only [List.length_append, List.length_take, List.length_drop, List.length_nil, List.length_singleton]); omega) (by decide) (by omega) ?_)
    intro A349 c350 w351 hO352 hF353
    have hsw351 := hF353.size
    have hF_355 := hF_340.own hF353 (own_ge hO337 (by omega))
    have hPp_357 := hPp_342.fr hF353 (by intro b hb hz; have := own_ge hO337 (Nat.le_refl _) b hb; (try dsimp only at hz); omega)
    have hSl_358 := hSl_343.fr hF353 (by intro b hb hz; have := own_ge hO337 (Nat.le_refl _) b hb; (try dsimp only at hz); omega)
    have hSz_359 := hSz_344.fr hF353 (by intro b hb hz; have := own_ge hO337 (Nat.le_refl _) b hb; (try dsimp only at hz); omega)
    have hSh_360 := hSh_345.fr hF353 (by intro b hb hz; have := own_ge hO337 (Nat.le_refl _) b hb; (try dsimp only at hz); omega)
    refine V.pt h348 fun a h363 => ?_
    refine V.eh trivial ?_
    refine V.qs h363 [] 1 0 [(4, .slice A349 (((([] : List EnQ) ++ (ps.take j)) ++ [(rawE (⟨key, k, s, l, z, h, at'⟩ : EnD) Al cl Az cz Ah ch, (⟨key, k, s, l, z, h, at'⟩ : EnD))]).length + (rs).length) c350)] fun a h364 => ?_
    refine V.qn (k137 _ _ ?_)
    refine V.ret ?_
    refine V.r1 h364 (.slice A349 (((([] : List EnQ) ++ (ps.take j)) ++ [(rawE (⟨key, k, s, l, z, h, at'⟩ : EnD) Al cl Az cz Ah ch, (⟨key, k, s, l, z, h, at'⟩ : EnD))]).length + (rs).length) c350) ?_
    have hq9 := hO352.rebase (base' := w.heap.size) (by omega)
    have hp9 : PsOk (fun k => k < w.heap.size) w351 (([] ++ ps.take j) ++ [(rawE (⟨key, k, s, l, z, h, at'⟩ : EnD) Al cl Az cz Ah ch, (⟨key, k, s, l, z, h, at'⟩ : EnD))]) := (PsOk.app PsOk.nil (hPp_357.sub fun q hq => List.mem_of_mem_take hq)).app (PsOk.one ⟨_, _, _, rfl, hSl_358, hSz_359, hSh_360⟩)
    have hp8 := hp9.app (hPp_357.sub (qs := rs) fun q hq => List.mem_of_mem_drop (hrs ▸ hq))
    have hd9 := dat_set9 (x := (⟨key, k, s, l, z, h, at'⟩ : EnD)) (r := ((rawE (⟨key, k, s, l, z, h, at'⟩ : EnD) Al cl Az cz Ah ch, (⟨key, k, s, l, z, h, at'⟩ : EnD))).1) hlb hrs
    have hn9 : ((([] : List EnQ) ++ (ps.take j)) ++ [(rawE (⟨key, k, s, l, z, h, at'⟩ : EnD) Al cl Az cz Ah ch, (⟨key, k, s, l, z, h, at'⟩ : EnD))]).length + (rs).length = (((([] : List EnQ) ++ (ps.take j)) ++ [(rawE (⟨key, k, s, l, z, h, at'⟩ : EnD) Al cl Az cz Ah ch, (⟨key, k, s, l, z, h, at'⟩ : EnD))]) ++ rs).length := by simp only [List.length_append, List.length_take, List.length_nil, List.length_singleton]; try omega
    rw [hn9] at hq9
    exact ⟨_, _, _, by rw [hn9], hd9, hq9, hp8, hF_355⟩
theorem rlive_any (w : World) (Al : Option Addr) (cl : Nat) (l : List EnD) (hSl : SlR enR (fun k => k < w.heap.size) w (.slice Al l.length cl) l) (now : Int) (hl : l.length ≤ 1099511627776) : Calls Tryz.prog 32 #[.slice Al l.length cl, .int .i64 now] w (fun e w' => ∃ A' c', e = .returned (.slice A' (l.filter (lvP now)).length c') ∧ SlR enR (fun k => k < w.heap.size ∨ (w.heap.size ≤ k ∧ k < w'.heap.size)) w' (.slice A' (l.filter (lvP now)).length c') (l.filter (lvP now)) ∧ Fr [] w w') := by
 have hF := Fr.refl [] w
 have hlen0 := hSl.len_le
 refine V.en 36 Tryz.func32 fun a h1 => ?_
 refine V.sr h1 [] 4 4 [] fun a h4 => ?_
 refine V.sr h4 [] 1 0 [(5, .slice none 0 0)] fun a h7 => ?_
 refine V.seq fun K8 k9 => ?_
 refine V.sr h7 [] 1 0 [(6, .int .i64 0)] fun a h12 => ?_
 refine V.block ?_
 refine V.loop3 (fun (i : Nat) (A2 : Option Addr) (c2 : Nat) a_ w_ => En 36 [] a_ [(0, .slice Al l.length cl), (1, .int .i64 now), (5, .slice A2 (((l.take i).filter (lvP now)).length) c2), (6, .int .i64 (i : Int))] ∧ OwR enR (fun k => k < w.heap.size) w_ w.heap.size 55 (.slice A2 (((l.take i).filter (lvP now)).length) c2) ((l.take i).filter (lvP now)) ∧ Fr [] w w_ ∧ SlR enR (fun k => k < w.heap.size) w_ (.slice Al l.length cl) l ∧ (i ≤ l.length)) (fun (i : Nat) (A2 : Option Addr) (c2 : Nat) => l.length - i) 0 none 0 ?_ ?_
 ·
  refine ⟨((h12.eq 5 (v := (.slice none 0 0)) (u := (.slice none (((l.take 0).filter (lvP now)).length) 0)) (rfl)).eq 6 (v := (.int .i64 0)) (u := (.int .i64 (0 : Int))) (V.int_eq (by omega))).only _, (OwR.nil ..), hF, hSl, (by omega)⟩
 ·
  rintro i A2 c2 a13 w14 ⟨h15, hO_16, hF_17, hSl_18, hi⟩
  have hfs19 := hF_17.size
  have hfl : ((l.take i).filter (lvP now)).length ≤ i := Nat.le_trans (List.length_filter_le ..) (List.length_take_le ..)
  refine V.seq fun K20 k21 => ?_
  refine V.sr h15 [] 7 9 [(10, .bool (decide ((i : Int) < ((l.length : Nat) : Int))))] fun a h24 => ?_
  refine V.cp h24 ((i : Int) < ((l.length : Nat) : Int)) (fun ht25 => ?_) (fun ht25 => ?_)
  ·
   refine V.skip ?_
   refine V.then_n (k21 _ _ ?_)
   refine V.seq fun K26 k27 => ?_
   refine V.block ?_
   obtain ⟨g30, o31, hA32, hA32l, hA32z⟩ := hSl_18.addr (by omega)
   obtain ⟨cs33, hok34, hE35⟩ := hSl_18.els hA32 (i : Int) (by omega) (by omega)
   obtain ⟨Al36, cl37, Az38, cz39, Ah40, ch41, rfl, hS42, hS43, hS44⟩ := en_open hok34
   refine V.sg fun K28 k29 => ?_
   refine V.run h24 [(2, .ix g30 o31 l.length cl .i64 (i : Int) 7 hA32), (1, .l ⟨g30, (o31 + (i : Int).toNat * 7) + 6, none⟩ (.int .i64 ((at_ enR l (i : Int)).till)) (hE35.at 6 rfl)), (0, .eq ((at_ enR l (i : Int)).till) (-1))] 7 13 18 [(19, .bool (decide (((at_ enR l (i : Int)).till) = (-1))))] fun a h45 => ?_
   by_cases hg46 : ((at_ enR l (i : Int)).till) = (-1)
   ·
    have h47 := h45.kt 19 hg46
    refine V.re h47 [] 20 26 [(27, .bool true)] fun a h48 => k29 _ _ ?_
    refine V.ct h48 ?_
    refine V.rg ?_
    refine V.run h48 [(3, .ix g30 o31 l.length cl .i64 (i : Int) 7 hA32), (0, .ls ⟨g30, o31 + (i : Int).toNat * 7, none⟩ [.string ((at_ enR l (i : Int)).key), .int .i64 ((at_ enR l (i : Int)).k), .string ((at_ enR l (i : Int)).s), .slice Al36 ((at_ enR l (i : Int)).l.length) cl37, .slice Az38 ((at_ enR l (i : Int)).z.length) cz39, .slice Ah40 ((at_ enR l (i : Int)).h.length) ch41, .int .i64 ((at_ enR l (i : Int)).till)] (hE35.cells 0 _ rfl))] 5 29 31 [(28, .slice A2 (((l.take i).filter (lvP now)).length) c2), (32, .agg #[.string ((at_ enR l (i : Int)).key), .int .i64 ((at_ enR l (i : Int)).k), .string ((at_ enR l (i : Int)).s), .slice Al36 ((at_ enR l (i : Int)).l.length) cl37, .slice Az38 ((at_ enR l (i : Int)).z.length) cz39, .slice Ah40 ((at_ enR l (i : Int)).h.length) ch41, .int .i64 ((at_ enR l (i : Int)).till)])] fun a h49 => ?_
    refine V.go (V.mk [(32, .agg #[.string ((at_ enR l (i : Int)).key), .int .i64 ((at_ enR l (i : Int)).k), .string ((at_ enR l (i : Int)).s), .slice Al36 ((at_ enR l (i : Int)).l.length) cl37, .slice Az38 ((at_ enR l (i : Int)).z.length) cz39, .slice Ah40 ((at_ enR l (i : Int)).h.length) ch41, .int .i64 ((at_ enR l (i : Int)).till)])] ⟨h49.e, trivial⟩ (by kernel_rfl) [.string ((at_ enR l (i : Int)).key), .int .i64 ((at_ enR l (i : Int)).k), .string ((at_ enR l (i : Int)).s), .slice Al36 ((at_ enR l (i : Int)).l.length) cl37, .slice Az38 ((at_ enR l (i : Int)).z.length) cz39, .slice Ah40 ((at_ enR l (i : Int)).h.length) ch41, .int .i64 ((at_ enR l (i : Int)).till)] 55 (fun b => .slice (some ⟨b, 0, none⟩) 1 1) (by kernel_rfl) ?_)
    intro w51 b50 heb50 hB52 hF53 hsb50
    have hO_54 := hO_16.fr0 hF53
    have hF_55 := hF_17.new hF53
    have hSl_56 := hSl_18.fr0 hF53
    have hS42_57 := hS42.fr0 hF53
    have hS43_58 := hS43.fr0 hF53
    have hS44_59 := hS44.fr0 hF53
    refine V.pt h49 fun a h61 => ?_
    refine V.go (V.app (R := enR) (ys := ([(at_ enR l (i : Int))])) (news := [(.string ((at_ enR l (i : Int)).key)), (.int .i64 ((at_ enR l (i : Int)).k)), (.string ((at_ enR l (i : Int)).s)), (.slice Al36 ((at_ enR l (i : Int)).l.length) cl37), (.slice Az38 ((at_ enR l (i : Int)).z.length) cz39), (.slice Ah40 ((at_ enR l (i : Int)).h.length) ch41), (.int .i64 ((at_ enR l (i : Int)).till))]) (h61.e (v := (.slice A2 (((l.take i).filter (lvP now)).length) c2))) ⟨b50, 0, none⟩ 1 1 (h61.e (v := (.slice (some ⟨b50, 0, none⟩) 1 1))) (by kernel_rfl) (info55) (by kernel_rfl) (by decide) hO_54 rfl ⟨_, [], rfl, (⟨_, _, _, rfl, hS42_57, hS43_58, hS44_59⟩ : enR.ok _ _ ((at_ enR l (i : Int))) _), rfl⟩ (blk_cells hB52 0 _ rfl) (by first | omega | (simp; omega)) (by decide) (by omega) ?_)
    intro A62 c63 w64 hO65z hF66 hatw64
    have hsw64 := hF66.size
    have hF_67 := hF_55.own hF66 (own_ge hO_54 (by omega))
    have hSl_68 := hSl_56.fr hF66 (by intro b hb hz; have := own_ge hO_54 (Nat.le_refl _) b hb; (try dsimp only at hz); omega)
    have hO65 := hO65z.zone (Z' := (fun k => k < w.heap.size)) (fun _ _ q => q.1) (fun b hb hz => by have := (hO65z.lt b hb).1; (try dsimp only at hz); omega)
    refine V.pt h61 fun a h73 => ?_
    refine V.re h73 [] 1 0 [(5, .slice A62 ((((l.take i).filter (lvP now)).length) + 1) c63)] fun a h74 => ?_
    refine V.blk_n ?_
    refine V.then_n (k27 _ _ ?_)
    refine V.rr h74 [(1, .i ((i : Int) + 1))] 11 12 [(6, .int .i64 ((i : Int) + 1))] fun a h75 => ?_
    refine V.then_n ?_
    have hqs := lv_yes (now := now) (show i < l.length by omega) (by omega)
    refine ⟨i + 1, A62, c63, by omega, ?_⟩
    refine ⟨((h75.eq 5 (v := (.slice A62 ((((l.take i).filter (lvP now)).length) + 1) c63)) (u := (.slice A62 (((l.take (i + 1)).filter (lvP now)).length) c63)) (V.sl_eq (by rw [hqs]; simp))).eq 6 (v := (.int .i64 ((i : Int) + 1))) (u := (.int .i64 ((i + 1) : Int))) (V.int_eq (by omega))).only _, (by rw [hqs]; simpa using hO65), hF_67, hSl_68, (by omega)⟩
   ·
    have h76 := h45.kf 19 hg46
    refine V.re h76 [(2, .ix g30 o31 l.length cl .i64 (i : Int) 7 hA32), (1, .l ⟨g30, (o31 + (i : Int).toNat * 7) + 6, none⟩ (.int .i64 ((at_ enR l (i : Int)).till)) (hE35.at 6 rfl))] 20 26 [(27, .bool (decide (((at_ enR l (i : Int)).till) > now)))] fun a h77 => k29 _ _ ?_
    refine V.cp h77 (((at_ enR l (i : Int)).till) > now) (fun ht78 => ?_) (fun ht78 => ?_)
    ·
     refine V.rg ?_
     refine V.run h77 [(3, .ix g30 o31 l.length cl .i64 (i : Int) 7 hA32), (0, .ls ⟨g30, o31 + (i : Int).toNat * 7, none⟩ [.string ((at_ enR l (i : Int)).key), .int .i64 ((at_ enR l (i : Int)).k), .string ((at_ enR l (i : Int)).s), .slice Al36 ((at_ enR l (i : Int)).l.length) cl37, .slice Az38 ((at_ enR l (i : Int)).z.length) cz39, .slice Ah40 ((at_ enR l (i : Int)).h.length) ch41, .int .i64 ((at_ enR l (i : Int)).till)] (hE35.cells 0 _ rfl))] 5 29 31 [(28, .slice A2 (((l.take i).filter (lvP now)).length) c2), (32, .agg #[.string ((at_ enR l (i : Int)).key), .int .i64 ((at_ enR l (i : Int)).k), .string ((at_ enR l (i : Int)).s), .slice Al36 ((at_ enR l (i : Int)).l.length) cl37, .slice Az38 ((at_ enR l (i : Int)).z.length) cz39, .slice Ah40 ((at_ enR l (i : Int)).h.length) ch41, .int .i64 ((at_ enR l (i : Int)).till)])] fun a h79 => ?_
     refine V.go (V.mk [(32, .agg #[.string ((at_ enR l (i : Int)).key), .int .i64 ((at_ enR l (i : Int)).k), .string ((at_ enR l (i : Int)).s), .slice Al36 ((at_ enR l (i : Int)).l.length) cl37, .slice Az38 ((at_ enR l (i : Int)).z.length) cz39, .slice Ah40 ((at_ enR l (i : Int)).h.length) ch41, .int .i64 ((at_ enR l (i : Int)).till)])] ⟨h79.e, trivial⟩ (by kernel_rfl) [.string ((at_ enR l (i : Int)).key), .int .i64 ((at_ enR l (i : Int)).k), .string ((at_ enR l (i : Int)).s), .slice Al36 ((at_ enR l (i : Int)).l.length) cl37, .slice Az38 ((at_ enR l (i : Int)).z.length) cz39, .slice Ah40 ((at_ enR l (i : Int)).h.length) ch41, .int .i64 ((at_ enR l (i : Int)).till)] 55 (fun b => .slice (some ⟨b, 0, none⟩) 1 1) (by kernel_rfl) ?_)
     intro w81 b80 heb80 hB82 hF83 hsb80
     have hO_84 := hO_16.fr0 hF83
     have hF_85 := hF_17.new hF83
     have hSl_86 := hSl_18.fr0 hF83
     have hS42_87 := hS42.fr0 hF83
     have hS43_88 := hS43.fr0 hF83
     have hS44_89 := hS44.fr0 hF83
     refine V.pt h79 fun a h91 => ?_
     refine V.go (V.app (R := enR) (ys := ([(at_ enR l (i : Int))])) (news := [(.string ((at_ enR l (i : Int)).key)), (.int .i64 ((at_ enR l (i : Int)).k)), (.string ((at_ enR l (i : Int)).s)), (.slice Al36 ((at_ enR l (i : Int)).l.length) cl37), (.slice Az38 ((at_ enR l (i : Int)).z.length) cz39), (.slice Ah40 ((at_ enR l (i : Int)).h.length) ch41), (.int .i64 ((at_ enR l (i : Int)).till))]) (h91.e (v := (.slice A2 (((l.take i).filter (lvP now)).length) c2))) ⟨b80, 0, none⟩ 1 1 (h91.e (v := (.slice (some ⟨b80, 0, none⟩) 1 1))) (by kernel_rfl) (info55) (by kernel_rfl) (by decide) hO_84 rfl ⟨_, [], rfl, (⟨_, _, _, rfl, hS42_87, hS43_88, hS44_89⟩ : enR.ok _ _ ((at_ enR l (i : Int))) _), rfl⟩ (blk_cells hB82 0 _ rfl) (by first | omega | (simp; omega)) (by decide) (by omega) ?_)
     intro A92 c93 w94 hO95z hF96 hatw94
     have hsw94 := hF96.size
     have hF_97 := hF_85.own hF96 (own_ge hO_84 (by omega))
     have hSl_98 := hSl_86.fr hF96 (by intro b hb hz; have := own_ge hO_84 (Nat.le_refl _) b hb; (try dsimp only at hz); omega)
     have hO95 := hO95z.zone (Z' := (fun k => k < w.heap.size)) (fun _ _ q => q.1) (fun b hb hz => by have := (hO95z.lt b hb).1; (try dsimp only at hz); omega)
     refine V.pt h91 fun a h103 => ?_
     refine V.re h103 [] 1 0 [(5, .slice A92 ((((l.take i).filter (lvP now)).length) + 1) c93)] fun a h104 => ?_
     refine V.blk_n ?_
     refine V.then_n (k27 _ _ ?_)
     refine V.rr h104 [(1, .i ((i : Int) + 1))] 11 12 [(6, .int .i64 ((i : Int) + 1))] fun a h105 => ?_
     refine V.then_n ?_
     have hqs := lv_yes (now := now) (show i < l.length by omega) (by omega)
     refine ⟨i + 1, A92, c93, by omega, ?_⟩
     refine ⟨((h105.eq 5 (v := (.slice A92 ((((l.take i).filter (lvP now)).length) + 1) c93)) (u := (.slice A92 (((l.take (i + 1)).filter (lvP now)).length) c93)) (V.sl_eq (by rw [hqs]; simp))).eq 6 (v := (.int .i64 ((i : Int) + 1))) (u := (.int .i64 ((i + 1) : Int))) (V.int_eq (by omega))).only _, (by rw [hqs]; simpa using hO95), hF_97, hSl_98, (by omega)⟩
    ·
     refine V.skip (V.blk_n ?_)
     refine V.then_n (k27 _ _ ?_)
     refine V.rr h77 [(1, .i ((i : Int) + 1))] 11 12 [(6, .int .i64 ((i : Int) + 1))] fun a h106 => ?_
     refine V.then_n ?_
     have hqs := lv_no (now := now) (show i < l.length by omega) (by omega)
     refine ⟨i + 1, A2, c2, by omega, ?_⟩
     refine ⟨((h106.eq 5 (v := (.slice A2 (((l.take i).filter (lvP now)).length) c2)) (u := (.slice A2 (((l.take (i + 1)).filter (lvP now)).length) c2)) (V.sl_eq (by rw [hqs]))).eq 6 (v := (.int .i64 ((i : Int) + 1))) (u := (.int .i64 ((i + 1) : Int))) (V.int_eq (by omega))).only _, (by rw [hqs]; exact hO_16), hF_17, hSl_18, (by omega)⟩
  ·
   refine V.exit (V.then_e (V.then_e (V.blk_hit ?_)))
   refine V.then_n (k9 _ _ ?_)
   refine V.sr h24 [] 35 35 [(4, .slice A2 (((l.take i).filter (lvP now)).length) c2)] fun a h109 => ?_
   refine V.ret ?_
   refine V.r1 h109 (.slice A2 (((l.take i).filter (lvP now)).length) c2) ?_
   have hce : l.take i = l := List.take_of_length_le (by omega)
   rw [hce] at hO_16 ⊢
   exact ⟨_, _, rfl, hO_16.read (fun b _ hb => .inl hb) (fun b hb hb2 => .inr ⟨hb, hb2⟩), hF_17⟩
end Go.Proofs.YtdebkbfnngkdlaaGreatDoor
end
section
namespace Go.V
open Go.Plan (wpL)
open Go.RowKit Go.Base
set_option linter.unusedVariables false
set_option linter.unusedSimpArgs false
theorem cut_at7 {g c m o n k : Nat} (hc : ¬ c = m) (ho : o = m * 7) : Value.slice (cutA (some ⟨g, 0, none⟩) m c 7) n k = .slice (some ⟨g, o, none⟩) n k := by
  unfold cutA
  rw [if_neg hc, ho]
  show Value.slice (some ((⟨g, 0, none⟩ : Addr).add (m * 7))) n k = _
  rw [show (⟨g, 0, none⟩ : Addr).add (m * 7) = ⟨g, m * 7, none⟩ by unfold Addr.add; split <;> simp_all]
section
variable {ro : Option Nat} {P : Program} {Q : Exit → Act → World → Prop} {a : Act} {w : World} {ops : Array Oper} {rest : List Oper} {ty : TypeId} {pos : String} {aft : Array Edge} {gd : Option (Nat × Bool)}
/-- clear of a row's tail: what stands ahead of it is one's own still. -/
theorem clrO {β : Type} {dβ : β} {base i n c m c2 : Nat} {A : Option Addr} {e t : TypeId} {x : Operand} {ps : List ((ByteArray × EntV) × β)} {z : Value} (hO : OwR (prR dβ) NoZ w base e (.slice A n c) ps) (hi : i < ps.length)
    (hx : a.eval x = .slice (cutA A i c 7) m c2) (hm : m = n - i) (ht : P.underlying t = some (.slice e)) (hinfo : (P.info? e).map (fun i => (i.zero, i.size)) = some (some z, 7)) (hz : z.cells.size = 7) (h1 : ∀ j, j < 7 → (z.cells[j]!).oneCell' = true)
    (k : ∀ w1, OwR (prR dβ) NoZ w1 base e (.slice A i c) (ps.take i) → Fr ((Value.slice A n c).ownBlock.toList) w w1 → w1.heap.size = w.heap.size → L ro P ops Q rest a w1) : St ro P ops Q rest ⟨none, .call ⟨.builtin .clear, #[x], #[t]⟩, ty, pos, aft, gd⟩ a w := by
  rcases hO.caseE with ⟨_, h0⟩ | ⟨g, c', he⟩
  · rw [h0] at hi; simp at hi
  injection he with e1 e2 e3
  subst e1; subst e2; subst e3; subst hm
  obtain ⟨cur, hB, hcl, hn, hnc, hcm, hg, htk⟩ := hO.openE
  rw [cut_at7 (g := g) (o := i * 7) (by omega) rfl] at hx
  obtain ⟨inf, hi0, hzz⟩ := Option.map_eq_some_iff.1 hinfo
  simp only [Prod.mk.injEq] at hzz
  have hvl : (Builtin.zeroCells z.cells (ps.length - i)).toList.length = (ps.length - i) * 7 := by rw [Array.length_toList, size_zeroCells, hz]
  have hone : ∀ u ∈ (Builtin.zeroCells z.cells (ps.length - i)).toList, u.oneCell' = true := fun u hu => by
    unfold Builtin.zeroCells at hu
    simp only [Array.toList_map, List.mem_map] at hu
    obtain ⟨j, _, rfl⟩ := hu
    exact h1 _ (by rw [hz]; exact Nat.mod_lt _ (by decide))
  obtain ⟨m', hm'⟩ : ∃ m', ps.length - i = m' + 1 := ⟨ps.length - i - 1, by omega⟩
  rw [hm'] at hx hvl hone
  obtain ⟨w1, hst, hB1, hF, hsz⟩ := run_storeCells (P := P) g e (i * 7) _ 0 w cur hone hB (by rw [hvl]; omega)
  have hown : OwR (prR dβ) NoZ w1 base e (.slice (some ⟨g, 0, none⟩) i c) (ps.take i) := by
    have hl : (ps.take i).length = i := by rw [List.length_take]; omega
    have h := OwR.mkE (dβ := dβ) (ps := ps.take i) (base := base) (c := c) hB1 (by rw [over_length]; exact hcl) (by omega) hcm hg ?_
    · rw [hl] at h; exact h
    · rw [hl, over_take _ _ _ _ (by omega), ← entF_take, ← htk, List.take_take]; congr 1; omega
  have hzv : ∀ w, (zeroValue e).run P w = .ok z w := fun w => by simp [zeroValue, typeInfo, hi0, hzz.1, Sem.run_bind]
  have hrun : (execOp a.eval ⟨none, .call ⟨.builtin .clear, #[x], #[t]⟩, ty, pos, aft, gd⟩).run P w = .ok (.value (.tuple #[])) w1 := by
    simp only [execOp, resolve, invoke, builtin, Sem.run_bind, Sem.run_pure, Result.andThen_ok, List.map_toArray, List.map_cons, List.map_nil, hx, Builtin.clear_, run_underlying ht, hzv]
    simp only [List.getElem?_toArray, List.getElem?_cons_zero, Sem.run_bind, run_underlying ht, Result.andThen_ok, hzv, hst, Sem.run_pure]
  exact St.val hrun (k w1 hown hF hsz)
end
end Go.V
end
