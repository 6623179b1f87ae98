/- Joined texts: Opn, Pn, EntV, Ins, La, Lb, Lc, Ld, Le, Kj, Itr, Kk, Mk0, Ki, Kl, Km, Kn. -/
import Derived.Test.YtdebkbfnngkdlaaGreatDoorRows
import Derived.Deep.Slices
import Derived.Lib.SmallJoins
import Derived.ProofKit
import Derived.ChangeSame
import Derived.Lib.AppendZerosOnto
import Derived.Lib.Overlaps
import Derived.Laws.IdiomCopy
import Derived.Test.YtdebkbfnngkdlaaGreatDoorProg
import Derived.Laws.Externs
import Derived.Lib.OthersKept
import Derived.WideLaws
import Derived.Lib.ParseIntBTie
import Derived.Lib.AtoiErrMem
import Derived.Lib.SplitLaws
import Derived.Test.YtdebkbfnngkdlaaGreatDoorIp3
section
namespace Go.Proofs.YtdebkbfnngkdlaaGreatDoor
open Go.V Go.Base Go.RowKit Go.WideShapes Go.ChangeShapes Go.Deep
set_option linter.unusedVariables false
section
variable {H : Type}
theorem bulk_pos (d : DataW H) : 1 ≤ Rows.uptoBulk d := by
  cases d with
  | lit l => cases l <;> simp [Rows.uptoBulk]
  | nil => simp [Rows.uptoBulk]
  | ptr d => simp [Rows.uptoBulk]
  | slice a b => simp [Rows.uptoBulk]
  | agg a => simp [Rows.uptoBulk]
  | iface t d => simp [Rows.uptoBulk]
  | map a => simp [Rows.uptoBulk]
  | held h => simp [Rows.uptoBulk]
theorem bulk_len : ∀ (l : List (DataW H)), l.length ≤ Rows.uptoBulkAll l
  | [] => by simp [Rows.uptoBulkAll]
  | d :: l => by
    have h1 := bulk_pos d
    have h2 := bulk_len l
    simp only [List.length_cons, Rows.uptoBulkAll]
    omega
theorem bulk_mem : ∀ {l : List (DataW H)} {d : DataW H}, d ∈ l → Rows.uptoBulk d ≤ Rows.uptoBulkAll l
  | e :: l, d, h => by
    simp only [Rows.uptoBulkAll]
    rcases List.mem_cons.1 h with rfl | h
    · omega
    · have := bulk_mem h; omega
end
def Opn {α : Type} {H : Type} (enc : TypeId × Value → H) (P : Program) (W : World) (t : TypeId) (R : Rp α) (K : α → Nat → Prop) : Prop :=
  ∀ (n : Nat) (cs : List Value) (x : DataW H × List MemPlace), DataW.trod enc P W 0 (fun _ => true) true n t cs = some x → (∀ p ∈ x.2, p.block < W.heap.size) → ∃ d : α, R.ok (fun b => b < W.heap.size) W d cs ∧ K d (Rows.uptoBulk x.1)
section
variable {α : Type} {R : Rp α} {K : α → Nat → Prop} {H : Type} {enc : TypeId × Value → H} {P : Program} {W : World} {t e : TypeId}
theorem opn_i {n : Nat} {cs : List Value} {x : DataW H × List MemPlace} (ht : P.underlying t = some (.int .i64)) (h : DataW.trod enc P W 0 (fun _ => true) true n t cs = some x) : ∃ n : Int, cs = [.int .i64 n] ∧ -9223372036854775808 ≤ n ∧ n ≤ 9223372036854775807 := by
  obtain ⟨n, q, _, w⟩ := DataW.trod_int ht h
  unfold Lit.wf at w
  have h1 : IntKind.i64.min = -9223372036854775808 := by decide
  have h2 : IntKind.i64.max = 9223372036854775807 := by decide
  simp [h1, h2] at w
  exact ⟨n, q, w.1, w.2⟩
theorem opn_s {n : Nat} {cs : List Value} {x : DataW H × List MemPlace} (ht : P.underlying t = some .string) (h : DataW.trod enc P W 0 (fun _ => true) true n t cs = some x) : ∃ s : ByteArray, cs = [.string s] ∧ s.size ≤ Rows.uptoBulk x.1 := by
  obtain ⟨s, q, rfl, w⟩ := DataW.trod_string ht h
  exact ⟨s, q, by simp [Rows.uptoBulk]⟩
theorem Opn.str (ht : P.underlying t = some .string) : Opn enc P W t Rp.str fun s b => s.size ≤ b := fun n cs x h hp => by
  obtain ⟨s, rfl, h1⟩ := opn_s ht h
  exact ⟨s, rfl, h1⟩
/-- A slice of what can be opened. -/
theorem Opn.sl (ht : P.underlying t = some (.slice e)) (hc : P.cellsOf e = R.sz) (hpos : 0 < R.sz) (hK : ∀ d b b', b ≤ b' → K d b → K d b') (hel : Opn enc P W e R K) {n : Nat} {cs : List Value} {x : DataW H × List MemPlace} (hf : DataW.trod enc P W 0 (fun _ => true) true n t cs = some x) (hlt : ∀ p ∈ x.2, p.block < W.heap.size) :
    ∃ A c l, cs = [.slice A l.length c] ∧ SlR R (fun b => b < W.heap.size) W (.slice A l.length c) l ∧ l.length ≤ Rows.uptoBulk x.1 ∧ ∀ y ∈ l, K y (Rows.uptoBulk x.1) := by
  rcases open_slice ht hf with ⟨rfl, rfl⟩ | ⟨a, len, cap, m, k, D, Pl, rfl, _, hl, hm, hmm, rfl, hall⟩
  · exact ⟨none, 0, [], rfl, SlR.nil _ _ _, Nat.zero_le _, fun y hy => by simp at hy⟩
  · simp only [if_true] at hmm
    subst hmm
    have hone : ∀ i, i < m → ∃ (x : α) (cs : List Value), R.ok (fun b => b < W.heap.size) W x cs ∧ K x (Rows.uptoBulk (D i)) ∧ ∀ j u, cs[j]? = some u → W.cell? (a.add (i * R.sz + j)) = some u := fun i hi => by
      obtain ⟨cs', h1, h2⟩ := hall i hi
      obtain ⟨x, hx, hkx⟩ := hel k cs' _ h2 fun p hp => hlt p (List.mem_append_right _ (List.mem_flatMap.2 ⟨i, List.mem_range.2 hi, hp⟩))
      obtain ⟨_, hlen, hcell⟩ := World.cells?_some h1
      refine ⟨x, cs', hx, hkx, fun j u hj => ?_⟩
      have hjl : j < P.cellsOf e := by rw [← hlen]; exact (List.getElem?_eq_some_iff.1 hj).1
      have := hcell j hjl
      rw [hj, hc] at this
      rw [← this, add_add]
    have hex : ∀ q, q ≤ m → ∃ l : List α, l.length = q ∧ ∀ i x, l[i]? = some x → K x (Rows.uptoBulk (D i)) ∧ ∃ cs, R.ok (fun b => b < W.heap.size) W x cs ∧ ∀ j u, cs[j]? = some u → W.cell? (a.add (i * R.sz + j)) = some u := by
      intro q
      induction q with
      | zero => exact fun _ => ⟨[], rfl, fun i x h => by simp at h⟩
      | succ q ih =>
        intro hq
        obtain ⟨l, hll, hli⟩ := ih (by omega)
        obtain ⟨x, cs, h1, hk1, h2⟩ := hone q (by omega)
        refine ⟨l ++ [x], by simp [hll], fun i y hy => ?_⟩
        rcases Nat.lt_or_ge i l.length with hi | hi
        · rw [List.getElem?_append_left hi] at hy; exact hli i y hy
        · rw [List.getElem?_append_right hi] at hy
          have : i - l.length = 0 := by
            have := (List.getElem?_eq_some_iff.1 hy).1; simp at this; omega
          rw [this] at hy
          simp at hy; subst hy
          have hiq : i = q := by omega
          subst hiq
          exact ⟨hk1, cs, h1, h2⟩
    obtain ⟨l, hll, hli⟩ := hex len hl
    subst hll
    have hb : ∀ i, i < l.length → Rows.uptoBulk (D i) ≤ Rows.uptoBulkAll ((List.range l.length).map D) := fun i hi => bulk_mem (List.mem_map.2 ⟨i, List.mem_range.2 hi, rfl⟩)
    have hlb := bulk_len ((List.range l.length).map D)
    rw [List.length_map, List.length_range] at hlb
    have hbb : Rows.uptoBulkAll ((List.range l.length).map D) ≤ Rows.uptoBulk (DataW.slice ((List.range l.length).map D) ((List.range (m - l.length)).map fun j => D (l.length + j))) := by simp only [Rows.uptoBulk]; omega
    refine ⟨some a, m, l, rfl, ⟨_, _, rfl, hl, by unfold maxLen at hm; omega, fun i x hi => ?_⟩, Nat.le_trans hlb hbb, fun y hy => ?_⟩
    · obtain ⟨_, cs, h1, h2⟩ := hli i x hi
      have hin : i < l.length := (List.getElem?_eq_some_iff.1 hi).1
      obtain ⟨b, off, spot⟩ := a
      have hcl := R.len h1
      obtain ⟨u0, hu0⟩ : ∃ u, cs[0]? = some u := ⟨cs[0]'(by omega), List.getElem?_eq_getElem (by omega)⟩
      obtain ⟨_, cz, z1, z2⟩ := hli 0 _ (List.getElem?_eq_getElem (by omega))
      have hzl := R.len z1
      have hspot : spot = none := by simpa [Addr.add] using World.cell?_spot (z2 0 _ (List.getElem?_eq_getElem (by omega)))
      subst hspot
      have hbW : b < W.heap.size := by
        have hmem : MemPlace.cell b off ∈ MemPlace.row ⟨b, off, none⟩ (m * P.cellsOf e) := MemPlace.mem_row.2 ⟨0, by rw [hc]; exact Nat.mul_pos (by omega) hpos, by simp⟩
        exact hlt _ (List.mem_append_left _ hmem)
      refine ⟨b, off, cs, rfl, hbW, hbW, h1, fun j u hj => ?_⟩
      have := h2 j u hj
      rwa [show (⟨b, off, none⟩ : Addr).add (i * R.sz + j) = ⟨b, off + i * R.sz + j, none⟩ by unfold Addr.add; split <;> simp_all [Nat.add_assoc]] at this
    · obtain ⟨i, hi⟩ := List.mem_iff_getElem?.1 hy
      exact hK _ _ _ (Nat.le_trans (hb i (List.getElem?_eq_some_iff.1 hi).1) hbb) (hli i y hi).1
/-- A struct's parts. -/
theorem opn_st {fs : Array Field} (ht : P.underlying t = some (.struct fs)) {k : Nat} (hk : P.cellsOf t = k) {n : Nat} {cs : List Value} {x : DataW H × List MemPlace} (h : DataW.trod enc P W 0 (fun _ => true) true n t cs = some x) (hlt : ∀ p ∈ x.2, p.block < W.heap.size) :
    cs.length = k ∧ ∀ (i : Nat) (f : Field), fs[i]? = some f → ∃ m y, DataW.trod enc P W 0 (fun _ => true) true m f.type ((cs.drop f.offset).take (P.cellsOf f.type)) = some y ∧ Rows.uptoBulk y.1 ≤ Rows.uptoBulk x.1 ∧ ∀ p ∈ y.2, p.block < W.heap.size := by
  obtain ⟨xs, m, _, rfl, hl, hlen, hf⟩ := DataW.trod_struct ht h
  refine ⟨hl.trans hk, fun i f hi => ?_⟩
  have hil : i < xs.length := by
    have := (Array.getElem?_eq_some_iff.1 hi).1
    omega
  refine ⟨m, xs[i], (hf i f hi).trans (List.getElem?_eq_getElem hil), ?_, fun p hp => hlt p (List.mem_flatMap.2 ⟨xs[i], List.getElem_mem hil, hp⟩)⟩
  have := bulk_mem (l := xs.map (·.1)) (List.mem_map.2 ⟨xs[i], List.getElem_mem hil, rfl⟩)
  simp only [Rows.uptoBulk]
  omega
end
theorem okw_st {P : Program} {W : World} {r : Reach} {b : Nat} {t : TypeId} {v : Value} {fs : Array Field} (ht : P.underlying t = some (.struct fs)) (h : Value.okWide P W r b t v) : ∃ cs, v = .agg cs := by
  unfold Value.okWide at h
  rw [ht] at h
  obtain ⟨cs, h1, _⟩ := h
  exact ⟨cs, h1⟩
theorem list2 {β : Type} {cs : List β} (h : cs.length = 2) : ∃ a b, cs = [a, b] := by
  match cs, h with
  | [a, b], _ => exact ⟨a, b, rfl⟩
theorem list5 {β : Type} {cs : List β} (h : cs.length = 5) : ∃ a b c d e, cs = [a, b, c, d, e] := by
  match cs, h with
  | [a, b, c, d, e], _ => exact ⟨a, b, c, d, e, rfl⟩
theorem list7 {β : Type} {cs : List β} (h : cs.length = 7) : ∃ a b c d e f g, cs = [a, b, c, d, e, f, g] := by
  match cs, h with
  | [a, b, c, d, e, f, g], _ => exact ⟨a, b, c, d, e, f, g, rfl⟩
end Go.Proofs.YtdebkbfnngkdlaaGreatDoor
end
section
namespace Go.Proofs.YtdebkbfnngkdlaaGreatDoor
open Go.Base Go.V Go.ChangeShapes Go.WideShapes Go.Deep
set_option linter.unusedVariables false
set_option linter.unusedSimpArgs false
def StM (s : ByteArray) : Prop := s.size ≤ maxLen
def ScM (y : ByteArray × Int) : Prop := y.1.size ≤ maxLen ∧ i64 y.2
def FdM (y : ByteArray × ByteArray) : Prop := y.1.size ≤ maxLen ∧ y.2.size ≤ maxLen
/-- What a value that is handed in keeps to. -/
structure VaM (k : Int) (s : ByteArray) (l : List ByteArray) (z : List (ByteArray × Int)) (h : List (ByteArray × ByteArray)) : Prop where
  k : i64 k
  s : s.size ≤ maxLen
  l : ∀ y ∈ l, StM y
  z : ∀ y ∈ z, ScM y
  h : ∀ y ∈ h, FdM y
def EnM (x : EnD) : Prop := x.key.size ≤ maxLen ∧ VaM x.k x.s x.l x.z x.h ∧ i64 x.till
theorem celI9 : Tryz.prog.cellsOf 9 = 1 := by kernel_rfl
theorem celI2 : Tryz.prog.cellsOf 2 = 1 := by kernel_rfl
theorem celI3 : Tryz.prog.cellsOf 3 = 1 := by kernel_rfl
theorem celI41 : Tryz.prog.cellsOf 41 = 1 := by kernel_rfl
theorem celI42 : Tryz.prog.cellsOf 42 = 1 := by kernel_rfl
theorem celI43 : Tryz.prog.cellsOf 43 = 1 := by kernel_rfl
theorem celI44 : Tryz.prog.cellsOf 44 = 1 := by kernel_rfl
theorem celI46 : Tryz.prog.cellsOf 46 = 5 := by kernel_rfl
theorem celI55 : Tryz.prog.cellsOf 55 = 7 := by kernel_rfl
theorem celI98 : Tryz.prog.cellsOf 98 = 2 := by kernel_rfl
theorem celI101 : Tryz.prog.cellsOf 101 = 2 := by kernel_rfl
section
variable {H : Type} {enc : TypeId × Value → H} {W : World}
theorem opn_sM {P : Program} {t : TypeId} {n : Nat} {cs : List Value} {x : DataW H × List MemPlace} (ht : P.underlying t = some .string) (h : DataW.trod enc P W 0 (fun _ => true) true n t cs = some x) : ∃ s : ByteArray, cs = [.string s] ∧ s.size ≤ maxLen := by
  obtain ⟨s, q, rfl, w⟩ := DataW.trod_string ht h
  exact ⟨s, q, w⟩
theorem st_el : Opn enc Tryz.prog W 9 Rp.str fun s _ => StM s := fun n cs x h hp => by
  obtain ⟨s, rfl, h1⟩ := opn_sM Tryz.underlying9 h
  exact ⟨s, rfl, h1⟩
theorem sc_el : Opn enc Tryz.prog W 98 scR fun y _ => ScM y := fun n cs x h hp => by
  obtain ⟨hl, hf⟩ := opn_st Tryz.underlying98 celI98 h hp
  obtain ⟨c0, c1, rfl⟩ := list2 hl
  obtain ⟨_, y0, h0, b0, _⟩ := hf 0 _ rfl
  obtain ⟨_, y1, h1, b1, _⟩ := hf 1 _ rfl
  obtain ⟨s, q0, k0⟩ := opn_sM Tryz.underlying9 h0
  obtain ⟨n, q1, k1⟩ := opn_i Tryz.underlying2 h1
  simp [celI9, celI2] at q0 q1
  subst q0; subst q1
  exact ⟨(s, n), rfl, k0, k1⟩
theorem fd_el : Opn enc Tryz.prog W 101 fdR fun y _ => FdM y := fun n cs x h hp => by
  obtain ⟨hl, hf⟩ := opn_st Tryz.underlying101 celI101 h hp
  obtain ⟨c0, c1, rfl⟩ := list2 hl
  obtain ⟨_, y0, h0, b0, _⟩ := hf 0 _ rfl
  obtain ⟨_, y1, h1, b1, _⟩ := hf 1 _ rfl
  obtain ⟨s, q0, k0⟩ := opn_sM Tryz.underlying9 h0
  obtain ⟨n, q1, k1⟩ := opn_sM Tryz.underlying9 h1
  simp [celI9] at q0 q1
  subst q0; subst q1
  exact ⟨(s, n), rfl, k0, k1⟩
theorem val_el {n : Nat} {cs : List Value} {x : DataW H × List MemPlace} (h : DataW.trod enc Tryz.prog W 0 (fun _ => true) true n 46 cs = some x) (hp : ∀ p ∈ x.2, p.block < W.heap.size) :
    ∃ k s Al cl l Az cz z Ah ch h', cs = [.int .i64 k, .string s, .slice Al l.length cl, .slice Az z.length cz, .slice Ah h'.length ch] ∧ SlR Rp.str (fun b => b < W.heap.size) W (.slice Al l.length cl) l ∧ SlR scR (fun b => b < W.heap.size) W (.slice Az z.length cz) z ∧ SlR fdR (fun b => b < W.heap.size) W (.slice Ah h'.length ch) h' ∧ VaM k s l z h' := by
  obtain ⟨hl, hf⟩ := opn_st Tryz.underlying46 celI46 h hp
  obtain ⟨c0, c1, c2, c3, c4, rfl⟩ := list5 hl
  obtain ⟨_, y0, h0, b0, p0⟩ := hf 0 _ rfl
  obtain ⟨_, y1, h1, b1, p1⟩ := hf 1 _ rfl
  obtain ⟨_, y2, h2, b2, p2⟩ := hf 2 _ rfl
  obtain ⟨_, y3, h3, b3, p3⟩ := hf 3 _ rfl
  obtain ⟨_, y4, h4, b4, p4⟩ := hf 4 _ rfl
  obtain ⟨k, q0, k0⟩ := opn_i Tryz.underlying41 h0
  obtain ⟨s, q1, k1⟩ := opn_sM Tryz.underlying9 h1
  obtain ⟨Al, cl, l, q2, s2, k2, m2⟩ := Opn.sl (R := Rp.str) (K := fun s _ => StM s) Tryz.underlying42 celI9 (by decide) (fun d b b' h q => q) st_el h2 p2
  obtain ⟨Az, cz, z, q3, s3, k3, m3⟩ := Opn.sl (R := scR) (K := fun y _ => ScM y) Tryz.underlying43 celI98 (by decide) (fun d b b' h q => q) sc_el h3 p3
  obtain ⟨Ah, ch, h', q4, s4, k4, m4⟩ := Opn.sl (R := fdR) (K := fun y _ => FdM y) Tryz.underlying44 celI101 (by decide) (fun d b b' h q => q) fd_el h4 p4
  simp [celI9, celI41, celI42, celI43, celI44] at q0 q1 q2 q3 q4
  subst q0; subst q1; subst q2; subst q3; subst q4
  exact ⟨k, s, Al, cl, l, Az, cz, z, Ah, ch, h', rfl, s2, s3, s4, k0, k1, m2, m3, m4⟩
theorem en_el : Opn enc Tryz.prog W 55 enR fun x _ => EnM x := fun n cs x h hp => by
  obtain ⟨hl, hf⟩ := opn_st Tryz.underlying55 celI55 h hp
  obtain ⟨c0, c1, c2, c3, c4, c5, c6, rfl⟩ := list7 hl
  obtain ⟨_, y0, h0, b0, p0⟩ := hf 0 _ rfl
  obtain ⟨_, y1, h1, b1, p1⟩ := hf 1 _ rfl
  obtain ⟨_, y2, h2, b2, p2⟩ := hf 2 _ rfl
  obtain ⟨s, q0, k0⟩ := opn_sM Tryz.underlying9 h0
  obtain ⟨k, s', Al, cl, l, Az, cz, z, Ah, ch, h', q1, s1, s2, s3, k1⟩ := val_el h1 p1
  obtain ⟨t, q2, k2⟩ := opn_i Tryz.underlying3 h2
  simp [celI9, celI3, celI46] at q0 q1 q2
  obtain ⟨rfl, rfl, rfl, rfl, rfl⟩ := q1
  subst q0; subst q2
  exact ⟨⟨s, k, s', l, z, h', t⟩, ⟨_, _, _, rfl, s1, s2, s3⟩, k0, k1, k2⟩
theorem open_enM {A : Option Addr} {n c : Nat} {d : DataW H} {ps : List MemPlace} (hd : DataW.Trod enc Tryz.prog W 0 (fun _ => true) true 22 (.slice A n c) d ps) (hlt : ∀ x ∈ ps, x.block < W.heap.size) :
    ∃ l : List EnD, n = l.length ∧ SlR enR (fun b => b < W.heap.size) W (.slice A n c) l ∧ ∀ x ∈ l, EnM x := by
  obtain ⟨fu, hf⟩ := hd
  obtain ⟨A', c', l, q, s, k, m⟩ := Opn.sl (R := enR) (K := fun x _ => EnM x) Tryz.underlying22 celI55 (by decide) (fun d b b' h q => q) en_el hf hlt
  simp [Value.cells] at q
  obtain ⟨rfl, rfl, rfl⟩ := q
  exact ⟨l, rfl, s, m⟩
end
/-! What a cut row keeps to. -/
theorem few_bnd {x : EnD} (h : EnM x) : bndE (fewD x) ∧ ∀ y ∈ (fewD x).z, i64 y.2 := by
  have hz : ∀ y ∈ (fewD x).z, ScM y := fun y hy => h.2.1.z y (List.mem_of_mem_take hy)
  have h1 : (fewD x).l.length ≤ 40 := List.length_take_le ..
  have h2 : (fewD x).z.length ≤ 40 := List.length_take_le ..
  have h3 : (fewD x).h.length ≤ 40 := List.length_take_le ..
  exact ⟨⟨by omega, by omega, by omega, fun y hy => (hz y hy).1⟩, fun y hy => (hz y hy).2⟩
theorem cut_bnd {l : List EnD} (h : ∀ x ∈ l, EnM x) : (∀ x ∈ cutD l, bndE x) ∧ ∀ x ∈ cutD l, ∀ y ∈ x.z, i64 y.2 := by
  have q : ∀ x ∈ cutD l, ∃ y ∈ l, fewD y = x := fun x hx => by
    unfold cutD at hx
    obtain ⟨y, hy, e⟩ := List.mem_map.1 hx
    exact ⟨y, List.mem_of_mem_take hy, e⟩
  refine ⟨fun x hx => ?_, fun x hx => ?_⟩
  · obtain ⟨y, hy, rfl⟩ := q x hx; exact (few_bnd (h y hy)).1
  · obtain ⟨y, hy, rfl⟩ := q x hx; exact (few_bnd (h y hy)).2
theorem cut_len (l : List EnD) : (cutD l).length ≤ 20 := by unfold cutD; rw [List.length_map]; exact List.length_take_le ..
end Go.Proofs.YtdebkbfnngkdlaaGreatDoor
end
section
namespace Go.V
/-- A slice's header. -/
structure SlV where
  a : Option Addr
  n : Nat
  c : Nat
structure EntV where
  kind : Int
  s : ByteArray
  l : SlV
  z : SlV
  h : SlV
  till : Int
def SlV.nil : SlV := ⟨none, 0, 0⟩
def EntV.nil : EntV := ⟨0, ⟨#[]⟩, SlV.nil, SlV.nil, SlV.nil, 0⟩
end Go.V
end
section
namespace Go.V
open Go.Plan (wpL)
open Go.RowKit Go.Base
set_option linter.unusedVariables false
set_option linter.unusedSimpArgs false
/-! ### cells laid over a list -/
theorem over_mid : ∀ (A B C vs : List Value), B.length = vs.length → over (A ++ (B ++ C)) A.length vs = A ++ (vs ++ C)
  | A, [], C, [], _ => by simp [over]
  | A, b :: B, C, v :: vs, h => by
    have h' : B.length = vs.length := by simpa using h
    have e : over (A ++ (b :: B ++ C)) A.length (v :: vs) = over ((A ++ [v]) ++ (B ++ C)) (A ++ [v]).length vs := by
      show over ((A ++ (b :: B ++ C)).set A.length v) (A.length + 1) vs = _
      rw [List.set_append_right _ _ (Nat.le_refl _), Nat.sub_self, List.length_append]
      simp
    rw [e, over_mid (A ++ [v]) B C vs h']
    simp
theorem over_eq (cs vs : List Value) (p : Nat) (h : p + vs.length ≤ cs.length) : over cs p vs = cs.take p ++ vs ++ cs.drop (p + vs.length) := by
  have e : cs = cs.take p ++ ((cs.drop p).take vs.length ++ cs.drop (p + vs.length)) := by
    rw [← List.drop_drop, List.take_append_drop, List.take_append_drop]
  have h1 : (cs.take p).length = p := by rw [List.length_take]; omega
  have h2 : ((cs.drop p).take vs.length).length = vs.length := by rw [List.length_take, List.length_drop]; omega
  have q := over_mid (cs.take p) ((cs.drop p).take vs.length) (cs.drop (p + vs.length)) vs h2
  rw [h1, ← e] at q
  rw [q, List.append_assoc]
/-- Two pieces laid one behind the other: behind a head that is kept. -/
theorem over2 (cs x y : List Value) (p : Nat) (h : p + x.length + y.length ≤ cs.length) :
    (over (over cs p x) (p + x.length) y).take (p + x.length + y.length) = cs.take p ++ x ++ y ∧ (over (over cs (p + x.length) y) p x).take (p + x.length + y.length) = cs.take p ++ x ++ y := by
  have h1 : (cs.take p).length = p := by rw [List.length_take]; omega
  have l1 : (cs.take p ++ x).length = p + x.length := by rw [List.length_append, h1]
  constructor
  · rw [over_eq _ y _ (by rw [over_length]; omega), over_eq cs x p (by omega)]
    have e : (cs.take p ++ x ++ cs.drop (p + x.length)).take (p + x.length) = cs.take p ++ x := by rw [← l1, List.take_left']; rfl
    rw [e]
    have l2 : (cs.take p ++ x ++ y).length = p + x.length + y.length := by rw [List.length_append, l1]
    rw [← l2, List.take_left']; rfl
  · rw [over_eq _ x p (by rw [over_length]; omega), over_eq cs y (p + x.length) (by omega)]
    have l3 : (cs.take (p + x.length)).length = p + x.length := by rw [List.length_take]; omega
    have e1 : (cs.take (p + x.length) ++ y ++ cs.drop (p + x.length + y.length)).take p = cs.take p := by
      rw [List.append_assoc, List.take_append_of_le_length (by omega), List.take_take]; congr 1; omega
    have e2 : (cs.take (p + x.length) ++ y ++ cs.drop (p + x.length + y.length)).drop (p + x.length) = y ++ cs.drop (p + x.length + y.length) := by
      have q : (cs.take (p + x.length) ++ (y ++ cs.drop (p + x.length + y.length))).drop (cs.take (p + x.length)).length = y ++ cs.drop (p + x.length + y.length) := List.drop_left' rfl
      rw [l3] at q
      rw [List.append_assoc]; exact q
    rw [e1, e2]
    have l2 : (cs.take p ++ x ++ y).length = p + x.length + y.length := by rw [List.length_append, l1]
    rw [← List.append_assoc, ← l2, List.take_left']; rfl
/-! ### a row of entries as they lie -/
def entC (r : ByteArray × EntV) : List Value := [.string r.1, .int .i64 r.2.kind, .string r.2.s, .slice r.2.l.a r.2.l.n r.2.l.c, .slice r.2.z.a r.2.z.n r.2.z.c, .slice r.2.h.a r.2.h.n r.2.h.c, .int .i64 r.2.till]
theorem entC_len (r : ByteArray × EntV) : (entC r).length = 7 := rfl
theorem entC_one (r : ByteArray × EntV) : (entC r).all Value.oneCell' = true := rfl
/-- An entry as it lies, and what is told of it. -/
def prR {β : Type} (d : β) : Rp ((ByteArray × EntV) × β) := Rp.flat ((⟨#[]⟩, EntV.nil), d) 7 (fun p => entC p.1) (fun _ => rfl) (fun x u hu => List.all_eq_true.1 (entC_one x.1) u hu)
theorem at_el7 {α : Type} (R : Rp α) {l : List α} {i : Nat} (h : i < l.length) : at_ R l (i : Int) = l[i] := Option.some.inj ((at_some R (xs := l) (i := (i : Int)) (by omega) (by omega)).symm.trans (List.getElem?_eq_getElem h))
section
variable {β : Type}
def entF (ps : List ((ByteArray × EntV) × β)) : List Value := ps.flatMap fun p => entC p.1
theorem entF_len (ps : List ((ByteArray × EntV) × β)) : (entF ps).length = ps.length * 7 := by
  unfold entF
  induction ps with
  | nil => rfl
  | cons r rs ih => rw [List.flatMap_cons, List.length_append, ih, entC_len, List.length_cons]; omega
theorem entF_one {ps : List ((ByteArray × EntV) × β)} : ∀ u ∈ entF ps, u.oneCell' = true := fun u hu => by
  obtain ⟨r, _, h⟩ := List.mem_flatMap.1 hu
  exact List.all_eq_true.1 (entC_one r.1) u h
theorem entF_app (rs ss : List ((ByteArray × EntV) × β)) : entF (rs ++ ss) = entF rs ++ entF ss := List.flatMap_append
theorem entF_take (rs : List ((ByteArray × EntV) × β)) (i : Nat) : (entF rs).take (i * 7) = entF (rs.take i) := by
  by_cases hi : i ≤ rs.length
  · have e : entF rs = entF (rs.take i) ++ entF (rs.drop i) := by rw [← entF_app, List.take_append_drop]
    have l : (entF (rs.take i)).length = i * 7 := by rw [entF_len, List.length_take, Nat.min_eq_left hi]
    rw [e, ← l, List.take_left']; rfl
  · rw [List.take_of_length_le (by rw [entF_len]; omega), List.take_of_length_le (by omega)]
theorem entF_drop (rs : List ((ByteArray × EntV) × β)) (i : Nat) : (entF rs).drop (i * 7) = entF (rs.drop i) := by
  by_cases hi : i ≤ rs.length
  · have e : entF rs = entF (rs.take i) ++ entF (rs.drop i) := by rw [← entF_app, List.take_append_drop]
    have l : (entF (rs.take i)).length = i * 7 := by rw [entF_len, List.length_take, Nat.min_eq_left hi]
    rw [e, ← l, List.drop_left']; rfl
  · rw [List.drop_of_length_le (by rw [entF_len]; omega), List.drop_of_length_le (by omega)]; rfl
variable {dβ : β} {w w1 : World} {base g n c : Nat} {e : TypeId} {ps : List ((ByteArray × EntV) × β)}
theorem cells_ent {Z : Nat → Prop} : ∀ {ps : List ((ByteArray × EntV) × β)} {cs : List Value}, Cells (prR dβ) Z w ps cs ↔ cs = entF ps
  | [], cs => Iff.rfl
  | x :: l, cs => by
    constructor
    · rintro ⟨c, r, rfl, hc, hr⟩
      have hc' : c = entC x.1 := hc
      rw [hc', (cells_ent (Z := Z) (ps := l)).1 hr]
      rfl
    · rintro rfl
      exact ⟨entC x.1, entF l, rfl, rfl, (cells_ent (Z := Z) (ps := l)).2 rfl⟩
theorem OwR.openE (h : OwR (prR dβ) NoZ w base e (.slice (some ⟨g, 0, none⟩) n c) ps) : ∃ cur, Blk w g cur e ∧ cur.length = c * 7 ∧ n = ps.length ∧ n ≤ c ∧ c ≤ maxLen ∧ base ≤ g ∧ cur.take (n * 7) = entF ps := by
  obtain ⟨cs, h1, h2, h3⟩ := h
  rcases h1.2 with ⟨he, _⟩ | ⟨g', cap, cur, he, hg, hh, hnc, hcm, hs, ht⟩
  · cases he
  · injection he with e1 e2 e3
    injection e1 with e1
    injection e1 with e1
    subst e1; subst e2; subst e3
    have hsz : (prR dβ).sz = 7 := rfl
    rw [hsz] at hs ht
    refine ⟨cur.toList, by simpa [Blk] using hh, by simpa using hs, rfl, hnc, hcm, hg, ?_⟩
    rw [ht, cells_ent.1 h2]
theorem OwR.mkE {cur : List Value} (hB : Blk w g cur e) (hc : cur.length = c * 7) (hn : ps.length ≤ c) (hcm : c ≤ maxLen) (hg : base ≤ g) (ht : cur.take (ps.length * 7) = entF ps) : OwR (prR dβ) NoZ w base e (.slice (some ⟨g, 0, none⟩) ps.length c) ps := by
  have hsz : (prR dβ).sz = 7 := rfl
  refine ⟨entF ps, ⟨by rw [hsz]; exact entF_len ps, .inr ⟨g, c, cur.toArray, rfl, hg, hB, hn, hcm, by rw [hsz]; simpa using hc, by rw [hsz]; simpa using ht⟩⟩, cells_ent.2 rfl, fun b _ hz => hz⟩
theorem OwR.caseE {v : Value} (h : OwR (prR dβ) NoZ w base e v ps) : (v = .slice none 0 0 ∧ ps = []) ∨ ∃ g c, v = .slice (some ⟨g, 0, none⟩) ps.length c := by
  obtain ⟨cs, h1, h2, h3⟩ := h
  rcases h1.2 with ⟨he, hn⟩ | ⟨g', cap, cur, he, _⟩
  · exact .inl ⟨he, List.eq_nil_of_length_eq_zero hn⟩
  · exact .inr ⟨g', cap, he⟩
theorem entF_set {i : Nat} (hi : i < ps.length) (p : (ByteArray × EntV) × β) : entF (ps.set i p) = (entF ps).take (i * 7) ++ entC p.1 ++ (entF ps).drop (i * 7 + 7) := by
  have e : ps.set i p = ps.take i ++ p :: ps.drop (i + 1) := List.set_eq_take_append_cons_drop.trans (if_pos hi)
  rw [e, entF_app, entF_take, show i * 7 + 7 = (i + 1) * 7 by omega, entF_drop]
  unfold entF
  rw [List.flatMap_cons, List.append_assoc]
end
section
variable {ro : Option Nat} {P : Program} {Q : Exit → Act → World → Prop} {a : Act} {w : World} {ops : Array Oper} {rest : List Oper} {d : Option Tmp} {ty : TypeId} {pos : String} {aft : Array Edge} {gd : Option (Nat × Bool)}
/-- copy into a block that is known whole: all is read ahead. -/
theorem cpB {t t' e et : TypeId} {x y : Operand} {g o dn dc sn sc sz : Nat} {ad : Addr} (n : Nat) {vs cur : List Value} (hx : a.eval x = .slice (some ⟨g, o, none⟩) dn dc) (hy : a.eval y = .slice (some ad) sn sc)
    (ht : P.underlying t = some (.slice e)) (hi : (P.info? e).map (·.size) = some sz) (hn : Nat.min sn dn = n) (hvl : vs.length = n * sz) (hsrc : ∀ j u, vs[j]? = some u → w.cell? (ad.add j) = some u) (h1 : ∀ u ∈ vs, u.oneCell' = true)
    (hB : Blk w g cur et) (hfit : o + vs.length ≤ cur.length)
    (k : ∀ w1, Blk w1 g (over cur o vs) et → Fr [g] w w1 → w1.heap.size = w.heap.size → L ro P ops Q rest (a.put d (.int .i64 (n : Int))) w1) : St ro P ops Q rest ⟨d, .call ⟨.builtin .copy, #[x, y], #[t, t']⟩, ty, pos, aft, gd⟩ a w := by
  obtain ⟨i, hi0, hs⟩ := Option.map_eq_some_iff.1 hi
  have hl := run_loadCells_list (P := P) (w := w) ad vs hsrc
  rw [hvl, ← hs] at hl
  obtain ⟨w1, h2, h3, h4, h5⟩ := run_storeCells (P := P) g et o vs 0 w cur h1 hB (by simpa using hfit)
  have hrun : (execOp a.eval ⟨d, .call ⟨.builtin .copy, #[x, y], #[t, t']⟩, ty, pos, aft, gd⟩).run P w = .ok (.value (.int .i64 (n : Int))) w1 := by
    simp only [execOp, resolve, invoke, builtin, Sem.run_bind, Sem.run_pure, Result.andThen_ok, List.map_toArray, List.map_cons, List.map_nil, hx, hy]
    simp [Builtin.copy_, run_underlying ht, Builtin.lenOf, Builtin.firstCells, sizeOf, typeInfo, hi0, hn, hl, h2, goInt]
  exact St.val hrun (k w1 (by simpa using h3) h4 h5)
/-- append(s[:i], make(k)...) where there is no room: a new block, its head kept. -/
theorem apMk {t tn e : TypeId} {x y : Operand} {g i c sz bytes : Nat} {z : Value} {cur : List Value} {et : TypeId} {q : Nat} {zi : Int} (hx : a.eval x = .slice (some ⟨g, 0, none⟩) i c) (hy : a.eval y = .int .i64 zi) (hzi : zi = (q : Int)) (ht : P.underlying t = some (.slice e)) (htn : P.underlying tn = some (.int .i64))
    (hinfo : (P.info? e).map (fun i => (i.zero, i.size, i.bytes)) = some (some z, sz, bytes)) (hzs : z.cells.size = sz) (hsz : 0 < sz) (hB : Blk w g cur et) (hcl : i * sz ≤ cur.length) (h1 : ∀ u ∈ cur.take (i * sz), u.oneCell' = true) (h0 : 0 < q) (hg : c < i + q) (hb0 : 0 < bytes) (hb : (i + q) * bytes ≤ 140737488355328)
    (k : ∀ G c1 w1 Z, G = w.heap.size → Blk w1 G (cur.take (i * sz) ++ Z) e → Z.length = (c1 - i) * sz → i + q ≤ c1 → c1 ≤ maxLen → Fr [] w w1 → w1.heap.size = G + 1 → L ro P ops Q rest (a.put d (.slice (some ⟨G, 0, none⟩) (i + q) c1)) w1) : St ro P ops Q rest ⟨d, .call ⟨.builtin .append, #[x, y], #[t, tn]⟩, ty, pos, aft, gd⟩ a w := by
  subst hzi
  obtain ⟨inf, hi, hzz⟩ := Option.map_eq_some_iff.1 hinfo
  simp only [Prod.mk.injEq] at hzz
  obtain ⟨hz0, hz1, hz2⟩ := hzz
  have hle : i + q ≤ 140737488355328 := Nat.le_trans (Nat.le_mul_of_pos_right _ hb0) hb
  have hqb : q * bytes ≤ (i + q) * bytes := Nat.mul_le_mul_right _ (by omega)
  have hl : (cur.take (i * sz)).length = i * sz := by rw [List.length_take]; omega
  have hold : (Builtin.firstCells inf.size i (.slice (some ⟨g, 0, none⟩) i c)).run P w.drew = .ok (cur.take (i * sz)).toArray w.drew := by
    have h := run_loadCells_list (P := P) (w := w.drew) (⟨g, 0, none⟩ : Addr) (cur.take (i * sz)) (fun j v hj => by
      have hj' : cur[j]? = some v := by
        rw [List.getElem?_take] at hj
        split at hj
        · exact hj
        · cases hj
      rw [show (⟨g, 0, none⟩ : Addr).add j = ⟨g, j, none⟩ by unfold Addr.add; split <;> simp_all]
      exact (hB.cell j).trans hj')
    rw [hl] at h
    unfold Builtin.firstCells
    rw [hz1]; exact h
  have hr := Lib.run_append_grow_zeros (P := P) w t tn ty e inf z .i64 .i64 ht htn hi hz0 (some ⟨g, 0, none⟩) i c (cur.take (i * sz)) hold q h0 (by omega) hg (by omega) (by rw [hz2]; omega) (by rw [hz2]; exact growslice_fits hg hb)
  have hcap := grownCap_ge w (i + q) c e
  have hmax := grownCap_le_maxLen w (i + q) c e (by unfold maxLen; omega)
  generalize grownCap w (i + q) c e = c1 at hr hcap hmax
  generalize hZ : Builtin.zeroCells z.cells q ++ Builtin.zeroCells z.cells (c1 - (i + q)) = Z at hr
  have hrun : (execOp a.eval ⟨d, .call ⟨.builtin .append, #[x, y], #[t, tn]⟩, ty, pos, aft, gd⟩).run P w = .ok (.value (.slice (some ⟨w.heap.size, 0, none⟩) (i + q) c1)) (w.drew.alloc (.cells ((cur.take (i * sz)).toArray ++ Z) e)) := by
    rw [Array.append_assoc, hZ] at hr
    simp only [execOp, resolve, invoke, builtin, Sem.run_bind, Sem.run_pure, Result.andThen_ok, List.map_toArray, List.map_cons, List.map_nil, hx, hy, hr]
  have hf : Fr [] w (w.drew.alloc (.cells ((cur.take (i * sz)).toArray ++ Z) e)) := (Fr.drew [] w).new (Fr.alloc [] _ _)
  refine St.val hrun (k _ c1 _ Z.toList rfl ?_ ?_ hcap hmax hf ?_)
  · have := World.alloc_heap_new w.drew (.cells ((cur.take (i * sz)).toArray ++ Z) e)
    have e1 : (cur.take (i * sz) ++ Z.toList).toArray = (cur.take (i * sz)).toArray ++ Z := by simp
    unfold Blk; rw [e1]; exact this
  · rw [← hZ]; simp only [Array.length_toList, Array.size_append, size_zeroCells, hzs]; rw [← Nat.add_mul]; congr 1; omega
  · show (w.drew.heap.push _).size = _; rw [Array.size_push]; rfl
/-- A call of what the model has in its place, its outcome known. -/
theorem xf {f x y : Operand} {ts : Array TypeId} {fid : FuncId} {u1 u2 v : Value} (hf : a.eval f = .func (.func fid) #[] #[]) (hx : a.eval x = u1) (hy : a.eval y = u2) (hr : (callFunc fid #[u1, u2]).run P w = .ok (.value v) w) (k : L ro P ops Q rest (a.put d v) w) : St ro P ops Q rest ⟨d, .call ⟨.value f, #[x, y], ts⟩, ty, pos, aft, gd⟩ a w := by
  have hrun : (execOp a.eval ⟨d, .call ⟨.value f, #[x, y], ts⟩, ty, pos, aft, gd⟩).run P w = .ok (.value v) w := by
    simp only [execOp, resolve, invoke, Sem.run_bind, Sem.run_pure, Result.andThen_ok, List.map_toArray, List.map_cons, List.map_nil, hf, hx, hy, Deferred.ofValue, Array.append_empty, Array.empty_append, hr]
  exact St.val hrun k
/-- A store into five of an entry's cells. -/
theorem stoV {β : Type} {dβ : β} {base g n c : Nat} {et t : TypeId} {x y : Operand} {ps : List ((ByteArray × EntV) × β)} (i : Nat) (p : (ByteArray × EntV) × β) {v : Value} (h : OwR (prR dβ) NoZ w base et (.slice (some ⟨g, 0, none⟩) n c) ps) (hi : i < ps.length)
    (hx : a.eval x = .pointer (some ⟨g, (0 + i * 7) + 1, none⟩)) (hy : a.eval y = v) (hv : v.cells = (((entC p.1).drop 1).take 5).toArray) (h0 : p.1.1 = (at_ (prR dβ) ps (i : Int)).1.1) (h6 : p.1.2.till = (at_ (prR dβ) ps (i : Int)).1.2.till) (ht : (P.info? t).map (·.size) = some 5)
    (k : ∀ w1, OwR (prR dβ) NoZ w1 base et (.slice (some ⟨g, 0, none⟩) n c) (ps.set i p) → Fr [g] w w1 → w1.heap.size = w.heap.size → L ro P ops Q rest a w1) : St ro P ops Q rest ⟨none, .store t x y, ty, pos, aft, gd⟩ a w := by
  obtain ⟨cur, hB, hcl, hn, hnc, hcm, hg, htk⟩ := h.openE
  have hlen : (entF ps).length = ps.length * 7 := entF_len ps
  have hcu : cur.take (n * 7) ++ cur.drop (n * 7) = cur := List.take_append_drop ..
  have hi7 : i * 7 + 7 ≤ ps.length * 7 := by omega
  have hl5 : (((entC p.1).drop 1).take 5).length = 5 := rfl
  have hat : (at_ (prR dβ) ps (i : Int)) = ps[i] := at_el7 (prR dβ) hi
  have hold : (entF ps).drop (i * 7) = entC ps[i].1 ++ (entF ps).drop (i * 7 + 7) := by
    rw [entF_drop, List.drop_eq_getElem_cons hi, show i * 7 + 7 = (i + 1) * 7 by omega, entF_drop]; rfl
  refine stn g ((0 + i * 7) + 1) v ((entC p.1).drop 1 |>.take 5) hx hy hv rfl ht hB (by rw [hl5]; omega) _ rfl fun w1 h1 hf hs => k w1 ?_ hf hs
  have hr := OwR.mkE (dβ := dβ) (ps := ps.set i p) (base := base) (c := c) h1 (by rw [over_length]; exact hcl) (by rw [List.length_set]; omega) hcm hg ?_
  · rw [List.length_set, ← hn] at hr; exact hr
  · rw [List.length_set, ← hn, entF_set hi, over_eq _ _ _ (by rw [hl5]; omega), hl5]
    have e1 : (cur.take (0 + i * 7 + 1)) = (entF ps).take (i * 7) ++ [.string p.1.1] := by
      have q : cur.take (0 + i * 7 + 1) = (cur.take (n * 7)).take (i * 7 + 1) := by rw [List.take_take]; congr 1; omega
      rw [q, htk, List.take_add, hold]
      have q2 : entC ps[i].1 = .string p.1.1 :: (entC ps[i].1).drop 1 := by rw [h0, hat]; rfl
      rw [q2]; rfl
    have e2 : (cur.drop (0 + i * 7 + 1 + 5)).take (n * 7 - (i * 7 + 6)) = [.int .i64 p.1.2.till] ++ (entF ps).drop (i * 7 + 7) := by
      have q : (cur.drop (0 + i * 7 + 1 + 5)).take (n * 7 - (i * 7 + 6)) = (cur.take (n * 7)).drop (i * 7 + 6) := by
        rw [List.drop_take]; congr 2; omega
      rw [q, htk, show i * 7 + 6 = i * 7 + 6 from rfl, ← List.drop_drop, hold]
      have q2 : (entC ps[i].1).drop 6 = [.int .i64 p.1.2.till] := by rw [h6, hat]; rfl
      rw [List.drop_append_of_le_length (by rw [entC_len]; omega), q2]
    have l1 : ((entF ps).take (i * 7) ++ [Value.string p.1.1]).length = i * 7 + 1 := by rw [List.length_append, List.length_take]; simp; omega
    rw [e1, List.take_append, List.length_append, l1, hl5, List.take_of_length_le (by rw [List.length_append, l1, hl5]; omega), show n * 7 - (i * 7 + 1 + 5) = n * 7 - (i * 7 + 6) by omega, e2]
    have q3 : entC p.1 = [.string p.1.1] ++ ((entC p.1).drop 1).take 5 ++ [.int .i64 p.1.2.till] := rfl
    rw [q3]; simp only [List.append_assoc]; rfl
/-- .. into a whole one. -/
theorem stoW {β : Type} {dβ : β} {base g n c : Nat} {et t : TypeId} {x y : Operand} {ps : List ((ByteArray × EntV) × β)} (i : Nat) (p : (ByteArray × EntV) × β) {v : Value} (h : OwR (prR dβ) NoZ w base et (.slice (some ⟨g, 0, none⟩) n c) ps) (hi : i < ps.length)
    (hx : a.eval x = .pointer (some ⟨g, 0 + i * 7, none⟩)) (hy : a.eval y = v) (hv : v.cells = (entC p.1).toArray) (ht : (P.info? t).map (·.size) = some 7)
    (k : ∀ w1, OwR (prR dβ) NoZ w1 base et (.slice (some ⟨g, 0, none⟩) n c) (ps.set i p) → Fr [g] w w1 → w1.heap.size = w.heap.size → L ro P ops Q rest a w1) : St ro P ops Q rest ⟨none, .store t x y, ty, pos, aft, gd⟩ a w := by
  obtain ⟨cur, hB, hcl, hn, hnc, hcm, hg, htk⟩ := h.openE
  have hi7 : i * 7 + 7 ≤ ps.length * 7 := by omega
  refine stn g (0 + i * 7) v (entC p.1) hx hy hv (entC_one _) ht hB (by rw [entC_len]; omega) _ rfl fun w1 h1 hf hs => k w1 ?_ hf hs
  have hr := OwR.mkE (dβ := dβ) (ps := ps.set i p) (base := base) (c := c) h1 (by rw [over_length]; exact hcl) (by rw [List.length_set]; omega) hcm hg ?_
  · rw [List.length_set, ← hn] at hr; exact hr
  · rw [List.length_set, ← hn, entF_set hi, over_eq _ _ _ (by rw [entC_len]; omega), entC_len, ← htk]
    have e1 : cur.take (0 + i * 7) = (cur.take (n * 7)).take (i * 7) := by rw [List.take_take]; congr 1; omega
    have l1 : (cur.take (0 + i * 7)).length = i * 7 := by rw [List.length_take]; omega
    rw [List.take_append, List.length_append, l1, entC_len, List.take_of_length_le (by rw [List.length_append, l1, entC_len]; omega), e1, List.drop_take]
    rw [Nat.zero_add]
/-- The same, where the row's place is told beside it. -/
theorem stoVa {β : Type} {dβ : β} {base g o n c : Nat} {A : Option Addr} {et t : TypeId} {x y : Operand} {ps : List ((ByteArray × EntV) × β)} (i : Nat) (p : (ByteArray × EntV) × β) {v : Value} (h : OwR (prR dβ) NoZ w base et (.slice A n c) ps) (hi : i < ps.length) (hA : A = some ⟨g, o, none⟩)
    (hx : a.eval x = .pointer (some ⟨g, (o + i * 7) + 1, none⟩)) (hy : a.eval y = v) (hv : v.cells = (((entC p.1).drop 1).take 5).toArray) (h0 : p.1.1 = (at_ (prR dβ) ps (i : Int)).1.1) (h6 : p.1.2.till = (at_ (prR dβ) ps (i : Int)).1.2.till) (ht : (P.info? t).map (·.size) = some 5)
    (k : ∀ w1, OwR (prR dβ) NoZ w1 base et (.slice A n c) (ps.set i p) → Fr ((Value.slice A n c).ownBlock.toList) w w1 → w1.heap.size = w.heap.size → L ro P ops Q rest a w1) : St ro P ops Q rest ⟨none, .store t x y, ty, pos, aft, gd⟩ a w := by
  rcases h.caseE with ⟨_, h0⟩ | ⟨g', c', he⟩
  · rw [h0] at hi; simp at hi
  injection he with e1 e2 e3
  subst e1
  injection hA with hA
  injection hA with e4 e5
  subst e4; subst e5
  exact stoV i p h hi hx hy hv h0 h6 ht fun w1 h1 hf hs => k w1 h1 hf hs
theorem stoWa {β : Type} {dβ : β} {base g o n c : Nat} {A : Option Addr} {et t : TypeId} {x y : Operand} {ps : List ((ByteArray × EntV) × β)} (i : Nat) (p : (ByteArray × EntV) × β) {v : Value} (h : OwR (prR dβ) NoZ w base et (.slice A n c) ps) (hi : i < ps.length) (hA : A = some ⟨g, o, none⟩)
    (hx : a.eval x = .pointer (some ⟨g, o + i * 7, none⟩)) (hy : a.eval y = v) (hv : v.cells = (entC p.1).toArray) (ht : (P.info? t).map (·.size) = some 7)
    (k : ∀ w1, OwR (prR dβ) NoZ w1 base et (.slice A n c) (ps.set i p) → Fr ((Value.slice A n c).ownBlock.toList) w w1 → w1.heap.size = w.heap.size → L ro P ops Q rest a w1) : St ro P ops Q rest ⟨none, .store t x y, ty, pos, aft, gd⟩ a w := by
  rcases h.caseE with ⟨_, h0⟩ | ⟨g', c', he⟩
  · rw [h0] at hi; simp at hi
  injection he with e1 e2 e3
  subst e1
  injection hA with hA
  injection hA with e4 e5
  subst e4; subst e5
  exact stoW i p h hi hx hy hv ht fun w1 h1 hf hs => k w1 h1 hf hs
end
section
variable {P : Program} {w : World}
/-- A cut of a slice, both bounds as natural numbers. -/
def It.cut2 (A : Option Addr) (n c : Nat) (l h : Int) (m q sz : Nat) (hb : l = m ∧ h = q ∧ m ≤ q ∧ q ≤ c := by omega) : It P w :=
  let i : It P w := .cut A n c l h sz ⟨by omega, by omega, by omega⟩
  { c := i.c, want := i.want, x := .slice (cutA A m c sz) (q - m) (c - m), h := fun a R o he hc => by
      have := i.h a R o he hc
      rw [this]
      show Result.ok (Next.value (.slice (cutA A l.toNat c sz) (h.toNat - l.toNat) (c - l.toNat))) w = _
      rw [hb.1, hb.2.1, Int.toNat_natCast, Int.toNat_natCast] }
end
end Go.V
end
section
namespace Go.Proofs.YtdebkbfnngkdlaaGreatDoor
open Go.V Go.Base
open Go.RowKit (Below)
attribute [local irreducible] Act.put Act.eval
set_option linter.unusedVariables false
set_option linter.unusedSimpArgs false
set_option maxHeartbeats 4000000
set_option maxRecDepth 20000
/-! ### entries as they lie, and what they lead to -/
abbrev EnQ := (ByteArray × EntV) × EnD
def prE : Rp EnQ := prR enR.dflt
def EnR (Z : Nat → Prop) (w : World) (p : EnQ) : Prop := enR.ok Z w p.2 (entC p.1)
def PsOk (Z : Nat → Prop) (w : World) (ps : List EnQ) : Prop := ∀ p ∈ ps, EnR Z w p
def datE (ps : List EnQ) : List EnD := ps.map Prod.snd
def rawE (x : EnD) (Al : Option Addr) (cl : Nat) (Az : Option Addr) (cz : Nat) (Ah : Option Addr) (ch : Nat) : ByteArray × EntV := (x.key, ⟨x.k, x.s, ⟨Al, x.l.length, cl⟩, ⟨Az, x.z.length, cz⟩, ⟨Ah, x.h.length, ch⟩, x.till⟩)
section
variable {Z Z' : Nat → Prop} {w w1 : World} {ps qs : List EnQ} {p : EnQ} {v : Value} {base nq N M : Nat} {e : TypeId}
theorem datE_len (ps : List EnQ) : (datE ps).length = ps.length := List.length_map ..
theorem EnR.key (h : EnR Z w p) : p.1.1 = p.2.key ∧ p.1.2.till = p.2.till := by
  obtain ⟨Al, cl, Az, cz, Ah, ch, hq, _⟩ := en_open h
  unfold entC at hq
  simp only [List.cons.injEq, Value.string.injEq, Value.int.injEq, true_and, and_true] at hq
  exact ⟨hq.1, hq.2.2.2.2.2.2⟩
theorem PsOk.mono (h : PsOk Z w ps) (hm : ∀ b, b < w.heap.size → Z b → Z' b ∧ w1.heap[b]? = w.heap[b]?) (hs : w.heap.size ≤ w1.heap.size) : PsOk Z' w1 ps := fun p hp => enR.mono hm hs (h p hp)
theorem PsOk.fr {l : List Nat} (h : PsOk Z w ps) (f : Fr l w w1) (hl : ∀ b ∈ l, ¬ Z b) : PsOk Z w1 ps := h.mono (fun b hb hz => ⟨hz, f.block b hb fun hm => hl b hm hz⟩) f.size
theorem PsOk.fr0 (h : PsOk Z w ps) (f : Fr [] w w1) : PsOk Z w1 ps := h.fr f fun b hb => by cases hb
theorem PsOk.zone (h : PsOk Z w ps) (hz : ∀ b, b < w.heap.size → Z b → Z' b) : PsOk Z' w ps := h.mono (fun b hb q => ⟨hz b hb q, rfl⟩) (Nat.le_refl _)
theorem PsOk.sub (h : PsOk Z w ps) (hq : ∀ p ∈ qs, p ∈ ps) : PsOk Z w qs := fun p hp => h p (hq p hp)
theorem PsOk.nil : PsOk Z w [] := fun p hp => by cases hp
theorem PsOk.app (h : PsOk Z w ps) (h2 : PsOk Z w qs) : PsOk Z w (ps ++ qs) := fun p hp => (List.mem_append.1 hp).elim (h p) (h2 p)
theorem PsOk.one (h : EnR Z w p) : PsOk Z w [p] := fun q hq => by obtain rfl := List.mem_singleton.1 hq; exact h
theorem PsOk.raise (h : PsOk (Zi nq N v) w ps) (hm : N ≤ M) : PsOk (Zi nq M v) w ps := h.zone fun k _ q => ⟨q.1, Nat.lt_of_lt_of_le q.2.1 hm, q.2.2⟩
theorem PsOk.own (h : PsOk (Zi nq N v) w ps) {l : List Nat} (f : Fr l w w1) (hl : ∀ b ∈ l, v.ownBlock = some b) : PsOk (Zi nq N v) w1 ps := h.fr f fun b hb hz => hz.2.2 (hl b hb)
/-- A row that is read, as it lies. -/
theorem SlR.raw {xs : List EnD} (h : SlR enR Z w v xs) : ∃ ps, datE ps = xs ∧ SlR prE Z w v ps ∧ PsOk Z w ps := by
  obtain ⟨A, c, rfl, hc, hl, hel⟩ := h
  have hex : ∀ q, q ≤ xs.length → ∃ ps : List EnQ, datE ps = xs.take q ∧ ∀ i p, ps[i]? = some p → EnR Z w p ∧ ∃ g o, A = some ⟨g, o, none⟩ ∧ Z g ∧ g < w.heap.size ∧ ∀ j u, (entC p.1)[j]? = some u → w.cell? ⟨g, o + i * 7 + j, none⟩ = some u := by
    intro q
    induction q with
    | zero => exact fun _ => ⟨[], rfl, fun i p h => by simp at h⟩
    | succ q ih =>
      intro hq
      obtain ⟨ps, h1, h2⟩ := ih (by omega)
      have hlen : ps.length = q := by
        have := congrArg List.length h1
        rw [datE_len, List.length_take] at this
        omega
      obtain ⟨g, o, cs, hA, hz, hg, hok, hcell⟩ := hel q xs[q] (List.getElem?_eq_getElem (by omega))
      obtain ⟨Al, cl, Az, cz, Ah, ch, hcs, _⟩ := en_open hok
      have hcs' : cs = entC (rawE xs[q] Al cl Az cz Ah ch) := hcs
      subst hcs'
      refine ⟨ps ++ [(rawE xs[q] Al cl Az cz Ah ch, xs[q])], ?_, fun i p hi => ?_⟩
      · rw [List.take_succ_eq_append_getElem (by omega), ← h1]; unfold datE; rw [List.map_append]; rfl
      · rcases Nat.lt_or_ge i ps.length with hi2 | hi2
        · rw [List.getElem?_append_left hi2] at hi; exact h2 i p hi
        · rw [List.getElem?_append_right hi2] at hi
          obtain ⟨h0, rfl⟩ : i = q ∧ p = (rawE xs[q] Al cl Az cz Ah ch, xs[q]) := by
            match hk : i - ps.length, hi with
            | 0, hi => exact ⟨by omega, by simpa using hi.symm⟩
            | k + 1, hi => simp at hi
          subst h0
          exact ⟨hok, g, o, hA, hz, hg, hcell⟩
  obtain ⟨ps, h1, h2⟩ := hex xs.length (Nat.le_refl _)
  rw [List.take_length] at h1
  have hlen : ps.length = xs.length := by rw [← h1, datE_len]
  refine ⟨ps, h1, ⟨A, c, by rw [hlen], by omega, by omega, fun i p hi => ?_⟩, fun p hp => ?_⟩
  · obtain ⟨_, g, o, hA, hz, hg, hcell⟩ := h2 i p hi
    exact ⟨g, o, entC p.1, hA, hz, hg, rfl, hcell⟩
  · obtain ⟨i, hi, rfl⟩ := List.mem_iff_getElem.1 hp
    exact (h2 i _ (List.getElem?_eq_getElem hi)).1
/-- .. as data. -/
theorem SlR.dat (h : SlR prE Z w v ps) (hP : PsOk Z w ps) : SlR enR Z w v (datE ps) := by
  obtain ⟨A, c, rfl, hc, hl, hel⟩ := h
  refine ⟨A, c, by rw [datE_len], by rw [datE_len]; exact hc, by rw [datE_len]; exact hl, fun i x hi => ?_⟩
  unfold datE at hi
  rw [List.getElem?_map, Option.map_eq_some_iff] at hi
  obtain ⟨p, hp, rfl⟩ := hi
  obtain ⟨g, o, cs, hA, hz, hg, hok, hcell⟩ := hel i p hp
  have hcs : cs = entC p.1 := hok
  subst hcs
  exact ⟨g, o, _, hA, hz, hg, hP p (List.mem_of_getElem? hp), hcell⟩
/-- A row of one's own, read as data. -/
theorem OwR.dat (h : OwR prE NoZ w base e v ps) (hP : PsOk Z w ps) : SlR enR (fun k => k < w.heap.size) w v (datE ps) :=
  SlR.dat (h.read (fun b hb _ => hb) fun b _ hb => hb) (hP.zone fun b hb _ => hb)
theorem at_dat {i : Nat} (h : i < ps.length) : at_ enR (datE ps) (i : Int) = (at_ prE ps (i : Int)).2 := by
  rw [at_el enR (by rw [datE_len]; exact h), at_el prE h]; unfold datE; rw [List.getElem_map]
end
/-- Rows that may be copied. -/
def smE (x : EnD) : Prop := x.l.length ≤ 1099511627776 ∧ x.z.length ≤ 1099511627776 ∧ x.h.length ≤ 1099511627776
theorem clone_en (w : World) (ad : Addr) (c : Nat) (l : List EnQ) (hS : SlR prE (fun k => k < w.heap.size) w (.slice (some ad) l.length c) l) (hl : l.length ≤ 1099511627776) : Calls Tryz.prog 110 #[.slice (some ad) l.length c] w (fun e w' => ∃ A' c', e = .returned (.slice A' l.length c') ∧ OwR prE NoZ w' w.heap.size 55 (.slice A' l.length c') l ∧ Fr [] w w') := by
 have hF := Fr.refl [] w
 refine V.en 8 Tryz.func110 fun a h1 => ?_
 refine V.sr h1 [] 2 2 [] fun a h4 => ?_
 refine V.seq fun K5 k6 => ?_
 refine V.sr h4 [] 3 3 [(4, .bool false)] fun a h9 => ?_
 refine V.cf h9 ?_
 refine V.skip ?_
 refine V.then_n (k6 _ _ ?_)
 refine V.sg fun K10 k11 => ?_
 refine V.go (V.mk [] trivial (by kernel_rfl) [] 55 (fun b => .slice (some ⟨b, 0, none⟩) 0 0) (by kernel_rfl) ?_)
 intro w13 b12 heb12 hB14 hF15 hsb12
 have hF_16 := hF.new hF15
 have hS_17 := hS.fr0 hF15
 refine V.pt h9 fun a h18 => ?_
 have hO19 := OwR.empty (R := prE) (base := b12) hB14 (Nat.le_refl _)
 refine V.run h18 [] 1 1 0 [(6, .slice (some ad) l.length c)] fun a h25 => ?_
 refine V.go (V.appS (R := prE) (h25.e (v := (.slice (some ⟨b12, 0, none⟩) 0 0))) (h25.e (v := (.slice (some ad) l.length c))) (by kernel_rfl) info55 (by kernel_rfl) (by decide) hO19 hS_17 (fun _ _ h => h) (by (try simp only [List.length_nil]); omega) (by decide) (by omega) ?_)
 intro A20 c21 w22 hO23 hF24
 have hsw22 := hF24.size
 have hF_26 := hF_16.own hF24 (own_ge hO19 (by omega))
 refine V.pt h25 fun a h28 => ?_
 refine V.re h28 [] 1 0 [(2, .slice A20 ((([] : List EnQ)).length + (l).length) c21)] fun a h29 => k11 _ _ ?_
 refine V.ret ?_
 refine V.r1 h29 (.slice A20 ((([] : List EnQ)).length + (l).length) c21) ?_
 have hq := hO23.rebase (base' := w.heap.size) (by omega)
 simp only [List.nil_append, List.length_nil, Nat.zero_add] at hq ⊢
 exact ⟨_, _, rfl, hq, hF_26⟩
theorem clonen_en (w : World) (c : Nat) : Calls Tryz.prog 110 #[.slice none 0 c] w (fun e w' => e = .returned (.slice none 0 0) ∧ Fr [] w w') := by
 have hF := Fr.refl [] w
 refine V.en 8 Tryz.func110 fun a h1 => ?_
 refine V.sr h1 [] 2 2 [] fun a h4 => ?_
 refine V.seq fun K5 k6 => ?_
 refine V.sr h4 [] 3 3 [(4, .bool true)] fun a h9 => ?_
 refine V.ct h9 ?_
 refine V.sr h9 [] 1 0 [(2, .slice none 0 0)] fun a h12 => ?_
 refine V.ret (V.then_r ?_)
 refine V.r1 h12 (.slice none 0 0) ?_
 exact ⟨rfl, hF⟩
/-- Three rows that share no block. -/
def Dis3 (a b c : Value) : Prop := (∀ k, a.ownBlock = some k → b.ownBlock ≠ some k) ∧ (∀ k, a.ownBlock = some k → c.ownBlock ≠ some k) ∧ (∀ k, b.ownBlock = some k → c.ownBlock ≠ some k)
theorem Dis3.nil {m n : Nat} (c : Value) {k l : Nat} : Dis3 (.slice none m n) (.slice none k l) c := ⟨fun _ h => (by cases h), fun _ h => (by cases h), fun _ h => (by cases h)⟩
theorem cl_str (w : World) (A : Option Addr) (c : Nat) (l : List ByteArray) (hS : SlR Rp.str (fun k => k < w.heap.size) w (.slice A l.length c) l) (hl : l.length ≤ 1099511627776) :
    Calls Tryz.prog 111 #[.slice A l.length c] w (fun e w' => ∃ A' c', e = .returned (.slice A' l.length c') ∧ OwR Rp.str NoZ w' w.heap.size 9 (.slice A' l.length c') l ∧ Fr [] w w') := by
  cases A with
  | none =>
    have hl0 : l = [] := by
      cases l with
      | nil => rfl
      | cons x l => obtain ⟨g, o, h, _⟩ := hS.addr (by simp); cases h
    subst hl0
    exact (clonen_str w c).mono fun e w' ⟨h1, h2⟩ => ⟨none, 0, h1, OwR.nil .., h2⟩
  | some ad => exact clone_str w ad c l hS hl
theorem cl_sc (w : World) (A : Option Addr) (c : Nat) (l : List (ByteArray × Int)) (hS : SlR scR (fun k => k < w.heap.size) w (.slice A l.length c) l) (hl : l.length ≤ 1099511627776) :
    Calls Tryz.prog 112 #[.slice A l.length c] w (fun e w' => ∃ A' c', e = .returned (.slice A' l.length c') ∧ OwR scR NoZ w' w.heap.size 98 (.slice A' l.length c') l ∧ Fr [] w w') := by
  cases A with
  | none =>
    have hl0 : l = [] := by
      cases l with
      | nil => rfl
      | cons x l => obtain ⟨g, o, h, _⟩ := hS.addr (by simp); cases h
    subst hl0
    exact (clonen_sc w c).mono fun e w' ⟨h1, h2⟩ => ⟨none, 0, h1, OwR.nil .., h2⟩
  | some ad => exact clone_sc w ad c l hS hl
theorem cl_fd (w : World) (A : Option Addr) (c : Nat) (l : List (ByteArray × ByteArray)) (hS : SlR fdR (fun k => k < w.heap.size) w (.slice A l.length c) l) (hl : l.length ≤ 1099511627776) :
    Calls Tryz.prog 113 #[.slice A l.length c] w (fun e w' => ∃ A' c', e = .returned (.slice A' l.length c') ∧ OwR fdR NoZ w' w.heap.size 101 (.slice A' l.length c') l ∧ Fr [] w w') := by
  cases A with
  | none =>
    have hl0 : l = [] := by
      cases l with
      | nil => rfl
      | cons x l => obtain ⟨g, o, h, _⟩ := hS.addr (by simp); cases h
    subst hl0
    exact (clonen_fd w c).mono fun e w' ⟨h1, h2⟩ => ⟨none, 0, h1, OwR.nil .., h2⟩
  | some ad => exact clone_fd w ad c l hS hl
theorem own_any (w : World) (k : Int) (s : ByteArray) (Al : Option Addr) (cl : Nat) (l : List ByteArray) (hSl : SlR Rp.str (fun k => k < w.heap.size) w (.slice Al l.length cl) l) (Az : Option Addr) (cz : Nat) (z : List (ByteArray × Int)) (hSz : SlR scR (fun k => k < w.heap.size) w (.slice Az z.length cz) z) (Ah : Option Addr) (ch : Nat) (h : List (ByteArray × ByteArray)) (hSh : SlR fdR (fun k => k < w.heap.size) w (.slice Ah h.length ch) h) (hll : l.length ≤ 1099511627776) (hlz : z.length ≤ 1099511627776) (hlh : h.length ≤ 1099511627776) : Calls Tryz.prog 63 #[.agg #[.int .i64 k, .string s, .slice Al l.length cl, .slice Az z.length cz, .slice Ah h.length ch]] w (fun e w' => ∃ Al' cl' Az' cz' Ah' ch', e = .returned (.agg #[.int .i64 k, .string s, .slice Al' l.length cl', .slice Az' z.length cz', .slice Ah' h.length ch']) ∧ OwR Rp.str NoZ w' w.heap.size 9 (.slice Al' l.length cl') l ∧ OwR scR NoZ w' w.heap.size 98 (.slice Az' z.length cz') z ∧ OwR fdR NoZ w' w.heap.size 101 (.slice Ah' h.length ch') h ∧ Dis3 (.slice Al' l.length cl') (.slice Az' z.length cz') (.slice Ah' h.length ch') ∧ Fr [] w w') := by
 have hF := Fr.refl [] w
 refine V.en 16 Tryz.func63 fun a h1 => ?_
 refine V.sg fun K2 k3 => ?_
 refine V.go (V.mk [(0, .agg #[.int .i64 k, .string s, .slice Al l.length cl, .slice Az z.length cz, .slice Ah h.length ch])] ⟨h1.e, trivial⟩ (by kernel_rfl) [.int .i64 k, .string s, .slice Al l.length cl, .slice Az z.length cz, .slice Ah h.length ch] 46 (fun b => .pointer (some ⟨b, 0, none⟩)) (by kernel_rfl) ?_)
 intro w5 b4 heb4 hB6 hF7 hsb4
 have hF_8 := hF.new hF7
 have hSl_9 := hSl.fr0 hF7
 have hSz_10 := hSz.fr0 hF7
 have hSh_11 := hSh.fr0 hF7
 refine V.pt h1 fun a h12 => ?_
 refine V.go (V.mk [] trivial (by kernel_rfl) [.int .i64 0, .string ⟨#[]⟩, .slice none 0 0, .slice none 0 0, .slice none 0 0] 46 (fun b => .pointer (some ⟨b, 0, none⟩)) (by kernel_rfl) ?_)
 intro w14 b13 heb13 hB15 hF16 hsb13
 have hF_17 := hF_8.new hF16
 have hSl_18 := hSl_9.fr0 hF16
 have hSz_19 := hSz_10.fr0 hF16
 have hSh_20 := hSh_11.fr0 hF16
 have hB6_21 := hB6.fr0 hF16
 refine V.pt h12 fun a h22 => ?_
 refine V.nt (k3 _ _ ?_)
 refine V.seq fun K23 k24 => ?_
 refine V.pl [([0,1,3,4,6,7],some (2,[4,7])),([9],some (5,[7])),([],some (8,[])),([],some (10,[])),([11],some (12,[])),([13],some (14,[])),([],none)] fun w25 hF26 hsw25 => ?_
 have hF_27 := hF_17.new hF26
 have hSl_28 := hSl_18.fr0 hF26
 have hSz_29 := hSz_19.fr0 hF26
 have hSh_30 := hSh_20.fr0 hF26
 have hB6_31 := hB6_21.fr0 hF26
 have hB15_32 := hB15.fr0 hF26
 refine V.pe h22 [(1, .b hB6_31 2), (1, .b hB6_31 3), (1, .b hB6_31 4)] 3 3 [(4, .slice Al l.length cl), (6, .pointer (some ⟨b4, 3, none⟩)), (7, .slice Az z.length cz), (9, .pointer (some ⟨b4, 4, none⟩)), (10, .slice Ah h.length ch)] fun a h33 => ?_
 refine V.cl h33 (Go.Proofs.enters_of Tryz.func111 (by kernel_rfl) rfl) (cl_str w25 Al cl l hSl_28.old (by omega)) ?_
 rintro _ w39 ⟨A34, c35, rfl, hO36, hF37⟩
 refine ⟨_, rfl, fun a h40 => ?_⟩
 have hsw39 := hF37.size
 have hF_41 := hF_27.new hF37
 have hSz_43 := hSz_29.fr0 hF37
 have hSh_44 := hSh_30.fr0 hF37
 have hB6_45 := hB6_31.fr0 hF37
 have hB15_46 := hB15_32.fr0 hF37
 have hl38 := hO36.lt
 refine V.eh ⟨(fun _ => held_blk (n := 1) (hx := (h33.e (v := (.pointer (some ⟨b4, 3, none⟩))))) hB6_31 hB6_45 (by kernel_rfl) rfl (by simp only [List.length]; omega)), (fun _ => held_blk (n := 1) (hx := (h33.e (v := (.pointer (some ⟨b4, 4, none⟩))))) hB6_31 hB6_45 (by kernel_rfl) rfl (by simp only [List.length]; omega))⟩ ?_
 refine V.pe h40 [] 1 0 [(12, .pointer (some ⟨b4, 2, none⟩))] fun a h47 => ?_
 refine V.cl h47 (Go.Proofs.enters_of Tryz.func112 (by kernel_rfl) rfl) (cl_sc w39 Az cz z hSz_43.old (by omega)) ?_
 rintro _ w53 ⟨A48, c49, rfl, hO50, hF51⟩
 refine ⟨_, rfl, fun a h54 => ?_⟩
 have hsw53 := hF51.size
 have hF_55 := hF_41.new hF51
 have hSh_58 := hSh_44.fr0 hF51
 have hB6_59 := hB6_45.fr0 hF51
 have hB15_60 := hB15_46.fr0 hF51
 have hO36_61 := hO36.fr0 hF51
 have hl52 := hO50.lt
 refine V.eh (fun _ => held_blk (n := 1) (hx := (h47.e (v := (.pointer (some ⟨b4, 4, none⟩))))) hB6_45 hB6_59 (by kernel_rfl) rfl (by simp only [List.length]; omega)) ?_
 refine V.pe h54 [] 1 0 [] fun a h62 => ?_
 refine V.cl h62 (Go.Proofs.enters_of Tryz.func113 (by kernel_rfl) rfl) (cl_fd w53 Ah ch h hSh_58.old (by omega)) ?_
 rintro _ w68 ⟨A63, c64, rfl, hO65, hF66⟩
 refine ⟨_, rfl, fun a h69 => ?_⟩
 have hsw68 := hF66.size
 have hF_70 := hF_55.new hF66
 have hB6_74 := hB6_59.fr0 hF66
 have hB15_75 := hB15_60.fr0 hF66
 have hO36_76 := hO36_61.fr0 hF66
 have hO50_77 := hO50.fr0 hF66
 have hl67 := hO65.lt
 refine V.eh trivial ?_
 refine V.pe h69 [] 1 0 [] fun a h78 => ?_
 refine V.go (V.stn b4 2 (.slice A34 l.length c35) [.slice A34 l.length c35] h78.e h78.e rfl rfl (by kernel_rfl) hB6_74 (by simp) [.int .i64 k, .string s, .slice A34 l.length c35, .slice Az z.length cz, .slice Ah h.length ch] rfl ?_)
 intro w79 hB80 hF81 hsw79
 have hF_82 := hF_70.own hF81 (by simp <;> omega)
 have hB15_86 := hB15_75.fr1 hF81 (by omega)
 have hO36_87 := hO36_76.frn hF81 (fun h => h) (fun e => by have := hl38 _ e; omega)
 have hO50_88 := hO50_77.frn hF81 (fun h => h) (fun e => by have := hl52 _ e; omega)
 have hO65_89 := hO65.frn hF81 (fun h => h) (fun e => by have := hl67 _ e; omega)
 refine V.eh trivial ?_
 refine V.pe h78 [] 1 0 [(13, .pointer (some ⟨b4, 3, none⟩))] fun a h90 => ?_
 refine V.go (V.stn b4 3 (.slice A48 z.length c49) [.slice A48 z.length c49] h90.e h90.e rfl rfl (by kernel_rfl) hB80 (by simp) [.int .i64 k, .string s, .slice A34 l.length c35, .slice A48 z.length c49, .slice Ah h.length ch] rfl ?_)
 intro w91 hB92 hF93 hsw91
 have hF_94 := hF_82.own hF93 (by simp <;> omega)
 have hB15_98 := hB15_86.fr1 hF93 (by omega)
 have hO36_99 := hO36_87.frn hF93 (fun h => h) (fun e => by have := hl38 _ e; omega)
 have hO50_100 := hO50_88.frn hF93 (fun h => h) (fun e => by have := hl52 _ e; omega)
 have hO65_101 := hO65_89.frn hF93 (fun h => h) (fun e => by have := hl67 _ e; omega)
 refine V.eh trivial ?_
 refine V.pe h90 [] 1 0 [(14, .pointer (some ⟨b4, 4, none⟩))] fun a h102 => ?_
 refine V.go (V.stn b4 4 (.slice A63 h.length c64) [.slice A63 h.length c64] h102.e h102.e rfl rfl (by kernel_rfl) hB92 (by simp) [.int .i64 k, .string s, .slice A34 l.length c35, .slice A48 z.length c49, .slice A63 h.length c64] rfl ?_)
 intro w103 hB104 hF105 hsw103
 have hF_106 := hF_94.own hF105 (by simp <;> omega)
 have hB15_110 := hB15_98.fr1 hF105 (by omega)
 have hO36_111 := hO36_99.frn hF105 (fun h => h) (fun e => by have := hl38 _ e; omega)
 have hO50_112 := hO50_100.frn hF105 (fun h => h) (fun e => by have := hl52 _ e; omega)
 have hO65_113 := hO65_101.frn hF105 (fun h => h) (fun e => by have := hl67 _ e; omega)
 refine V.eh trivial ?_
 refine V.pz h102 [] 1 0 [] fun a h114 => k24 _ _ ?_
 refine V.sg fun K115 k116 => ?_
 refine V.run h114 [(0, .bs hB104 0 [.int .i64 k, .string s, .slice A34 l.length c35, .slice A48 z.length c49, .slice A63 h.length c64])] 1 1 0 [(15, .agg #[.int .i64 k, .string s, .slice A34 l.length c35, .slice A48 z.length c49, .slice A63 h.length c64])] fun a h120 => ?_
 refine V.go (V.stn b13 0 (.agg #[.int .i64 k, .string s, .slice A34 l.length c35, .slice A48 z.length c49, .slice A63 h.length c64]) [.int .i64 k, .string s, .slice A34 l.length c35, .slice A48 z.length c49, .slice A63 h.length c64] h120.e h120.e rfl rfl (by kernel_rfl) hB15_110 (by simp) [.int .i64 k, .string s, .slice A34 l.length c35, .slice A48 z.length c49, .slice A63 h.length c64] rfl ?_)
 intro w117 hB118 hF119 hsw117
 have hF_121 := hF_106.own hF119 (by simp <;> omega)
 have hO36_125 := hO36_111.frn hF119 (fun h => h) (fun e => by have := hl38 _ e; omega)
 have hO50_126 := hO50_112.frn hF119 (fun h => h) (fun e => by have := hl52 _ e; omega)
 have hO65_127 := hO65_113.frn hF119 (fun h => h) (fun e => by have := hl67 _ e; omega)
 refine V.nt (k116 _ _ ?_)
 refine V.ret ?_
 refine V.retC h120.sd rfl _ (h120.e (v := (.pointer (some ⟨b13, 0, none⟩)))) (V.run_loadVar_agg (cs := [.int .i64 k, .string s, .slice A34 l.length c35, .slice A48 z.length c49, .slice A63 h.length c64]) (by kernel_rfl) (blk_cells hB118 0 _ rfl)) ?_
 exact ⟨_, _, _, _, _, _, rfl, hO36_125.rebase (base' := w.heap.size) (by omega), hO50_126.rebase (base' := w.heap.size) (by omega), hO65_127.rebase (base' := w.heap.size) (by omega), ⟨fun b h1 h2 => by have q1 := hl38 b h1; have q2 := hl52 b h2; omega, fun b h1 h2 => by have q1 := hl38 b h1; have q2 := hl67 b h2; omega, fun b h1 h2 => by have q1 := hl52 b h1; have q2 := hl67 b h2; omega⟩, hF_121⟩
theorem cl_en (w : World) (A : Option Addr) (c : Nat) (l : List EnQ) (hS : SlR prE (fun k => k < w.heap.size) w (.slice A l.length c) l) (hl : l.length ≤ 1099511627776) :
    Calls Tryz.prog 110 #[.slice A l.length c] w (fun e w' => ∃ A' c', e = .returned (.slice A' l.length c') ∧ OwR prE NoZ w' w.heap.size 55 (.slice A' l.length c') l ∧ Fr [] w w') := by
  cases A with
  | none =>
    have hl0 : l = [] := by
      cases l with
      | nil => rfl
      | cons x l => obtain ⟨g, o, h, _⟩ := hS.addr (by simp); cases h
    subst hl0
    exact (clonen_en w c).mono fun e w' ⟨h1, h2⟩ => ⟨none, 0, h1, OwR.nil .., h2⟩
  | some ad => exact clone_en w ad c l hS hl
section
variable {Z : Nat → Prop} {w : World} {ps qs : List EnQ} {p : EnQ} {i : Nat}
theorem PsOk.join (h1 : PsOk Z w (qs.take i)) (h2 : PsOk Z w ps) (he : qs.drop i = ps.drop i) : PsOk Z w qs := by
  rw [← List.take_append_drop i qs, he]
  exact h1.app (h2.sub fun p hp => List.mem_of_mem_drop hp)
theorem sm_at (h : ∀ p ∈ ps, smE p.2) (he : datE qs = datE ps) (hi : i < qs.length) : smE (at_ prE qs (i : Int)).2 := by
  have h1 : (at_ prE qs (i : Int)).2 ∈ datE qs := List.mem_map.2 ⟨_, at_in prE hi, rfl⟩
  rw [he] at h1
  obtain ⟨p, hp, e⟩ := List.mem_map.1 h1
  rw [← e]; exact h p hp
theorem take_set (hi : i < qs.length) : (qs.set i p).take (i + 1) = qs.take i ++ [p] := by
  rw [List.set_eq_take_append_cons_drop, if_pos hi, List.take_append, List.length_take, Nat.min_eq_left (by omega), List.take_take, Nat.min_eq_right (by omega), Nat.add_sub_cancel_left]
  rfl
theorem dat_set {r : ByteArray × EntV} (hi : i < qs.length) : datE (qs.set i (r, (at_ prE qs (i : Int)).2)) = datE qs := by
  unfold datE
  rw [List.map_set, at_el prE hi]
  apply List.ext_getElem?
  intro j
  rw [List.getElem?_set]
  split
  · rename_i h
    subst h
    split
    · rw [List.getElem?_map, List.getElem?_eq_getElem hi]; rfl
    · rw [List.length_map] at *; omega
  · rfl
theorem drop_set (he : qs.drop i = ps.drop i) : (qs.set i p).drop (i + 1) = ps.drop (i + 1) := by
  rw [List.drop_set_of_lt (by omega), ← List.drop_drop, he, List.drop_drop]
end
theorem owned_raw (w : World) (A : Option Addr) (c : Nat) (ps : List EnQ) (hSp : SlR prE (fun k => k < w.heap.size) w (.slice A ps.length c) ps) (hPp : PsOk (fun k => k < w.heap.size) w ps) (hl : ps.length ≤ 1099511627776) (hsm : ∀ p ∈ ps, smE p.2) : Calls Tryz.prog 62 #[.slice A ps.length c] w (fun e w' => ∃ A' c' qs, e = .returned (.slice A' qs.length c') ∧ datE qs = datE ps ∧ OwR prE NoZ w' w.heap.size 55 (.slice A' qs.length c') qs ∧ PsOk (Zi w.heap.size w'.heap.size (.slice A' qs.length c')) w' qs ∧ Fr [] w w') := by
 have hF := Fr.refl [] w
 refine V.en 24 Tryz.func62 fun a h1 => ?_
 refine V.sr h1 [] 2 2 [] fun a h4 => ?_
 refine V.sg fun K5 k6 => ?_
 refine V.run h4 [] 1 1 0 [(5, .slice A ps.length c)] fun a h7 => ?_
 refine V.cl h7 (Go.Proofs.enters_of Tryz.func110 (by kernel_rfl) rfl) (cl_en w A c ps hSp.old (by omega)) ?_
 rintro _ w12 ⟨A8, c9, rfl, hO10, hF11⟩
 refine ⟨_, rfl, fun a h13 => ?_⟩
 have hsw12 := hF11.size
 have hF_14 := hF.new hF11
 have hPp_16 := hPp.fr0 hF11
 refine V.re h13 [] 1 0 [(3, .slice A8 ps.length c9)] fun a h17 => k6 _ _ ?_
 refine V.seq fun K18 k19 => ?_
 refine V.sr h17 [] 7 7 [(8, .int .i64 ((ps.length : Nat) : Int)), (9, .int .i64 0)] fun a h22 => ?_
 refine V.block ?_
 refine V.loop2 (fun (i : Nat) (qs : List EnQ) a_ w_ => En 24 [] a_ [(3, .slice A8 ps.length c9), (8, .int .i64 ((ps.length : Nat) : Int)), (9, .int .i64 (i : Int))] ∧ OwR prE NoZ w_ w.heap.size 55 (.slice A8 ps.length c9) qs ∧ PsOk (Zi w.heap.size w_.heap.size (.slice A8 ps.length c9)) w_ (qs.take i) ∧ Fr [] w w_ ∧ PsOk (fun k => k < w.heap.size) w_ ps ∧ (i ≤ ps.length) ∧ (qs.length = ps.length) ∧ (datE qs = datE ps) ∧ (qs.drop i = ps.drop i)) (fun (i : Nat) (qs : List EnQ) => ps.length - i) 0 ps ?_ ?_
 ·
  refine ⟨(h22.eq 9 (v := (.int .i64 0)) (u := (.int .i64 (0 : Int))) (V.int_eq (by omega))).only _, hO10, PsOk.nil, hF_14, hPp_16, (by omega), rfl, rfl, rfl⟩
 ·
  rintro i qs a23 w24 ⟨h25, hO_26, hN_27, hF_28, hPp_29, hi, hql, hqd, hqp⟩
  have hfs30 := hF_28.size
  refine V.sr h25 [] 1 0 [(10, .bool (decide ((i : Int) < ((ps.length : Nat) : Int))))] fun a h33 => ?_
  refine V.seq fun K34 k35 => ?_
  refine V.cp h33 ((i : Int) < ((ps.length : Nat) : Int)) (fun ht36 => ?_) (fun ht36 => ?_)
  ·
   refine V.skip ?_
   refine V.then_n (k35 _ _ ?_)
   refine V.seq fun K37 k38 => ?_
   refine V.block ?_
   refine V.sr h33 [] 11 11 [(4, .int .i64 (i : Int))] fun a h41 => ?_
   have hQ42 : PsOk (fun k => k < w24.heap.size) w24 qs := PsOk.join (hN_27.zone fun b hb _ => hb) (hPp_29.zone fun b hb _ => hb) hqp
   have hS43 := hO_26.read (Z' := fun k => k < w24.heap.size) (fun _ hb _ => hb) (fun _ _ hb => hb)
   obtain ⟨hsl, hsz, hsh⟩ := sm_at hsm hqd (i := i) (by omega)
   obtain ⟨g44, o45, hA46, hA46l, hA46z⟩ := hS43.addr (by omega)
   obtain ⟨cs47, hok48, hE49⟩ := hS43.els hA46 (i : Int) (by omega) (by omega)
   obtain rfl : cs47 = entC (at_ prE qs (i : Int)).1 := hok48
   obtain ⟨Al50, cl51, Az52, cz53, Ah54, ch55, hq56, hS57, hS58, hS59⟩ := en_open (hQ42 (at_ prE qs (i : Int)) (at_in prE (by omega)))
   rw [hq56] at hE49
   refine V.rg ?_
   refine V.run h41 [(4, .ix g44 o45 ps.length c9 .i64 (i : Int) 7 hA46), (1, .ls ⟨g44, (o45 + (i : Int).toNat * 7) + 1, none⟩ [.int .i64 ((at_ prE qs (i : Int)).2.k), .string ((at_ prE qs (i : Int)).2.s), .slice Al50 ((at_ prE qs (i : Int)).2.l.length) cl51, .slice Az52 ((at_ prE qs (i : Int)).2.z.length) cz53, .slice Ah54 ((at_ prE qs (i : Int)).2.h.length) ch55] (hE49.cells 1 _ rfl))] 7 14 17 [(12, .slice A8 ps.length c9), (13, .int .i64 (i : Int)), (18, .agg #[.int .i64 ((at_ prE qs (i : Int)).2.k), .string ((at_ prE qs (i : Int)).2.s), .slice Al50 ((at_ prE qs (i : Int)).2.l.length) cl51, .slice Az52 ((at_ prE qs (i : Int)).2.z.length) cz53, .slice Ah54 ((at_ prE qs (i : Int)).2.h.length) ch55])] fun a h60 => ?_
   refine V.cl h60 (Go.Proofs.enters_of Tryz.func63 (by kernel_rfl) rfl) (own_any w24 ((at_ prE qs (i : Int)).2.k) ((at_ prE qs (i : Int)).2.s) Al50 cl51 ((at_ prE qs (i : Int)).2.l) hS57.old Az52 cz53 ((at_ prE qs (i : Int)).2.z) hS58.old Ah54 ch55 ((at_ prE qs (i : Int)).2.h) hS59.old hsl hsz hsh) ?_
   rintro _ w75 ⟨Al61, cl62, Az63, cz64, Ah65, ch66, rfl, hO68, hO69, hO70, hd71, hF67⟩
   refine ⟨_, rfl, fun a h76 => ?_⟩
   have hsw75 := hF67.size
   have hO_77 := hO_26.fr0 hF67
   have hN_78 := hN_27.fr0 hF67
   have hF_79 := hF_28.new hF67
   have hPp_80 := hPp_29.fr0 hF67
   have hQ42_81 := hQ42.fr0 hF67
   have hS72 := hO68.read (Z' := fun k => w24.heap.size ≤ k ∧ k < w75.heap.size) (fun _ _ q => q.elim) (fun _ q q2 => ⟨q, q2⟩)
   have hS73 := hO69.read (Z' := fun k => w24.heap.size ≤ k ∧ k < w75.heap.size) (fun _ _ q => q.elim) (fun _ q q2 => ⟨q, q2⟩)
   have hS74 := hO70.read (Z' := fun k => w24.heap.size ≤ k ∧ k < w75.heap.size) (fun _ _ q => q.elim) (fun _ q q2 => ⟨q, q2⟩)
   refine V.run h76 [(0, .ix g44 o45 ps.length c9 .i64 (i : Int) 7 hA46)] 2 20 20 [(21, .pointer (some ⟨g44, (o45 + (i : Int).toNat * 7) + 1, none⟩))] fun a h88 => ?_
   have hk87 := EnR.key (hQ42_81 _ (at_in prE (show i < qs.length by omega)))
   have hp89 : EnR (Zi w.heap.size w75.heap.size (.slice A8 ps.length c9)) w75 (rawE (at_ prE qs (i : Int)).2 Al61 cl62 Az63 cz64 Ah65 ch66, (at_ prE qs (i : Int)).2) := ⟨_, _, _, rfl, hS72.zone (fun k _ hz => ⟨by omega, hz.2, fun e => by have := (hO_26.lt _ e).2; omega⟩), hS73.zone (fun k _ hz => ⟨by omega, hz.2, fun e => by have := (hO_26.lt _ e).2; omega⟩), hS74.zone (fun k _ hz => ⟨by omega, hz.2, fun e => by have := (hO_26.lt _ e).2; omega⟩)⟩
   have hN90 := (hN_78.raise (M := w75.heap.size) (by omega)).app (PsOk.one hp89)
   refine V.go (V.stoVa (dβ := enR.dflt) i (rawE (at_ prE qs (i : Int)).2 Al61 cl62 Az63 cz64 Ah65 ch66, (at_ prE qs (i : Int)).2) hO_77 (by omega) hA46 (h88.e (v := (.pointer (some ⟨g44, (o45 + (i : Int).toNat * 7) + 1, none⟩)))) (h88.e (v := (.agg #[.int .i64 ((at_ prE qs (i : Int)).2.k), .string ((at_ prE qs (i : Int)).2.s), .slice Al61 (((at_ prE qs (i : Int)).2.l).length) cl62, .slice Az63 (((at_ prE qs (i : Int)).2.z).length) cz64, .slice Ah65 (((at_ prE qs (i : Int)).2.h).length) ch66]))) rfl hk87.1.symm hk87.2.symm (by kernel_rfl) ?_)
   intro w91 hO92 hF93 hsw91
   have hF_94 := hF_79.own hF93 (own_ge hO_77 (by omega))
   have hPp_95 := hPp_80.fr hF93 (by intro b hb hz; have := own_ge hO_77 (Nat.le_refl _) b hb; (try dsimp only at hz); omega)
   have hN90_96 := hN90.own hF93 (by intro k hk; simpa using hk)
   refine V.nil ?_
   refine V.blk_n ?_
   refine V.then_n (k38 _ _ ?_)
   refine V.rr h88 [(0, .i ((i : Int) + 1))] 22 22 [(9, .int .i64 ((i : Int) + 1))] fun a h97 => ?_
   refine V.then_n ?_
   refine ⟨i + 1, qs.set i (rawE (at_ prE qs (i : Int)).2 Al61 cl62 Az63 cz64 Ah65 ch66, (at_ prE qs (i : Int)).2), by omega, ?_⟩
   refine ⟨(h97.eq 9 (v := (.int .i64 ((i : Int) + 1))) (u := (.int .i64 ((i + 1) : Int))) (V.int_eq (by omega))).only _, hO92, (by rw [take_set (by omega)]; exact hN90_96.raise (M := w91.heap.size) (by omega)), hF_94, hPp_95, (by omega), (by rw [List.length_set]; omega), (by rw [← hqd]; exact dat_set (i := i) (by omega)), (drop_set hqp)⟩
  ·
   refine V.exit (V.then_e (V.then_e (V.blk_hit ?_)))
   refine V.then_n (k19 _ _ ?_)
   refine V.sr h33 [] 23 23 [(2, .slice A8 ps.length c9)] fun a h100 => ?_
   refine V.ret ?_
   refine V.r1 h100 (.slice A8 ps.length c9) ?_
   have hqt : qs.take i = qs := List.take_of_length_le (by omega)
   rw [hqt] at hN_27
   exact ⟨_, _, qs, by rw [hql], hqd, by rw [hql]; exact hO_26, by rw [hql]; exact hN_27.raise (by omega), hF_28⟩
theorem owned_any (w : World) (A : Option Addr) (c n : Nat) (xs : List EnD) (hn : n = xs.length) (hS : SlR enR (fun k => k < w.heap.size) w (.slice A n c) xs) (hl : xs.length ≤ 1099511627776) (hsm : ∀ x ∈ xs, smE x) :
    Calls Tryz.prog 62 #[.slice A n c] w fun e w' => ∃ A' c' qs, e = .returned (.slice A' qs.length c') ∧ datE qs = xs ∧ OwR prE NoZ w' w.heap.size 55 (.slice A' qs.length c') qs ∧ PsOk (Zi w.heap.size w'.heap.size (.slice A' qs.length c')) w' qs ∧ Fr [] w w' := by
  subst hn
  obtain ⟨ps, rfl, h1, h2⟩ := SlR.raw hS
  rw [datE_len] at h1 hl ⊢
  exact owned_raw w A c ps h1 h2 hl fun p hp => hsm _ (List.mem_map.2 ⟨p, hp, rfl⟩)
/-! ### a key's place -/
def plN : List EnD → ByteArray → Int
  | [], _ => -1
  | x :: l, key => if x.key = key then 0 else if plN l key < 0 then -1 else plN l key + 1
theorem plN_spec : ∀ (l : List EnD) (key : ByteArray), (plN l key = -1 ∧ ∀ x ∈ l, ¬ x.key = key) ∨ ∃ i : Nat, plN l key = i ∧ ∃ h : i < l.length, l[i].key = key ∧ ∀ (j : Nat) (hj : j < i), ¬ (l[j]'(by omega)).key = key
  | [], _ => .inl ⟨rfl, fun x h => by cases h⟩
  | x :: l, key => by
    unfold plN
    by_cases hx : x.key = key
    · rw [if_pos hx]
      exact .inr ⟨0, rfl, by simp, hx, fun j hj => by omega⟩
    · rw [if_neg hx]
      rcases plN_spec l key with ⟨h1, h2⟩ | ⟨i, h1, h2, h3, h4⟩
      · rw [if_pos (by omega)]
        refine .inl ⟨rfl, fun y hy => ?_⟩
        rcases List.mem_cons.1 hy with rfl | hy
        · exact hx
        · exact h2 y hy
      · rw [if_neg (by omega)]
        refine .inr ⟨i + 1, by omega, by simp; exact h2, by simpa using h3, fun j hj => ?_⟩
        cases j with
        | zero => exact hx
        | succ j => simpa using h4 j (by omega)
def gK (l : List EnD) (key : ByteArray) (i : Nat) : Prop := ¬ (at_ enR l (i : Int)).key = key
section
variable {l : List EnD} {key : ByteArray} {i : Nat}
theorem plN_no (h : AllG (gK l key) l.length) : plN l key = -1 := by
  rcases plN_spec l key with ⟨h1, _⟩ | ⟨i, _, h2, h3, _⟩
  · exact h1
  · exact absurd (by rw [at_el enR h2]; exact h3) (h i h2)
theorem plN_at (hi : i < l.length) (hk : (at_ enR l (i : Int)).key = key) (h : AllG (gK l key) i) : plN l key = i := by
  rw [at_el enR hi] at hk
  rcases plN_spec l key with ⟨_, h2⟩ | ⟨j, h1, h2, h3, h4⟩
  · exact absurd hk (h2 _ (List.getElem_mem hi))
  · rcases Nat.lt_trichotomy i j with hj | hj | hj
    · exact absurd hk (h4 i hj)
    · rw [h1, hj]
    · exact absurd (by rw [at_el enR h2]; exact h3) (h j hj)
theorem plN_lt (h : ¬ plN l key < 0) : ∃ i : Nat, plN l key = i ∧ i < l.length ∧ (at_ enR l (i : Int)).key = key := by
  rcases plN_spec l key with ⟨h1, _⟩ | ⟨j, h1, h2, h3, _⟩
  · omega
  · exact ⟨j, h1, h2, by rw [at_el enR h2]; exact h3⟩
end
def fdE (l : List EnD) (key : ByteArray) : EnD := if plN l key < 0 then enR.dflt else at_ enR l (plN l key)
theorem fd_no {l : List EnD} {key : ByteArray} (h : plN l key < 0) : fdE l key = enR.dflt := if_pos h
theorem fd_at {l : List EnD} {key : ByteArray} {i : Nat} (h : plN l key = i) : fdE l key = at_ enR l (i : Int) := by unfold fdE; rw [if_neg (by omega), h]
theorem fd_pick {l : List EnD} {qs : List EnQ} {i k : Nat} (h : datE qs = (l.drop i).take k) (hi : i < l.length) (hk : 0 < k) : (at_ prE qs (0 : Int)).2 = at_ enR l (i : Int) := by
  have hl : qs.length = ((l.drop i).take k).length := by rw [← h, datE_len]
  have h0 : 0 < qs.length := by rw [hl, List.length_take, List.length_drop]; omega
  have e := at_dat (ps := qs) (i := 0) h0
  have h2 : 0 < ((l.drop i).take k).length := by omega
  refine e.symm.trans ?_
  rw [h, at_el enR h2, at_el enR hi, List.getElem_take, List.getElem_drop]; rfl
theorem plc1_any (w : World) (key : ByteArray) (k : Int) (s : ByteArray) (Al : Option Addr) (cl : Nat) (l : List ByteArray) (hSl : SlR Rp.str (fun k => k < w.heap.size) w (.slice Al l.length cl) l) (Az : Option Addr) (cz : Nat) (z : List (ByteArray × Int)) (hSz : SlR scR (fun k => k < w.heap.size) w (.slice Az z.length cz) z) (Ah : Option Addr) (ch : Nat) (h : List (ByteArray × ByteArray)) (hSh : SlR fdR (fun k => k < w.heap.size) w (.slice Ah h.length ch) h) (at' : Int) (b : Nat) (key2 : ByteArray) (hB : Blk w b [.string key2] 9) : Calls Tryz.prog 116 #[.agg #[.string key, .int .i64 k, .string s, .slice Al l.length cl, .slice Az z.length cz, .slice Ah h.length ch, .int .i64 at'], .pointer (some ⟨b, 0, none⟩)] w (fun e w' => e = .returned (.bool (decide (key = key2))) ∧ Fr [] w w') := by
 have hF := Fr.refl [] w
 have hlt0 := hB.lt
 refine V.en 8 Tryz.func116 fun a h1 => ?_
 refine V.sg fun K2 k3 => ?_
 refine V.go (V.mk [(0, .agg #[.string key, .int .i64 k, .string s, .slice Al l.length cl, .slice Az z.length cz, .slice Ah h.length ch, .int .i64 at'])] ⟨h1.e, trivial⟩ (by kernel_rfl) [.string key, .int .i64 k, .string s, .slice Al l.length cl, .slice Az z.length cz, .slice Ah h.length ch, .int .i64 at'] 55 (fun b => .pointer (some ⟨b, 0, none⟩)) (by kernel_rfl) ?_)
 intro w5 b4 heb4 hB6 hF7 hsb4
 have hF_8 := hF.new hF7
 have hB_12 := hB.fr0 hF7
 refine V.pt h1 fun a h13 => ?_
 refine V.re h13 [] 3 3 [] fun a h14 => k3 _ _ ?_
 refine V.sr h14 [(1, .b hB6 0), (0, .b hB_12 0), (0, .seq key key2)] 4 7 [(3, .bool (decide (key = key2)))] fun a h17 => ?_
 refine V.ret ?_
 refine V.r1 h17 (.bool (decide (key = key2))) ?_
 exact ⟨rfl, hF_8⟩
theorem ixk_any (w : World) (Al : Option Addr) (cl : Nat) (l : List EnD) (hSl : SlR enR (fun k => k < w.heap.size) w (.slice Al l.length cl) l) (b : Nat) (key2 : ByteArray) (hB : Blk w b [.string key2] 9) : Calls Tryz.prog 109 #[.slice Al l.length cl, .func (.func 116) #[] #[.pointer (some ⟨b, 0, none⟩)]] w (fun e w' => e = .returned (.int .i64 (plN l key2)) ∧ Fr [] w w') := by
 have hF := Fr.refl [] w
 have hlen0 := hSl.len_le
 have hlt0 := hB.lt
 refine V.en 19 Tryz.func109 fun a h1 => ?_
 refine V.sr h1 [] 4 4 [] fun a h4 => ?_
 refine V.seq fun K5 k6 => ?_
 refine V.sr h4 [] 6 6 [(7, .int .i64 ((l.length : Nat) : Int)), (8, .int .i64 0)] fun a h9 => ?_
 refine V.block ?_
 refine V.loop1 (fun (i : Nat) a_ w_ => En 19 [] a_ [(0, .slice Al l.length cl), (1, .func (.func 116) #[] #[.pointer (some ⟨b, 0, none⟩)]), (7, .int .i64 ((l.length : Nat) : Int)), (8, .int .i64 (i : Int))] ∧ Fr [] w w_ ∧ SlR enR (fun k => k < w.heap.size) w_ (.slice Al l.length cl) l ∧ Blk w_ b [.string key2] 9 ∧ (i ≤ l.length) ∧ (AllG (gK l key2) i)) (fun (i : Nat) => l.length - i) 0 ?_ ?_
 ·
  refine ⟨(h9.eq 8 (v := (.int .i64 0)) (u := (.int .i64 (0 : Int))) (V.int_eq (by omega))).only _, hF, hSl, hB, (by omega), (AllG.zero _)⟩
 ·
  rintro i a10 w11 ⟨h12, hF_13, hSl_14, hB_15, hi, hG⟩
  have hfs16 := hF_13.size
  have hlt17 := hB_15.lt
  refine V.sr h12 [] 1 0 [(9, .bool (decide ((i : Int) < ((l.length : Nat) : Int))))] fun a h20 => ?_
  refine V.seq fun K21 k22 => ?_
  refine V.cp h20 ((i : Int) < ((l.length : Nat) : Int)) (fun ht23 => ?_) (fun ht23 => ?_)
  ·
   refine V.skip ?_
   refine V.then_n (k22 _ _ ?_)
   refine V.seq fun K24 k25 => ?_
   refine V.block ?_
   refine V.sr h20 [] 10 10 [(5, .int .i64 (i : Int))] fun a h28 => ?_
   obtain ⟨g31, o32, hA33, hA33l, hA33z⟩ := hSl_14.addr (by omega)
   obtain ⟨cs34, hok35, hE36⟩ := hSl_14.els hA33 (i : Int) (by omega) (by omega)
   obtain ⟨Al37, cl38, Az39, cz40, Ah41, ch42, rfl, hS43, hS44, hS45⟩ := en_open hok35
   refine V.sg fun K29 k30 => ?_
   refine V.run h28 [(3, .ix g31 o32 l.length cl .i64 (i : Int) 7 hA33), (0, .ls ⟨g31, o32 + (i : Int).toNat * 7, none⟩ [.string ((at_ enR l (i : Int)).key), .int .i64 ((at_ enR l (i : Int)).k), .string ((at_ enR l (i : Int)).s), .slice Al37 ((at_ enR l (i : Int)).l.length) cl38, .slice Az39 ((at_ enR l (i : Int)).z.length) cz40, .slice Ah41 ((at_ enR l (i : Int)).h.length) ch42, .int .i64 ((at_ enR l (i : Int)).till)] (hE36.cells 0 _ rfl))] 5 12 14 [(11, .func (.func 116) #[] #[.pointer (some ⟨b, 0, none⟩)]), (15, .agg #[.string ((at_ enR l (i : Int)).key), .int .i64 ((at_ enR l (i : Int)).k), .string ((at_ enR l (i : Int)).s), .slice Al37 ((at_ enR l (i : Int)).l.length) cl38, .slice Az39 ((at_ enR l (i : Int)).z.length) cz40, .slice Ah41 ((at_ enR l (i : Int)).h.length) ch42, .int .i64 ((at_ enR l (i : Int)).till)])] fun a h46 => ?_
   refine V.cl h46 (Go.Proofs.enters_of Tryz.func116 (by kernel_rfl) rfl) (plc1_any w11 ((at_ enR l (i : Int)).key) ((at_ enR l (i : Int)).k) ((at_ enR l (i : Int)).s) Al37 cl38 ((at_ enR l (i : Int)).l) hS43.old Az39 cz40 ((at_ enR l (i : Int)).z) hS44.old Ah41 ch42 ((at_ enR l (i : Int)).h) hS45.old ((at_ enR l (i : Int)).till) b key2 hB_15) ?_
   rintro _ w48 ⟨rfl, hF47⟩
   refine ⟨_, rfl, fun a h49 => ?_⟩
   have hsw48 := hF47.size
   have hF_50 := hF_13.new hF47
   have hSl_51 := hSl_14.fr0 hF47
   have hB_52 := hB_15.fr0 hF47
   refine V.nt (k30 _ _ ?_)
   refine V.cp h49 (((at_ enR l (i : Int)).key) = key2) (fun ht57 => ?_) (fun ht57 => ?_)
   ·
    refine V.sr h49 [] 17 17 [(4, .int .i64 (i : Int))] fun a h60 => ?_
    refine V.ret (V.blk_r (V.then_r (V.then_r (V.blk_r (V.then_r ?_)))))
    refine V.r1 h60 (.int .i64 (i : Int)) ?_
    exact ⟨congrArg (fun b => Ending.returned (Value.int .i64 b)) (plN_at (by omega) ht57 hG).symm, hF_50⟩
   ·
    refine V.skip (V.blk_n ?_)
    refine V.then_n (k25 _ _ ?_)
    refine V.rr h49 [(0, .i ((i : Int) + 1))] 18 18 [(8, .int .i64 ((i : Int) + 1))] fun a h61 => ?_
    refine V.then_n ?_
    refine ⟨i + 1, by omega, ?_⟩
    refine ⟨(h61.eq 8 (v := (.int .i64 ((i : Int) + 1))) (u := (.int .i64 ((i + 1) : Int))) (V.int_eq (by omega))).only _, hF_50, hSl_51, hB_52, (by omega), (hG.step (by unfold gK; exact ht57))⟩
  ·
   refine V.exit (V.then_e (V.then_e (V.blk_hit ?_)))
   refine V.then_n (k6 _ _ ?_)
   refine V.sr h20 [] 1 0 [(4, .int .i64 (-1))] fun a h64 => ?_
   refine V.ret ?_
   refine V.r1 h64 (.int .i64 (-1)) ?_
   exact ⟨congrArg (fun b => Ending.returned (Value.int .i64 b)) (plN_no (hG.le (by omega))).symm, hF_13⟩
theorem place_any (w : World) (Al : Option Addr) (cl : Nat) (l : List EnD) (hSl : SlR enR (fun k => k < w.heap.size) w (.slice Al l.length cl) l) (key2 : ByteArray) : Calls Tryz.prog 66 #[.slice Al l.length cl, .string key2] w (fun e w' => e = .returned (.int .i64 (plN l key2)) ∧ Fr [] w w') := by
 have hF := Fr.refl [] w
 refine V.en 8 Tryz.func66 fun a h1 => ?_
 refine V.sg fun K2 k3 => ?_
 refine V.go (V.mk [(1, .string key2)] ⟨h1.e, trivial⟩ (by kernel_rfl) [.string key2] 9 (fun b => .pointer (some ⟨b, 0, none⟩)) (by kernel_rfl) ?_)
 intro w5 b4 heb4 hB6 hF7 hsb4
 have hF_8 := hF.new hF7
 have hSl_9 := hSl.fr0 hF7
 refine V.pt h1 fun a h10 => ?_
 refine V.re h10 [] 4 4 [] fun a h11 => k3 _ _ ?_
 refine V.sg fun K12 k13 => ?_
 refine V.run h11 [] 2 1 0 [(5, .slice Al l.length cl), (6, .func (.func 116) #[] #[.pointer (some ⟨b4, 0, none⟩)])] fun a h14 => ?_
 refine V.cl h14 (Go.Proofs.enters_of Tryz.func109 (by kernel_rfl) rfl) (ixk_any w5 Al cl l hSl_9.old b4 key2 hB6) ?_
 rintro _ w16 ⟨rfl, hF15⟩
 refine ⟨_, rfl, fun a h17 => ?_⟩
 have hsw16 := hF15.size
 have hF_18 := hF_8.new hF15
 refine V.re h17 [] 1 0 [(4, .int .i64 (plN l key2))] fun a h21 => k13 _ _ ?_
 refine V.ret ?_
 refine V.r1 h21 (.int .i64 (plN l key2)) ?_
 exact ⟨rfl, hF_18⟩
theorem rplace_any (w : World) (Al : Option Addr) (cl : Nat) (l : List EnD) (hSl : SlR enR (fun k => k < w.heap.size) w (.slice Al l.length cl) l) (key2 : ByteArray) : Calls Tryz.prog 67 #[.slice Al l.length cl, .string key2] w (fun e w' => e = .returned (.int .i64 (plN l key2)) ∧ Fr [] w w') := by
 have hF := Fr.refl [] w
 have hlen0 := hSl.len_le
 refine V.en 20 Tryz.func67 fun a h1 => ?_
 refine V.sr h1 [] 4 4 [] fun a h4 => ?_
 refine V.seq fun K5 k6 => ?_
 refine V.sr h4 [] 1 0 [(5, .int .i64 0)] fun a h9 => ?_
 refine V.block ?_
 refine V.loop1 (fun (i : Nat) a_ w_ => En 20 [] a_ [(0, .slice Al l.length cl), (1, .string key2), (5, .int .i64 (i : Int))] ∧ Fr [] w w_ ∧ SlR enR (fun k => k < w.heap.size) w_ (.slice Al l.length cl) l ∧ (i ≤ l.length) ∧ (AllG (gK l key2) i)) (fun (i : Nat) => l.length - i) 0 ?_ ?_
 ·
  refine ⟨(h9.eq 5 (v := (.int .i64 0)) (u := (.int .i64 (0 : Int))) (V.int_eq (by omega))).only _, hF, hSl, (by omega), (AllG.zero _)⟩
 ·
  rintro i a10 w11 ⟨h12, hF_13, hSl_14, hi, hG⟩
  have hfs15 := hF_13.size
  refine V.seq fun K16 k17 => ?_
  refine V.sr h12 [] 6 8 [(9, .bool (decide ((i : Int) < ((l.length : Nat) : Int))))] fun a h20 => ?_
  refine V.cp h20 ((i : Int) < ((l.length : Nat) : Int)) (fun ht21 => ?_) (fun ht21 => ?_)
  ·
   refine V.skip ?_
   refine V.then_n (k17 _ _ ?_)
   refine V.seq fun K22 k23 => ?_
   refine V.block ?_
   obtain ⟨g26, o27, hA28, hA28l, hA28z⟩ := hSl_14.addr (by omega)
   obtain ⟨cs29, hok30, hE31⟩ := hSl_14.els hA28 (i : Int) (by omega) (by omega)
   obtain ⟨Al32, cl33, Az34, cz35, Ah36, ch37, rfl, hS38, hS39, hS40⟩ := en_open hok30
   refine V.sr h20 [(2, .ix g26 o27 l.length cl .i64 (i : Int) 7 hA28), (1, .l ⟨g26, o27 + (i : Int).toNat * 7, none⟩ (.string ((at_ enR l (i : Int)).key)) (hE31.at 0 rfl)), (1, .seq ((at_ enR l (i : Int)).key) key2)] 12 17 [(18, .bool (decide (((at_ enR l (i : Int)).key) = key2)))] fun a h41 => ?_
   refine V.cp h41 (((at_ enR l (i : Int)).key) = key2) (fun ht42 => ?_) (fun ht42 => ?_)
   ·
    refine V.sr h41 [] 19 19 [(4, .int .i64 (i : Int))] fun a h45 => ?_
    refine V.ret (V.blk_r (V.then_r (V.then_r (V.blk_r (V.then_r ?_)))))
    refine V.r1 h45 (.int .i64 (i : Int)) ?_
    exact ⟨congrArg (fun b => Ending.returned (Value.int .i64 b)) (plN_at (by omega) ht42 hG).symm, hF_13⟩
   ·
    refine V.skip (V.blk_n ?_)
    refine V.then_n (k23 _ _ ?_)
    refine V.rr h41 [(1, .i ((i : Int) + 1))] 10 11 [(5, .int .i64 ((i : Int) + 1))] fun a h46 => ?_
    refine V.then_n ?_
    refine ⟨i + 1, by omega, ?_⟩
    refine ⟨(h46.eq 5 (v := (.int .i64 ((i : Int) + 1))) (u := (.int .i64 ((i + 1) : Int))) (V.int_eq (by omega))).only _, hF_13, hSl_14, (by omega), (hG.step (by unfold gK; exact ht42))⟩
  ·
   refine V.exit (V.then_e (V.then_e (V.blk_hit ?_)))
   refine V.then_n (k6 _ _ ?_)
   refine V.sr h20 [] 1 0 [(4, .int .i64 (-1))] fun a h49 => ?_
   refine V.ret ?_
   refine V.r1 h49 (.int .i64 (-1)) ?_
   exact ⟨congrArg (fun b => Ending.returned (Value.int .i64 b)) (plN_no (hG.le (by omega))).symm, hF_13⟩
theorem find_any (w : World) (Al : Option Addr) (cl : Nat) (l : List EnD) (hSl : SlR enR (fun k => k < w.heap.size) w (.slice Al l.length cl) l) (key2 : ByteArray) (hsm : ∀ x ∈ l, smE x) : Calls Tryz.prog 26 #[.slice Al l.length cl, .string key2] w (fun e w' => ∃ key k sv Al nl cl Az nz cz Ah nh ch t, e = .returned (.tuple #[.agg #[.string key, .int .i64 k, .string sv, .slice Al nl cl, .slice Az nz cz, .slice Ah nh ch, .int .i64 t], .bool (decide (¬ plN l key2 < 0))]) ∧ Fr [] w w' ∧ enR.ok (fun k => k < w'.heap.size) w' (fdE l key2) [.string key, .int .i64 k, .string sv, .slice Al nl cl, .slice Az nz cz, .slice Ah nh ch, .int .i64 t]) := by
 have hF := Fr.refl [] w
 have hlen0 := hSl.len_le
 have hlen1 := hSl.cp.2
 refine V.en 21 Tryz.func26 fun a h1 => ?_
 refine V.sg fun K2 k3 => ?_
 refine V.go (V.mk [] trivial (by kernel_rfl) [.string ⟨#[]⟩, .int .i64 0, .string ⟨#[]⟩, .slice none 0 0, .slice none 0 0, .slice none 0 0, .int .i64 0] 55 (fun b => .pointer (some ⟨b, 0, none⟩)) (by kernel_rfl) ?_)
 intro w5 b4 heb4 hB6 hF7 hsb4
 have hF_8 := hF.new hF7
 have hSl_9 := hSl.fr0 hF7
 refine V.pt h1 fun a h10 => ?_
 refine V.re h10 [] 5 5 [] fun a h11 => k3 _ _ ?_
 refine V.sg fun K12 k13 => ?_
 refine V.run h11 [] 2 1 0 [(7, .slice Al l.length cl), (8, .string key2)] fun a h14 => ?_
 refine V.cl h14 (Go.Proofs.enters_of Tryz.func66 (by kernel_rfl) rfl) (place_any w5 Al cl l hSl_9.old key2) ?_
 rintro _ w16 ⟨rfl, hF15⟩
 refine ⟨_, rfl, fun a h17 => ?_⟩
 have hsw16 := hF15.size
 have hF_18 := hF_8.new hF15
 have hSl_19 := hSl_9.fr0 hF15
 have hB6_20 := hB6.fr0 hF15
 refine V.re h17 [] 1 0 [(6, .int .i64 (plN l key2))] fun a h21 => k13 _ _ ?_
 refine V.seq fun K22 k23 => ?_
 refine V.sr h21 [] 10 10 [(11, .bool (decide ((plN l key2) < 0)))] fun a h26 => ?_
 refine V.cp h26 ((plN l key2) < 0) (fun ht27 => ?_) (fun ht27 => ?_)
 ·
  refine V.sg fun K28 k29 => ?_
  refine V.run h26 [] 1 1 0 [(12, .agg #[.string ⟨#[]⟩, .int .i64 0, .string ⟨#[]⟩, .slice none 0 0, .slice none 0 0, .slice none 0 0, .int .i64 0])] fun a h33 => ?_
  refine V.go (V.stn b4 0 (.agg #[.string ⟨#[]⟩, .int .i64 0, .string ⟨#[]⟩, .slice none 0 0, .slice none 0 0, .slice none 0 0, .int .i64 0]) [.string ⟨#[]⟩, .int .i64 0, .string ⟨#[]⟩, .slice none 0 0, .slice none 0 0, .slice none 0 0, .int .i64 0] h33.e h33.e rfl rfl (by kernel_rfl) hB6_20 (by simp) [.string ⟨#[]⟩, .int .i64 0, .string ⟨#[]⟩, .slice none 0 0, .slice none 0 0, .slice none 0 0, .int .i64 0] rfl ?_)
  intro w30 hB31 hF32 hsw30
  have hF_34 := hF_18.own hF32 (by simp <;> omega)
  refine V.re h33 [] 1 0 [(5, .bool false)] fun a h36 => k29 _ _ ?_
  refine V.ret (V.then_r ?_)
  refine V.retCT h36.sd rfl _ (h36.e (v := (.pointer (some ⟨b4, 0, none⟩)))) (V.run_loadVar_agg (cs := [.string ⟨#[]⟩, .int .i64 0, .string ⟨#[]⟩, .slice none 0 0, .slice none 0 0, .slice none 0 0, .int .i64 0]) (by kernel_rfl) (blk_cells hB31 0 _ rfl)) (h36.e (v := (.bool false))) ?_
  exact ⟨_, _, _, _, _, _, _, _, _, _, _, _, _, congrArg (fun b => Ending.returned (Value.tuple #[.agg #[.string ⟨#[]⟩, .int .i64 0, .string ⟨#[]⟩, .slice none 0 0, .slice none 0 0, .slice none 0 0, .int .i64 0], Value.bool b])) (decide_eq_false (by omega)).symm, hF_34, (fd_no (by assumption)).symm ▸ (⟨_, _, _, rfl, SlR.nil _ _ _, SlR.nil _ _ _, SlR.nil _ _ _⟩ : enR.ok _ _ enR.dflt _)⟩
 ·
  refine V.skip ?_
  refine V.then_n (k23 _ _ ?_)
  refine V.seq fun K37 k38 => ?_
  obtain ⟨i, hpi, hil, hik⟩ := plN_lt (l := l) (key := key2) (by assumption)
  have h39 := h26.eq 6 (v := (.int .i64 (plN l key2))) (u := (.int .i64 (i : Int))) (V.int_eq (by omega))
  have hS40 := (hSl_19.dr (i := i) (by omega)).tk (i := (i + 1) - i) (by rw [List.length_drop]; omega)
  refine V.rg ?_
  refine V.run h39 [(3, .i ((i : Int) + 1)), (0, .cut2 Al l.length cl (i : Int) ((i : Int) + 1) i (i + 1) 7)] 5 13 16 [(17, .slice (cutA Al i cl 7) ((i + 1) - i) (cl - i))] fun a h41 => ?_
  refine V.cl h41 (Go.Proofs.enters_of Tryz.func62 (by kernel_rfl) rfl) (owned_any w16 (cutA Al i cl 7) (cl - i) ((i + 1) - i) ((l.drop i).take ((i + 1) - i)) (by first | rfl | (simp only [List.length_take, List.length_drop]; omega)) hS40.old (by simp only [List.length_take, List.length_drop]; omega) (fun y hy => hsm y (List.mem_of_mem_drop (List.mem_of_mem_take hy)))) ?_
  rintro _ w51 ⟨A42, c43, qs44, rfl, hd45, hO46, hP47, hF48⟩
  refine ⟨_, rfl, fun a h52 => ?_⟩
  have hsw51 := hF48.size
  have hF_53 := hF_18.new hF48
  have hB6_55 := hB6_20.fr0 hF48
  have hql50 : qs44.length = ((i + 1) - i) := by rw [← datE_len, hd45]; simp only [List.length_take, List.length_drop]; omega
  have hS49 := hO46.read (Z' := fun k => w16.heap.size ≤ k) (fun _ _ h => h.elim) (fun _ h _ => h)
  obtain ⟨g57, o58, hA59, hA59l, hA59z⟩ := hS49.addr (by omega)
  try dsimp only at hA59z
  obtain ⟨cs60, hok61, hE62⟩ := hS49.els hA59 (0 : Int) (by omega) (by omega)
  obtain rfl : cs60 = entC (at_ prE qs44 (0 : Int)).1 := hok61
  obtain ⟨Al63, cl64, Az65, cz66, Ah67, ch68, hq69, hS70, hS71, hS72⟩ := en_open (hP47 (at_ prE qs44 (0 : Int)) (at_in prE (i := 0) (by omega)))
  rw [hq69] at hE62
  replace hS70 := hS70.zone (Z' := fun k => w16.heap.size ≤ k ∧ k < w51.heap.size) (fun k _ hz => ⟨hz.1, hz.2.1⟩)
  replace hS71 := hS71.zone (Z' := fun k => w16.heap.size ≤ k ∧ k < w51.heap.size) (fun k _ hz => ⟨hz.1, hz.2.1⟩)
  replace hS72 := hS72.zone (Z' := fun k => w16.heap.size ≤ k ∧ k < w51.heap.size) (fun k _ hz => ⟨hz.1, hz.2.1⟩)
  refine V.run h52 [(0, .ix g57 o58 qs44.length c43 .i64 0 7 hA59), (0, .ls ⟨g57, o58 + (0 : Int).toNat * 7, none⟩ [.string ((at_ prE qs44 (0 : Int)).2.key), .int .i64 ((at_ prE qs44 (0 : Int)).2.k), .string ((at_ prE qs44 (0 : Int)).2.s), .slice Al63 ((at_ prE qs44 (0 : Int)).2.l.length) cl64, .slice Az65 ((at_ prE qs44 (0 : Int)).2.z.length) cz66, .slice Ah67 ((at_ prE qs44 (0 : Int)).2.h.length) ch68, .int .i64 ((at_ prE qs44 (0 : Int)).2.till)] (hE62.cells 0 _ rfl))] 2 19 19 [(20, .agg #[.string ((at_ prE qs44 (0 : Int)).2.key), .int .i64 ((at_ prE qs44 (0 : Int)).2.k), .string ((at_ prE qs44 (0 : Int)).2.s), .slice Al63 ((at_ prE qs44 (0 : Int)).2.l.length) cl64, .slice Az65 ((at_ prE qs44 (0 : Int)).2.z.length) cz66, .slice Ah67 ((at_ prE qs44 (0 : Int)).2.h.length) ch68, .int .i64 ((at_ prE qs44 (0 : Int)).2.till)])] fun a h76 => ?_
  refine V.go (V.stn b4 0 (.agg #[.string ((at_ prE qs44 (0 : Int)).2.key), .int .i64 ((at_ prE qs44 (0 : Int)).2.k), .string ((at_ prE qs44 (0 : Int)).2.s), .slice Al63 ((at_ prE qs44 (0 : Int)).2.l.length) cl64, .slice Az65 ((at_ prE qs44 (0 : Int)).2.z.length) cz66, .slice Ah67 ((at_ prE qs44 (0 : Int)).2.h.length) ch68, .int .i64 ((at_ prE qs44 (0 : Int)).2.till)]) [.string ((at_ prE qs44 (0 : Int)).2.key), .int .i64 ((at_ prE qs44 (0 : Int)).2.k), .string ((at_ prE qs44 (0 : Int)).2.s), .slice Al63 ((at_ prE qs44 (0 : Int)).2.l.length) cl64, .slice Az65 ((at_ prE qs44 (0 : Int)).2.z.length) cz66, .slice Ah67 ((at_ prE qs44 (0 : Int)).2.h.length) ch68, .int .i64 ((at_ prE qs44 (0 : Int)).2.till)] h76.e h76.e rfl rfl (by kernel_rfl) hB6_55 (by simp) [.string ((at_ prE qs44 (0 : Int)).2.key), .int .i64 ((at_ prE qs44 (0 : Int)).2.k), .string ((at_ prE qs44 (0 : Int)).2.s), .slice Al63 ((at_ prE qs44 (0 : Int)).2.l.length) cl64, .slice Az65 ((at_ prE qs44 (0 : Int)).2.z.length) cz66, .slice Ah67 ((at_ prE qs44 (0 : Int)).2.h.length) ch68, .int .i64 ((at_ prE qs44 (0 : Int)).2.till)] rfl ?_)
  intro w73 hB74 hF75 hsw73
  have hF_77 := hF_53.own hF75 (by simp <;> omega)
  have hS70_83 := hS70.fr hF75 (by simp <;> omega)
  have hS71_84 := hS71.fr hF75 (by simp <;> omega)
  have hS72_85 := hS72.fr hF75 (by simp <;> omega)
  refine V.re h76 [] 1 0 [(5, .bool true)] fun a h87 => k38 _ _ ?_
  refine V.ret ?_
  refine V.retCT h87.sd rfl _ (h87.e (v := (.pointer (some ⟨b4, 0, none⟩)))) (V.run_loadVar_agg (cs := [.string ((at_ prE qs44 (0 : Int)).2.key), .int .i64 ((at_ prE qs44 (0 : Int)).2.k), .string ((at_ prE qs44 (0 : Int)).2.s), .slice Al63 ((at_ prE qs44 (0 : Int)).2.l.length) cl64, .slice Az65 ((at_ prE qs44 (0 : Int)).2.z.length) cz66, .slice Ah67 ((at_ prE qs44 (0 : Int)).2.h.length) ch68, .int .i64 ((at_ prE qs44 (0 : Int)).2.till)]) (by kernel_rfl) (blk_cells hB74 0 _ rfl)) (h87.e (v := (.bool true))) ?_
  have hx := (fd_pick hd45 hil (by omega)).trans (fd_at hpi).symm
  exact ⟨_, _, _, _, _, _, _, _, _, _, _, _, _, congrArg (fun b => Ending.returned (Value.tuple #[.agg #[.string ((at_ prE qs44 (0 : Int)).2.key), .int .i64 ((at_ prE qs44 (0 : Int)).2.k), .string ((at_ prE qs44 (0 : Int)).2.s), .slice Al63 ((at_ prE qs44 (0 : Int)).2.l.length) cl64, .slice Az65 ((at_ prE qs44 (0 : Int)).2.z.length) cz66, .slice Ah67 ((at_ prE qs44 (0 : Int)).2.h.length) ch68, .int .i64 ((at_ prE qs44 (0 : Int)).2.till)], Value.bool b])) (decide_eq_true (by omega)).symm, hF_77, hx ▸ (⟨_, _, _, rfl, hS70_83.old, hS71_84.old, hS72_85.old⟩ : enR.ok _ _ ((at_ prE qs44 (0 : Int)).2) _)⟩
theorem rfind_any (w : World) (Al : Option Addr) (cl : Nat) (l : List EnD) (hSl : SlR enR (fun k => k < w.heap.size) w (.slice Al l.length cl) l) (key2 : ByteArray) : Calls Tryz.prog 27 #[.slice Al l.length cl, .string key2] w (fun e w' => ∃ key k sv Al nl cl Az nz cz Ah nh ch t, e = .returned (.tuple #[.agg #[.string key, .int .i64 k, .string sv, .slice Al nl cl, .slice Az nz cz, .slice Ah nh ch, .int .i64 t], .bool (decide (¬ plN l key2 < 0))]) ∧ Fr [] w w' ∧ enR.ok (fun k => k < w'.heap.size) w' (fdE l key2) [.string key, .int .i64 k, .string sv, .slice Al nl cl, .slice Az nz cz, .slice Ah nh ch, .int .i64 t]) := by
 have hF := Fr.refl [] w
 have hlen0 := hSl.len_le
 refine V.en 17 Tryz.func27 fun a h1 => ?_
 refine V.sg fun K2 k3 => ?_
 refine V.go (V.mk [] trivial (by kernel_rfl) [.string ⟨#[]⟩, .int .i64 0, .string ⟨#[]⟩, .slice none 0 0, .slice none 0 0, .slice none 0 0, .int .i64 0] 55 (fun b => .pointer (some ⟨b, 0, none⟩)) (by kernel_rfl) ?_)
 intro w5 b4 heb4 hB6 hF7 hsb4
 have hF_8 := hF.new hF7
 have hSl_9 := hSl.fr0 hF7
 refine V.pt h1 fun a h10 => ?_
 refine V.re h10 [] 5 5 [] fun a h11 => k3 _ _ ?_
 refine V.sg fun K12 k13 => ?_
 refine V.run h11 [] 2 1 0 [(7, .slice Al l.length cl), (8, .string key2)] fun a h14 => ?_
 refine V.cl h14 (Go.Proofs.enters_of Tryz.func67 (by kernel_rfl) rfl) (rplace_any w5 Al cl l hSl_9.old key2) ?_
 rintro _ w16 ⟨rfl, hF15⟩
 refine ⟨_, rfl, fun a h17 => ?_⟩
 have hsw16 := hF15.size
 have hF_18 := hF_8.new hF15
 have hSl_19 := hSl_9.fr0 hF15
 have hB6_20 := hB6.fr0 hF15
 refine V.re h17 [] 1 0 [(6, .int .i64 (plN l key2))] fun a h21 => k13 _ _ ?_
 refine V.seq fun K22 k23 => ?_
 refine V.sr h21 [] 10 10 [(11, .bool (decide ((plN l key2) < 0)))] fun a h26 => ?_
 refine V.cp h26 ((plN l key2) < 0) (fun ht27 => ?_) (fun ht27 => ?_)
 ·
  refine V.sg fun K28 k29 => ?_
  refine V.run h26 [] 1 1 0 [(12, .agg #[.string ⟨#[]⟩, .int .i64 0, .string ⟨#[]⟩, .slice none 0 0, .slice none 0 0, .slice none 0 0, .int .i64 0])] fun a h33 => ?_
  refine V.go (V.stn b4 0 (.agg #[.string ⟨#[]⟩, .int .i64 0, .string ⟨#[]⟩, .slice none 0 0, .slice none 0 0, .slice none 0 0, .int .i64 0]) [.string ⟨#[]⟩, .int .i64 0, .string ⟨#[]⟩, .slice none 0 0, .slice none 0 0, .slice none 0 0, .int .i64 0] h33.e h33.e rfl rfl (by kernel_rfl) hB6_20 (by simp) [.string ⟨#[]⟩, .int .i64 0, .string ⟨#[]⟩, .slice none 0 0, .slice none 0 0, .slice none 0 0, .int .i64 0] rfl ?_)
  intro w30 hB31 hF32 hsw30
  have hF_34 := hF_18.own hF32 (by simp <;> omega)
  refine V.re h33 [] 1 0 [(5, .bool false)] fun a h36 => k29 _ _ ?_
  refine V.ret (V.then_r ?_)
  refine V.retCT h36.sd rfl _ (h36.e (v := (.pointer (some ⟨b4, 0, none⟩)))) (V.run_loadVar_agg (cs := [.string ⟨#[]⟩, .int .i64 0, .string ⟨#[]⟩, .slice none 0 0, .slice none 0 0, .slice none 0 0, .int .i64 0]) (by kernel_rfl) (blk_cells hB31 0 _ rfl)) (h36.e (v := (.bool false))) ?_
  exact ⟨_, _, _, _, _, _, _, _, _, _, _, _, _, congrArg (fun b => Ending.returned (Value.tuple #[.agg #[.string ⟨#[]⟩, .int .i64 0, .string ⟨#[]⟩, .slice none 0 0, .slice none 0 0, .slice none 0 0, .int .i64 0], Value.bool b])) (decide_eq_false (by omega)).symm, hF_34, (fd_no (by assumption)).symm ▸ (⟨_, _, _, rfl, SlR.nil _ _ _, SlR.nil _ _ _, SlR.nil _ _ _⟩ : enR.ok _ _ enR.dflt _)⟩
 ·
  refine V.skip ?_
  refine V.then_n (k23 _ _ ?_)
  refine V.seq fun K37 k38 => ?_
  obtain ⟨i, hpi, hil, hik⟩ := plN_lt (l := l) (key := key2) (by assumption)
  have h39 := h26.eq 6 (v := (.int .i64 (plN l key2))) (u := (.int .i64 (i : Int))) (V.int_eq (by omega))
  obtain ⟨g40, o41, hA42, hA42l, hA42z⟩ := hSl_19.addr (by omega)
  obtain ⟨cs43, hok44, hE45⟩ := hSl_19.els hA42 (i : Int) (by omega) (by omega)
  obtain ⟨Al46, cl47, Az48, cz49, Ah50, ch51, rfl, hS52, hS53, hS54⟩ := en_open hok44
  refine V.rg ?_
  refine V.run h39 [(2, .ix g40 o41 l.length cl .i64 (i : Int) 7 hA42), (0, .ls ⟨g40, o41 + (i : Int).toNat * 7, none⟩ [.string ((at_ enR l (i : Int)).key), .int .i64 ((at_ enR l (i : Int)).k), .string ((at_ enR l (i : Int)).s), .slice Al46 ((at_ enR l (i : Int)).l.length) cl47, .slice Az48 ((at_ enR l (i : Int)).z.length) cz49, .slice Ah50 ((at_ enR l (i : Int)).h.length) ch51, .int .i64 ((at_ enR l (i : Int)).till)] (hE45.cells 0 _ rfl))] 4 13 15 [(16, .agg #[.string ((at_ enR l (i : Int)).key), .int .i64 ((at_ enR l (i : Int)).k), .string ((at_ enR l (i : Int)).s), .slice Al46 ((at_ enR l (i : Int)).l.length) cl47, .slice Az48 ((at_ enR l (i : Int)).z.length) cz49, .slice Ah50 ((at_ enR l (i : Int)).h.length) ch51, .int .i64 ((at_ enR l (i : Int)).till)])] fun a h58 => ?_
  refine V.go (V.stn b4 0 (.agg #[.string ((at_ enR l (i : Int)).key), .int .i64 ((at_ enR l (i : Int)).k), .string ((at_ enR l (i : Int)).s), .slice Al46 ((at_ enR l (i : Int)).l.length) cl47, .slice Az48 ((at_ enR l (i : Int)).z.length) cz49, .slice Ah50 ((at_ enR l (i : Int)).h.length) ch51, .int .i64 ((at_ enR l (i : Int)).till)]) [.string ((at_ enR l (i : Int)).key), .int .i64 ((at_ enR l (i : Int)).k), .string ((at_ enR l (i : Int)).s), .slice Al46 ((at_ enR l (i : Int)).l.length) cl47, .slice Az48 ((at_ enR l (i : Int)).z.length) cz49, .slice Ah50 ((at_ enR l (i : Int)).h.length) ch51, .int .i64 ((at_ enR l (i : Int)).till)] h58.e h58.e rfl rfl (by kernel_rfl) hB6_20 (by simp) [.string ((at_ enR l (i : Int)).key), .int .i64 ((at_ enR l (i : Int)).k), .string ((at_ enR l (i : Int)).s), .slice Al46 ((at_ enR l (i : Int)).l.length) cl47, .slice Az48 ((at_ enR l (i : Int)).z.length) cz49, .slice Ah50 ((at_ enR l (i : Int)).h.length) ch51, .int .i64 ((at_ enR l (i : Int)).till)] rfl ?_)
  intro w55 hB56 hF57 hsw55
  have hF_59 := hF_18.own hF57 (by simp <;> omega)
  have hS52_61 := hS52.fr hF57 (by simp <;> omega)
  have hS53_62 := hS53.fr hF57 (by simp <;> omega)
  have hS54_63 := hS54.fr hF57 (by simp <;> omega)
  refine V.re h58 [] 1 0 [(5, .bool true)] fun a h65 => k38 _ _ ?_
  refine V.ret ?_
  refine V.retCT h65.sd rfl _ (h65.e (v := (.pointer (some ⟨b4, 0, none⟩)))) (V.run_loadVar_agg (cs := [.string ((at_ enR l (i : Int)).key), .int .i64 ((at_ enR l (i : Int)).k), .string ((at_ enR l (i : Int)).s), .slice Al46 ((at_ enR l (i : Int)).l.length) cl47, .slice Az48 ((at_ enR l (i : Int)).z.length) cz49, .slice Ah50 ((at_ enR l (i : Int)).h.length) ch51, .int .i64 ((at_ enR l (i : Int)).till)]) (by kernel_rfl) (blk_cells hB56 0 _ rfl)) (h65.e (v := (.bool true))) ?_
  have hx := (fd_at hpi).symm
  exact ⟨_, _, _, _, _, _, _, _, _, _, _, _, _, congrArg (fun b => Ending.returned (Value.tuple #[.agg #[.string ((at_ enR l (i : Int)).key), .int .i64 ((at_ enR l (i : Int)).k), .string ((at_ enR l (i : Int)).s), .slice Al46 ((at_ enR l (i : Int)).l.length) cl47, .slice Az48 ((at_ enR l (i : Int)).z.length) cz49, .slice Ah50 ((at_ enR l (i : Int)).h.length) ch51, .int .i64 ((at_ enR l (i : Int)).till)], Value.bool b])) (decide_eq_true (by omega)).symm, hF_59, hx ▸ (⟨_, _, _, rfl, hS52_61.old, hS53_62.old, hS54_63.old⟩ : enR.ok _ _ (at_ enR l (i : Int)) _)⟩
/-! ### rows that rise by their keys; where a key belongs -/
theorem cmpS_zero (x y : ByteArray) : cmpS x y = 0 ↔ x = y := by
  unfold cmpS
  constructor
  · intro h
    split at h
    · cases h
    · split at h
      · cases h
      · rename_i h1 h2
        rcases slt_tri x y with h3 | h3 | h3
        · exact absurd h3 h1
        · exact h3
        · exact absurd h3 h2
  · rintro rfl
    rw [if_neg (slt_irr x), if_neg (slt_irr x)]
def Srt (l : List EnD) : Prop := ∀ i j : Nat, i < j → j < l.length → slt (at_ enR l (i : Int)).key (at_ enR l (j : Int)).key
def LoE (l : List EnD) (key : ByteArray) (k : Nat) : Prop := ∀ j : Nat, j < k → j < l.length → slt (at_ enR l (j : Int)).key key
def HiE (l : List EnD) (key : ByteArray) (k : Nat) : Prop := ∀ j : Nat, k ≤ j → j < l.length → ¬ slt (at_ enR l (j : Int)).key key
def lbN (l : List EnD) (key : ByteArray) : Nat := (l.takeWhile fun x => decide (slt x.key key)).length
def thR (l : List EnD) (key : ByteArray) : Prop := lbN l key < l.length ∧ (at_ enR l (lbN l key : Int)).key = key
instance (l : List EnD) (key : ByteArray) : Decidable (thR l key) := inferInstanceAs (Decidable (_ ∧ _))
section
variable {l : List EnD} {key : ByteArray} {i : Nat}
theorem lb_spec : ∀ (l : List EnD) (key : ByteArray), lbN l key ≤ l.length ∧ (∀ (j : Nat) (h : j < l.length), j < lbN l key → slt l[j].key key) ∧ ∀ h : lbN l key < l.length, ¬ slt (l[lbN l key]).key key
  | [], _ => ⟨Nat.le_refl _, fun j h => absurd h (by simp), fun h => absurd h (by simp)⟩
  | x :: l, key => by
    by_cases hx : slt x.key key
    · have e : lbN (x :: l) key = lbN l key + 1 := by unfold lbN; rw [List.takeWhile_cons, if_pos (decide_eq_true hx)]; rfl
      obtain ⟨h1, h2, h3⟩ := lb_spec l key
      refine ⟨by rw [e]; simp; omega, fun j h hj => ?_, fun h => ?_⟩
      · cases j with
        | zero => exact hx
        | succ j => simpa using h2 j (by simpa using h) (by omega)
      · have h' : lbN l key < l.length := by rw [e] at h; simpa using h
        have := h3 h'
        simpa [e] using this
    · have e : lbN (x :: l) key = 0 := by unfold lbN; rw [List.takeWhile_cons, if_neg (by simpa using hx)]; rfl
      refine ⟨by omega, fun j h hj => by omega, fun h => ?_⟩
      simpa [e] using hx
theorem lb_eq (h1 : i ≤ l.length) (hL : LoE l key i) (hH : HiE l key i) : lbN l key = i := by
  obtain ⟨h2, h3, h4⟩ := lb_spec l key
  rcases Nat.lt_trichotomy (lbN l key) i with h | h | h
  · have hlt : lbN l key < l.length := by omega
    have := hL _ h hlt
    rw [at_el enR hlt] at this
    exact absurd this (h4 hlt)
  · exact h
  · have hlt : i < l.length := by omega
    have := h3 i hlt h
    rw [← at_el enR hlt] at this
    exact absurd this (hH i (Nat.le_refl _) hlt)
theorem lb_lo : LoE l key (lbN l key) := fun j hj hl => by
  rw [at_el enR hl]; exact (lb_spec l key).2.1 j hl hj
theorem lb_le : lbN l key ≤ l.length := (lb_spec l key).1
theorem lb_hi (hI : Srt l) : HiE l key (lbN l key) := fun j hj hl hs => by
  have hlt : lbN l key < l.length := by omega
  have h0 := (lb_spec l key).2.2 hlt
  rw [← at_el enR hlt] at h0
  rcases Nat.lt_or_ge (lbN l key) j with h | h
  · exact h0 (slt_trans (hI _ _ h hl) hs)
  · obtain rfl : lbN l key = j := by omega
    exact h0 hs
theorem be_lo (hI : Srt l) {m : Nat} (hm : m < l.length) (h : slt (at_ enR l (m : Int)).key key) : LoE l key (m + 1) := fun j hj hl => by
  rcases Nat.lt_or_ge j m with h1 | h1
  · exact slt_trans (hI j m h1 hm) h
  · obtain rfl : j = m := by omega
    exact h
theorem be_hi (hI : Srt l) {m : Nat} (hm : m < l.length) (h : ¬ slt (at_ enR l (m : Int)).key key) : HiE l key m := fun j hj hl hs => by
  rcases Nat.lt_or_ge m j with h1 | h1
  · exact h (slt_trans (hI m j h1 hl) hs)
  · obtain rfl : j = m := by omega
    exact h hs
end
theorem bsf_any (w : World) (Al : Option Addr) (cl : Nat) (l : List EnD) (hSl : SlR enR (fun k => k < w.heap.size) w (.slice Al l.length cl) l) (hI : Srt l) (hl : l.length ≤ 1099511627776) (key : ByteArray) (m1 m5 : Int) (m2 : ByteArray) (A0 A3 A4 : Option Addr) (n0 c0 n3 c3 n4 c4 : Nat) : Calls Tryz.prog 64 #[.slice Al l.length cl, .agg #[.string key, .int .i64 m1, .string m2, .slice A0 n0 c0, .slice A3 n3 c3, .slice A4 n4 c4, .int .i64 m5], .func (.func 51) #[] #[]] w (fun e w' => e = .returned (.tuple #[.int .i64 ((lbN l key : Nat) : Int), .bool (decide (thR l key))]) ∧ Fr [] w w') := by
 have hF := Fr.refl [] w
 have hlen0 := hSl.len_le
 refine V.en 49 Tryz.func64 fun a h1 => ?_
 refine V.sg fun K2 k3 => ?_
 refine V.go (V.mk [(1, .agg #[.string key, .int .i64 m1, .string m2, .slice A0 n0 c0, .slice A3 n3 c3, .slice A4 n4 c4, .int .i64 m5])] ⟨h1.e, trivial⟩ (by kernel_rfl) [.string key, .int .i64 m1, .string m2, .slice A0 n0 c0, .slice A3 n3 c3, .slice A4 n4 c4, .int .i64 m5] 55 (fun b => .pointer (some ⟨b, 0, none⟩)) (by kernel_rfl) ?_)
 intro w5 b4 heb4 hB6 hF7 hsb4
 have hF_8 := hF.new hF7
 have hSl_9 := hSl.fr0 hF7
 refine V.pt h1 fun a h10 => ?_
 refine V.re h10 [] 6 7 [] fun a h11 => k3 _ _ ?_
 refine V.sr h11 [] 12 13 [(8, .int .i64 ((l.length : Nat) : Int))] fun a h14 => ?_
 refine V.sr h14 [] 14 14 [(9, .int .i64 0), (10, .int .i64 ((l.length : Nat) : Int))] fun a h17 => ?_
 refine V.seq fun K18 k19 => ?_
 refine V.block ?_
 refine V.loop2 (fun (lo : Nat) (hi : Nat) a_ w_ => En 49 [] a_ [(0, .slice Al l.length cl), (2, .func (.func 51) #[] #[]), (4, .pointer (some ⟨b4, 0, none⟩)), (8, .int .i64 ((l.length : Nat) : Int)), (9, .int .i64 ((lo : Nat) : Int)), (10, .int .i64 ((hi : Nat) : Int))] ∧ Fr [] w w_ ∧ SlR enR (fun k => k < w.heap.size) w_ (.slice Al l.length cl) l ∧ Blk w_ b4 [.string key, .int .i64 m1, .string m2, .slice A0 n0 c0, .slice A3 n3 c3, .slice A4 n4 c4, .int .i64 m5] 55 ∧ (lo ≤ hi ∧ hi ≤ l.length) ∧ (LoE l key lo) ∧ (HiE l key hi)) (fun (lo : Nat) (hi : Nat) => hi - lo) 0 l.length ?_ ?_
 ·
  refine ⟨((h17.eq 9 (v := (.int .i64 0)) (u := (.int .i64 ((0 : Nat) : Int))) (rfl)).eq 10 (v := (.int .i64 ((l.length : Nat) : Int))) (u := (.int .i64 ((l.length : Nat) : Int))) (rfl)).only _, hF_8, hSl_9, hB6, (by omega), (fun j h => absurd h (by omega)), (fun j h k => absurd h (by omega))⟩
 ·
  rintro lo hi a20 w21 ⟨h22, hF_23, hSl_24, hB6_25, hb, hL, hH⟩
  have hfs26 := hF_23.size
  have hlt27 := hB6_25.lt
  refine V.seq fun K28 k29 => ?_
  refine V.sr h22 [] 15 16 [(17, .bool (decide (((lo : Nat) : Int) < ((hi : Nat) : Int))))] fun a h32 => ?_
  refine V.cp h32 (((lo : Nat) : Int) < ((hi : Nat) : Int)) (fun ht33 => ?_) (fun ht33 => ?_)
  ·
   refine V.skip ?_
   refine V.then_n (k29 _ _ ?_)
   refine V.block ?_
   refine V.sr h32 [(2, .i (((lo : Nat) : Int) + ((hi : Nat) : Int))), (0, .q (.int .u64 ((lo + hi : Nat) : Int)) (w_toU (by omega))), (0, .q (.int .u64 (((lo + hi) / 2 : Nat) : Int)) (w_shr1 (lo + hi))), (0, .q (.int .i64 (((lo + hi) / 2 : Nat) : Int)) (w_toI (by omega)))] 18 23 [(11, .int .i64 (((lo + hi) / 2 : Nat) : Int))] fun a h36 => ?_
   refine V.seq fun K37 k38 => ?_
   refine V.pl [([0,1,2,3,4,5],some (6,[])),([7],none)] fun w39 hF40 hsw39 => ?_
   have hF_41 := hF_23.new hF40
   have hSl_42 := hSl_24.fr0 hF40
   have hB6_43 := hB6_25.fr0 hF40
   obtain ⟨g44, o45, hA46, hA46l, hA46z⟩ := hSl_42.addr (by omega)
   obtain ⟨cs47, hok48, hE49⟩ := hSl_42.els hA46 (((lo + hi) / 2 : Nat) : Int) (by omega) (by omega)
   obtain ⟨Al50, cl51, Az52, cz53, Ah54, ch55, rfl, hS56, hS57, hS58⟩ := en_open hok48
   refine V.pe h36 [(3, .ix g44 o45 l.length cl .i64 (((lo + hi) / 2 : Nat) : Int) 7 hA46), (0, .ls ⟨g44, o45 + (((lo + hi) / 2 : Nat) : Int).toNat * 7, none⟩ [.string ((at_ enR l (((lo + hi) / 2 : Nat) : Int)).key), .int .i64 ((at_ enR l (((lo + hi) / 2 : Nat) : Int)).k), .string ((at_ enR l (((lo + hi) / 2 : Nat) : Int)).s), .slice Al50 ((at_ enR l (((lo + hi) / 2 : Nat) : Int)).l.length) cl51, .slice Az52 ((at_ enR l (((lo + hi) / 2 : Nat) : Int)).z.length) cz53, .slice Ah54 ((at_ enR l (((lo + hi) / 2 : Nat) : Int)).h.length) ch55, .int .i64 ((at_ enR l (((lo + hi) / 2 : Nat) : Int)).till)] (hE49.cells 0 _ rfl)), (0, .bs hB6_43 0 [.string key, .int .i64 m1, .string m2, .slice A0 n0 c0, .slice A3 n3 c3, .slice A4 n4 c4, .int .i64 m5])] 25 27 [(24, .func (.func 51) #[] #[]), (28, .agg #[.string ((at_ enR l (((lo + hi) / 2 : Nat) : Int)).key), .int .i64 ((at_ enR l (((lo + hi) / 2 : Nat) : Int)).k), .string ((at_ enR l (((lo + hi) / 2 : Nat) : Int)).s), .slice Al50 ((at_ enR l (((lo + hi) / 2 : Nat) : Int)).l.length) cl51, .slice Az52 ((at_ enR l (((lo + hi) / 2 : Nat) : Int)).z.length) cz53, .slice Ah54 ((at_ enR l (((lo + hi) / 2 : Nat) : Int)).h.length) ch55, .int .i64 ((at_ enR l (((lo + hi) / 2 : Nat) : Int)).till)]), (29, .agg #[.string key, .int .i64 m1, .string m2, .slice A0 n0 c0, .slice A3 n3 c3, .slice A4 n4 c4, .int .i64 m5])] fun a h59 => ?_
   refine V.cl h59 (Go.Proofs.enters_of Tryz.func51 (by kernel_rfl) rfl) (byKey_any w39 ((at_ enR l (((lo + hi) / 2 : Nat) : Int)).key) key (.int .i64 ((at_ enR l (((lo + hi) / 2 : Nat) : Int)).k)) (.string ((at_ enR l (((lo + hi) / 2 : Nat) : Int)).s)) (.slice Al50 ((at_ enR l (((lo + hi) / 2 : Nat) : Int)).l.length) cl51) (.slice Az52 ((at_ enR l (((lo + hi) / 2 : Nat) : Int)).z.length) cz53) (.slice Ah54 ((at_ enR l (((lo + hi) / 2 : Nat) : Int)).h.length) ch55) (.int .i64 ((at_ enR l (((lo + hi) / 2 : Nat) : Int)).till)) (.int .i64 m1) (.string m2) (.slice A0 n0 c0) (.slice A3 n3 c3) (.slice A4 n4 c4) (.int .i64 m5)) ?_
   rintro _ w61 ⟨rfl, hF60⟩
   refine ⟨_, rfl, fun a h62 => ?_⟩
   have hsw61 := hF60.size
   have hF_63 := hF_41.new hF60
   have hSl_64 := hSl_42.fr0 hF60
   have hB6_65 := hB6_43.fr0 hF60
   refine V.eh trivial ?_
   refine V.pz h62 [] 1 0 [(31, .bool (decide ((cmpS ((at_ enR l (((lo + hi) / 2 : Nat) : Int)).key) key) < 0)))] fun a h70 => k38 _ _ ?_
   refine V.cp h70 ((cmpS ((at_ enR l (((lo + hi) / 2 : Nat) : Int)).key) key) < 0) (fun ht71 => ?_) (fun ht71 => ?_)
   ·
    refine V.rr h70 [(1, .i ((((lo + hi) / 2 : Nat) : Int) + 1))] 32 33 [(9, .int .i64 ((((lo + hi) / 2 : Nat) : Int) + 1))] fun a h72 => ?_
    refine V.blk_n (V.then_n ?_)
    refine ⟨((lo + hi) / 2) + 1, hi, by omega, ?_⟩
    refine ⟨(h72.eq 9 (v := (.int .i64 ((((lo + hi) / 2 : Nat) : Int) + 1))) (u := (.int .i64 (((((lo + hi) / 2) + 1) : Nat) : Int))) (V.int_eq (by omega))).only _, hF_63, hSl_64, hB6_65, (by omega), (be_lo hI (by omega) ((cmpS_neg _ _).1 ht71)), hH⟩
   ·
    refine V.rr h70 [] 34 34 [(10, .int .i64 (((lo + hi) / 2 : Nat) : Int))] fun a h73 => ?_
    refine V.blk_n (V.then_n ?_)
    refine ⟨lo, ((lo + hi) / 2), by omega, ?_⟩
    refine ⟨(h73.eq 10 (v := (.int .i64 (((lo + hi) / 2 : Nat) : Int))) (u := (.int .i64 ((((lo + hi) / 2) : Nat) : Int))) (rfl)).only _, hF_63, hSl_64, hB6_65, (by omega), hL, (be_hi hI (by omega) (fun q => ht71 ((cmpS_neg _ _).2 q)))⟩
  ·
   refine V.exit (V.then_e (V.then_e (V.blk_hit ?_)))
   refine V.then_n (k19 _ _ ?_)
   refine V.seq fun K74 k75 => ?_
   refine V.pl [([0,1,2,3,4,5,6,7,8,9,10],some (11,[])),([12,13,14,15],none)] fun w76 hF77 hsw76 => ?_
   have hF_78 := hF_23.new hF77
   have hSl_79 := hSl_24.fr0 hF77
   have hB6_80 := hB6_25.fr0 hF77
   refine V.pe0 ?_
   refine V.run h32 [] 5 38 38 [(35, .int .i64 ((lo : Nat) : Int)), (36, .int .i64 ((lo : Nat) : Int)), (37, .int .i64 ((l.length : Nat) : Int)), (39, .bool (decide (((lo : Nat) : Int) < ((l.length : Nat) : Int))))] fun a h81 => ?_
   by_cases hg82 : ((lo : Nat) : Int) < ((l.length : Nat) : Int)
   ·
    have h83 := h81.kt 39 hg82
    obtain ⟨g84, o85, hA86, hA86l, hA86z⟩ := hSl_79.addr (by omega)
    obtain ⟨cs87, hok88, hE89⟩ := hSl_79.els hA86 ((lo : Nat) : Int) (by omega) (by omega)
    obtain ⟨Al90, cl91, Az92, cz93, Ah94, ch95, rfl, hS96, hS97, hS98⟩ := en_open hok88
    refine V.se h83 [(3, .ix g84 o85 l.length cl .i64 ((lo : Nat) : Int) 7 hA86), (0, .ls ⟨g84, o85 + ((lo : Nat) : Int).toNat * 7, none⟩ [.string ((at_ enR l ((lo : Nat) : Int)).key), .int .i64 ((at_ enR l ((lo : Nat) : Int)).k), .string ((at_ enR l ((lo : Nat) : Int)).s), .slice Al90 ((at_ enR l ((lo : Nat) : Int)).l.length) cl91, .slice Az92 ((at_ enR l ((lo : Nat) : Int)).z.length) cz93, .slice Ah94 ((at_ enR l ((lo : Nat) : Int)).h.length) ch95, .int .i64 ((at_ enR l ((lo : Nat) : Int)).till)] (hE89.cells 0 _ rfl)), (0, .bs hB6_80 0 [.string key, .int .i64 m1, .string m2, .slice A0 n0 c0, .slice A3 n3 c3, .slice A4 n4 c4, .int .i64 m5])] 41 43 [(40, .func (.func 51) #[] #[]), (44, .agg #[.string ((at_ enR l ((lo : Nat) : Int)).key), .int .i64 ((at_ enR l ((lo : Nat) : Int)).k), .string ((at_ enR l ((lo : Nat) : Int)).s), .slice Al90 ((at_ enR l ((lo : Nat) : Int)).l.length) cl91, .slice Az92 ((at_ enR l ((lo : Nat) : Int)).z.length) cz93, .slice Ah94 ((at_ enR l ((lo : Nat) : Int)).h.length) ch95, .int .i64 ((at_ enR l ((lo : Nat) : Int)).till)]), (45, .agg #[.string key, .int .i64 m1, .string m2, .slice A0 n0 c0, .slice A3 n3 c3, .slice A4 n4 c4, .int .i64 m5])] fun a h99 => ?_
    refine V.clg h99 (Go.Proofs.enters_of Tryz.func51 (by kernel_rfl) rfl) (byKey_any w76 ((at_ enR l ((lo : Nat) : Int)).key) key (.int .i64 ((at_ enR l ((lo : Nat) : Int)).k)) (.string ((at_ enR l ((lo : Nat) : Int)).s)) (.slice Al90 ((at_ enR l ((lo : Nat) : Int)).l.length) cl91) (.slice Az92 ((at_ enR l ((lo : Nat) : Int)).z.length) cz93) (.slice Ah94 ((at_ enR l ((lo : Nat) : Int)).h.length) ch95) (.int .i64 ((at_ enR l ((lo : Nat) : Int)).till)) (.int .i64 m1) (.string m2) (.slice A0 n0 c0) (.slice A3 n3 c3) (.slice A4 n4 c4) (.int .i64 m5)) ?_
    rintro _ w101 ⟨rfl, hF100⟩
    refine ⟨_, rfl, fun a h102 => ?_⟩
    have hsw101 := hF100.size
    have hF_103 := hF_78.new hF100
    refine V.eh trivial ?_
    refine V.pz h102 [(0, .eq (cmpS ((at_ enR l ((lo : Nat) : Int)).key) key) 0)] 47 48 [(6, .int .i64 ((lo : Nat) : Int)), (7, .bool (decide ((cmpS ((at_ enR l ((lo : Nat) : Int)).key) key) = 0)))] fun a h110 => k75 _ _ ?_
    refine V.ret ?_
    refine V.r2 h110 (.int .i64 ((lo : Nat) : Int)) (.bool (decide ((cmpS ((at_ enR l ((lo : Nat) : Int)).key) key) = 0))) ?_
    obtain rfl : lo = hi := by omega
    obtain rfl := (lb_eq (by omega) hL hH).symm
    exact ⟨congrArg (fun b => Ending.returned (.tuple #[.int .i64 _, .bool b])) (decide_eq_decide.2 ⟨fun q => ⟨by omega, (cmpS_zero _ _).1 q⟩, fun q => (cmpS_zero _ _).2 q.2⟩), hF_103⟩
   ·
    have h111 := h81.kf 39 hg82
    refine V.se h111 [] 41 43 [(40, undef), (44, undef), (45, undef)] fun a h112 => ?_
    refine V.run h112 [] 1 1 0 [(46, undef)] fun a h113 => ?_
    refine V.eh trivial ?_
    refine V.pz h113 [] 47 48 [(6, .int .i64 ((lo : Nat) : Int)), (7, .bool false)] fun a h114 => k75 _ _ ?_
    refine V.ret ?_
    refine V.r2 h114 (.int .i64 ((lo : Nat) : Int)) (.bool false) ?_
    obtain rfl : lo = hi := by omega
    obtain rfl := (lb_eq (by omega) hL hH).symm
    exact ⟨congrArg (fun b => Ending.returned (.tuple #[.int .i64 _, .bool b])) (decide_eq_false (fun q => by have := q.1; omega)).symm, hF_78⟩
/-! ### Insert -/
theorem cut_at {g c m o n k : Nat} (hc : ¬ c = m) (ho : o = m * 7) : Value.slice (cutA (some ⟨g, 0, none⟩) m c 7) n k = .slice (some ⟨g, o, none⟩) n k := by
  unfold cutA
  rw [if_neg hc, ho]
  show Value.slice (some ((⟨g, 0, none⟩ : Addr).add (m * 7))) n k = _
  rw [show (⟨g, 0, none⟩ : Addr).add (m * 7) = ⟨g, m * 7, none⟩ by unfold Addr.add; split <;> simp_all]
theorem ov_false {w : World} {b0 g n0 c0 o n1 c1 : Nat} {cs0 cur : List Value} (hB : Blk w b0 cs0 55) (hG : Blk w g cur 55) (hne : b0 ≠ g) (hcur : cur.length ≠ 0) :
    (callFunc 114 #[.slice (some ⟨b0, 0, none⟩) n0 c0, .slice (some ⟨g, o, none⟩) n1 c1]).run Tryz.prog w = .ok (.value (.bool false)) w := by
  have hz : ∀ w, (Go.sizeOf 55).run Tryz.prog w = .ok 7 w := fun w => by
    obtain ⟨i, hi, hq⟩ := Option.map_eq_some_iff.1 info55
    simp only [Prod.mk.injEq] at hq
    simp [sizeOf, typeInfo, hi, hq.2.1]
  rw [run_callFunc_extern Tryz.func114 (by kernel_rfl) (by kernel_rfl) (by kernel_rfl) (e := Extern.SlicesOverlaps.overlaps #[22, 22] #[4]) (by kernel_rfl),
    Lib.run_overlaps_apart w 22 4 55 Tryz.underlying22 7 hz ⟨b0, 0, none⟩ ⟨g, o, none⟩ n0 c0 n1 c1 hne 55 55 cs0.length cur.length (by simp [World.shape?, show w.heap[b0]? = _ from hB]) (by simp [World.shape?, show w.heap[g]? = _ from hG]) hcur (hB.frozen 0) (hB.frozen _)]
  rfl
theorem EnR.old {Z : Nat → Prop} {w : World} {p : EnQ} (h : EnR Z w p) : EnR (fun k => k < w.heap.size) w p := enR.mono (fun b hb _ => ⟨hb, rfl⟩) (Nat.le_refl _) h
theorem EnR.fr {Z : Nat → Prop} {w w1 : World} {p : EnQ} {l : List Nat} (h : EnR Z w p) (f : Fr l w w1) (hl : ∀ b ∈ l, ¬ Z b) : EnR Z w1 p := enR.mono (fun b hb hz => ⟨hz, f.block b hb fun hm => hl b hm hz⟩) f.size h
/-- The cells from a place on, where they lie. -/
theorem drop_cells {w : World} {g n i o : Nat} {cur : List Value} {qs : List EnQ} (hB : Blk w g cur 55) (htk : cur.take (n * 7) = entF qs) (ho : o = i * 7) : ∀ j u, (entF (qs.drop i))[j]? = some u → w.cell? ((⟨g, o, none⟩ : Addr).add j) = some u := fun j u hj => by
  rw [← entF_drop, List.getElem?_drop, ← htk, List.getElem?_take] at hj
  split at hj
  · rw [show (⟨g, o, none⟩ : Addr).add j = ⟨g, i * 7 + j, none⟩ by rw [ho]; unfold Addr.add; split <;> simp_all]
    exact (hB.cell _).trans hj
  · cases hj
/-- The row with one more, out of the block as it lies behind both copies. -/
theorem ins_own {w : World} {base G c i : Nat} {cur : List Value} {qs : List EnQ} (p : EnQ) (hB : Blk w G cur 55) (hi : i ≤ qs.length) (hcl : cur.length = c * 7) (hn : qs.length + 1 ≤ c) (hcm : c ≤ maxLen) (hG : base ≤ G) (ht : cur.take (i * 7 + 7 + (entF (qs.drop i)).length) = entF (qs.take i) ++ entC p.1 ++ entF (qs.drop i)) :
    OwR prE NoZ w base 55 (.slice (some ⟨G, 0, none⟩) (qs.length + 1) c) (qs.take i ++ p :: qs.drop i) := by
  have hl : (qs.take i ++ p :: qs.drop i).length = qs.length + 1 := by rw [List.length_append, List.length_cons, List.length_take, List.length_drop]; omega
  have h := OwR.mkE (dβ := enR.dflt) (ps := qs.take i ++ p :: qs.drop i) (base := base) (c := c) hB hcl (by omega) hcm hG ?_
  · rw [hl] at h; exact h
  · have e1 : i * 7 + 7 + (entF (qs.drop i)).length = (qs.take i ++ p :: qs.drop i).length * 7 := by rw [entF_len, List.length_drop, hl]; omega
    rw [← e1, ht, entF_app]
    have e2 : entF (p :: qs.drop i) = entC p.1 ++ entF (qs.drop i) := by unfold entF; rw [List.flatMap_cons]
    rw [e2, List.append_assoc]
def insP (qs : List EnQ) (i : Nat) (p : EnQ) : List EnQ := qs.take i ++ p :: qs.drop i
theorem insg_any (w : World) (base g b0 c i : Nat) (qs : List EnQ) (p : EnQ) (cur : List Value) (hB0 : Blk w g cur 55) (hcl : cur.length = c * 7) (hcn : qs.length ≤ c) (hcm : c ≤ maxLen) (hg : base ≤ g) (htk : cur.take (qs.length * 7) = entF qs) (hone : ∀ u ∈ cur.take (i * 7), u.oneCell' = true) (hN0 : Blk w b0 (entC p.1) 55) (hne : b0 ≠ g) (hi : i < qs.length) (hl : qs.length ≤ 1099511627776) : Calls Tryz.prog 65 #[.slice (some ⟨g, 0, none⟩) qs.length c, .int .i64 (i : Int), .slice (some ⟨b0, 0, none⟩) 1 1] w (fun e w' => ∃ A' c', e = .returned (.slice A' (qs.length + 1) c') ∧ OwR prE NoZ w' base 55 (.slice A' (qs.length + 1) c') (insP qs i p) ∧ Fr [g] w w') := by
 have hF := Fr.refl [g] w
 have hdl : (entF (qs.drop i)).length = (qs.length - i) * 7 := by rw [entF_len, List.length_drop]
 have htki : cur.take (i * 7) = entF (qs.take i) := by rw [← entF_take, ← htk, List.take_take]; congr 1; omega
 have hlg := hB0.lt
 have hlb := hN0.lt
 refine V.en 95 Tryz.func65 fun a h1 => ?_
 refine V.sr h1 [] 6 6 [] fun a h4 => ?_
 refine V.sr h4 [(2, .cutE (some ⟨g, 0, none⟩) qs.length c (i : Int) i 7)] 10 12 [] fun a h7 => ?_
 refine V.sr h7 [] 13 14 [(7, .int .i64 1)] fun a h10 => ?_
 refine V.seq fun K11 k12 => ?_
 refine V.sr h10 [] 15 15 [(16, .bool false)] fun a h15 => ?_
 refine V.cf h15 ?_
 refine V.skip ?_
 refine V.then_n (k12 _ _ ?_)
 refine V.sr h15 [] 18 19 [(8, .int .i64 ((qs.length : Nat) : Int))] fun a h18 => ?_
 refine V.seq fun K19 k20 => ?_
 refine V.sr h18 [(2, .eq (i : Int) ((qs.length : Nat) : Int))] 20 21 [(22, .bool (decide ((i : Int) = ((qs.length : Nat) : Int))))] fun a h23 => ?_
 refine V.cp h23 ((i : Int) = ((qs.length : Nat) : Int)) (fun ht24 => ?_) (fun ht24 => ?_)
 · exact absurd ht24 (by omega)
 ·
  refine V.skip ?_
  refine V.then_n (k20 _ _ ?_)
  refine V.seq fun K25 k26 => ?_
  refine V.sr h23 [(2, .i (((qs.length : Nat) : Int) + 1))] 26 30 [(31, .bool (decide ((((qs.length : Nat) : Int) + 1) > ((c : Nat) : Int))))] fun a h29 => ?_
  refine V.cp h29 ((((qs.length : Nat) : Int) + 1) > ((c : Nat) : Int)) (fun ht30 => ?_) (fun ht30 => ?_)
  ·
   refine V.sg fun K31 k32 => ?_
   refine V.run h29 [(2, .cut0 (some ⟨g, 0, none⟩) qs.length c (i : Int) i 7), (2, .i (((qs.length : Nat) : Int) + 1)), (1, .i ((((qs.length : Nat) : Int) + 1) - (i : Int)))] 8 32 38 [(34, .slice (some ⟨g, 0, none⟩) i c), (39, .int .i64 ((((qs.length : Nat) : Int) + 1) - (i : Int)))] fun a h43 => ?_
   refine V.go (V.apMk (sz := 7) (q := qs.length + 1 - i) (h43.e (v := (.slice (some ⟨g, 0, none⟩) i c))) (h43.e (v := (.int .i64 ((((qs.length : Nat) : Int) + 1) - (i : Int))))) (by omega) Tryz.underlying22 Tryz.underlying3 info55 rfl (by decide) hB0 (by omega) hone (by omega) (by omega) (by decide) (by omega) ?_)
   intro G33 c34 w35 Z36 hG37 hB38 hz39 hc40 hc41 hF42 hsw35
   have hF_44 := hF.trans hF42 (by simp <;> omega)
   have hB0_45 := hB0.fr0 hF42
   have hN0_46 := hN0.fr0 hF42
   have hcx : (cur.take (i * 7) ++ Z36).length = c34 * 7 := by rw [List.length_append, List.length_take, hz39]; omega
   have hgG : g < G33 := by have := hB0.lt; omega
   have hbG : b0 < G33 := by have := hN0.lt; omega
   refine V.pt h43 fun a h47 => ?_
   refine V.re h47 [] 1 0 [(9, .slice (some ⟨G33, 0, none⟩) (i + (qs.length + 1 - i)) c34)] fun a h48 => k32 _ _ ?_
   refine V.sg fun K49 k50 => ?_
   refine V.run h48 [(2, .cutE (some ⟨G33, 0, none⟩) (i + (qs.length + 1 - i)) c34 (i : Int) i 7)] 4 41 42 [(43, .slice (cutA (some ⟨G33, 0, none⟩) i c34 7) ((i + (qs.length + 1 - i)) - i) (c34 - i)), (44, .slice (some ⟨b0, 0, none⟩) 1 1)] fun a h51 => ?_
   refine V.go (V.cpB (sz := 7) (o := i * 7) 1 (vs := (entC p.1)) (by first | exact (((h51.e (v := (.slice (cutA (some ⟨G33, 0, none⟩) i c34 7) ((i + (qs.length + 1 - i)) - i) (c34 - i))))).trans (cut_at (o := i * 7) (by omega) (by omega))) | (have h := (((h51.e (v := (.slice (cutA (some ⟨G33, 0, none⟩) i c34 7) ((i + (qs.length + 1 - i)) - i) (c34 - i))))).trans (cut_at (o := i * 7) (by omega) (by omega))); exact h)) (h51.e (v := (.slice (some ⟨b0, 0, none⟩) 1 1))) Tryz.underlying22 (by kernel_rfl) (by simp only [Nat.min_def]; split <;> omega) rfl (fun j u hj => by rw [show (⟨b0, 0, none⟩ : Addr).add j = ⟨b0, j, none⟩ by unfold Addr.add; split <;> simp_all]; exact (hN0_46.cell j).trans hj) (fun u hu => List.all_eq_true.1 (entC_one p.1) u hu) hB38 (by (try rw [over_length]); (try simp only [List.length_append, List.length_take]); simp only [entC_len, entF_len, List.length_drop] at *; omega) ?_)
   intro w52 hB53 hF54 hsw52
   have hF_55 := hF_44.trans hF54 (by simp <;> omega)
   have hB0_56 := hB0_45.fr hF54 (by simp <;> omega)
   refine V.pt h51 fun a h58 => ?_
   refine V.nt (k50 _ _ ?_)
   refine V.seq fun K59 k60 => ?_
   refine V.pl [([0,1,2,3,4,5,6,7],some (8,[])),([],none)] fun w61 hF62 hsw61 => ?_
   have hF_63 := hF_55.trans hF62 (by simp <;> omega)
   have hB0_64 := hB0_56.fr0 hF62
   have hB53_66 := hB53.fr0 hF62
   refine V.pe h58 [(3, .i ((i : Int) + 1)), (0, .cutE (some ⟨G33, 0, none⟩) (i + (qs.length + 1 - i)) c34 ((i : Int) + 1) (i + 1) 7), (2, .cutE (some ⟨g, 0, none⟩) qs.length c (i : Int) i 7)] 46 52 [(50, .slice (cutA (some ⟨G33, 0, none⟩) (i + 1) c34 7) ((i + (qs.length + 1 - i)) - (i + 1)) (c34 - (i + 1))), (53, .slice (cutA (some ⟨g, 0, none⟩) i c 7) (qs.length - i) (c - i))] fun a h67 => ?_
   refine V.go (V.cpB (sz := 7) (o := i * 7 + 7) (qs.length - i) (vs := (entF (qs.drop i))) (by first | exact (((h67.e (v := (.slice (cutA (some ⟨G33, 0, none⟩) (i + 1) c34 7) ((i + (qs.length + 1 - i)) - (i + 1)) (c34 - (i + 1)))))).trans (cut_at (o := i * 7 + 7) (by omega) (by omega))) | (have h := (((h67.e (v := (.slice (cutA (some ⟨G33, 0, none⟩) (i + 1) c34 7) ((i + (qs.length + 1 - i)) - (i + 1)) (c34 - (i + 1)))))).trans (cut_at (o := i * 7 + 7) (by omega) (by omega))); exact h)) (((h67.e (v := (.slice (cutA (some ⟨g, 0, none⟩) i c 7) (qs.length - i) (c - i))))).trans (cut_at (o := i * 7) (by omega) (by omega))) Tryz.underlying22 (by kernel_rfl) (by simp only [Nat.min_def]; split <;> omega) (by rw [entF_len, List.length_drop]) (drop_cells hB0_64 htk rfl) entF_one hB53_66 (by (try rw [over_length]); (try simp only [List.length_append, List.length_take]); simp only [entC_len, entF_len, List.length_drop] at *; omega) ?_)
   intro w68 hB69 hF70 hsw68
   have hF_71 := hF_63.trans hF70 (by simp <;> omega)
   refine V.pt h67 fun a h74 => ?_
   refine V.eh trivial ?_
   refine V.pz h74 [] 1 0 [] fun a h75 => k60 _ _ ?_
   have h76 := h75.only [(0, .slice (some ⟨g, 0, none⟩) qs.length c), (1, .int .i64 (i : Int)), (2, .slice (some ⟨b0, 0, none⟩) 1 1), (7, .int .i64 1), (8, .int .i64 ((qs.length : Nat) : Int)), (9, .slice (some ⟨G33, 0, none⟩) (i + (qs.length + 1 - i)) c34)]
   refine V.sr h76 [] 55 55 [(6, .slice (some ⟨G33, 0, none⟩) (i + (qs.length + 1 - i)) c34)] fun a h79 => ?_
   refine V.ret (V.then_r ?_)
   refine V.r1 h79 (.slice (some ⟨G33, 0, none⟩) (i + (qs.length + 1 - i)) c34) ?_
   have hq1 : i + (qs.length + 1 - i) = qs.length + 1 := by omega
   rw [hq1]
   have htz : (cur.take (i * 7) ++ Z36).take (i * 7) = entF (qs.take i) := by rw [List.take_append_of_le_length (by rw [List.length_take]; omega), List.take_take, Nat.min_self]; exact htki
   exact ⟨_, _, rfl, ins_own p hB69 (by omega) (by rw [over_length, over_length]; exact hcx) (by omega) hc41 (by omega) (by rw [← htz]; exact (over2 (cur.take (i * 7) ++ Z36) (entC p.1) (entF (qs.drop i)) (i * 7) (by rw [hdl, entC_len]; omega)).1), hF_71⟩
  ·
   refine V.skip ?_
   refine V.then_n (k26 _ _ ?_)
   refine V.sr h29 [(3, .i (((qs.length : Nat) : Int) + 1)), (0, .cut0 (some ⟨g, 0, none⟩) qs.length c (((qs.length : Nat) : Int) + 1) (qs.length + 1) 7)] 56 60 [(0, .slice (some ⟨g, 0, none⟩) (qs.length + 1) c)] fun a h82 => ?_
   refine V.seq fun K83 k84 => ?_
   refine V.sg fun K85 k86 => ?_
   refine V.run h82 [(4, .i ((i : Int) + 1)), (0, .cutE (some ⟨g, 0, none⟩) (qs.length + 1) c ((i : Int) + 1) (i + 1) 7)] 6 62 65 [(61, .slice (some ⟨b0, 0, none⟩) 1 1), (66, .slice (cutA (some ⟨g, 0, none⟩) (i + 1) c 7) ((qs.length + 1) - (i + 1)) (c - (i + 1)))] fun a h87 => ?_
   refine V.go (V.xf (fid := 114) (v := .bool false) evf (h87.e (v := (.slice (some ⟨b0, 0, none⟩) 1 1))) (((h87.e (v := (.slice (cutA (some ⟨g, 0, none⟩) (i + 1) c 7) ((qs.length + 1) - (i + 1)) (c - (i + 1)))))).trans (cut_at (o := i * 7 + 7) (by omega) (by omega))) (ov_false hN0 hB0 hne (by omega)) ?_)
   refine V.pt h87 fun a h88 => ?_
   refine V.re h88 [] 1 0 [(68, .bool true)] fun a h89 => k86 _ _ ?_
   refine V.ct h89 ?_
   refine V.seq fun K90 k91 => ?_
   refine V.pl [([0,1,2,3,4,5,6,7],some (8,[])),([],none)] fun w92 hF93 hsw92 => ?_
   have hF_94 := hF.trans hF93 (by simp <;> omega)
   have hB0_95 := hB0.fr0 hF93
   have hN0_96 := hN0.fr0 hF93
   refine V.pe h89 [(3, .i ((i : Int) + 1)), (0, .cutE (some ⟨g, 0, none⟩) (qs.length + 1) c ((i : Int) + 1) (i + 1) 7), (2, .cutE (some ⟨g, 0, none⟩) (qs.length + 1) c (i : Int) i 7)] 69 75 [(73, .slice (cutA (some ⟨g, 0, none⟩) (i + 1) c 7) ((qs.length + 1) - (i + 1)) (c - (i + 1))), (76, .slice (cutA (some ⟨g, 0, none⟩) i c 7) ((qs.length + 1) - i) (c - i))] fun a h97 => ?_
   refine V.go (V.cpB (sz := 7) (o := i * 7 + 7) (qs.length - i) (vs := (entF (qs.drop i))) (by first | exact (((h97.e (v := (.slice (cutA (some ⟨g, 0, none⟩) (i + 1) c 7) ((qs.length + 1) - (i + 1)) (c - (i + 1)))))).trans (cut_at (o := i * 7 + 7) (by omega) (by omega))) | (have h := (((h97.e (v := (.slice (cutA (some ⟨g, 0, none⟩) (i + 1) c 7) ((qs.length + 1) - (i + 1)) (c - (i + 1)))))).trans (cut_at (o := i * 7 + 7) (by omega) (by omega))); exact h)) (((h97.e (v := (.slice (cutA (some ⟨g, 0, none⟩) i c 7) ((qs.length + 1) - i) (c - i))))).trans (cut_at (o := i * 7) (by omega) (by omega))) Tryz.underlying22 (by kernel_rfl) (by simp only [Nat.min_def]; split <;> omega) (by rw [entF_len, List.length_drop]) (drop_cells hB0_95 htk rfl) entF_one hB0_95 (by (try rw [over_length]); (try simp only [List.length_append, List.length_take]); simp only [entC_len, entF_len, List.length_drop] at *; omega) ?_)
   intro w98 hB99 hF100 hsw98
   have hF_101 := hF_94.trans hF100 (by simp <;> omega)
   have hN0_102 := hN0_96.fr1 hF100 (by omega)
   refine V.pt h97 fun a h103 => ?_
   refine V.eh trivial ?_
   refine V.pz h103 [] 1 0 [] fun a h104 => k91 _ _ ?_
   have h105 := h104.only [(0, .slice (some ⟨g, 0, none⟩) (qs.length + 1) c), (1, .int .i64 (i : Int)), (2, .slice (some ⟨b0, 0, none⟩) 1 1), (7, .int .i64 1), (8, .int .i64 ((qs.length : Nat) : Int))]
   refine V.sg fun K106 k107 => ?_
   refine V.run h105 [(2, .cutE (some ⟨g, 0, none⟩) (qs.length + 1) c (i : Int) i 7)] 4 78 79 [(80, .slice (cutA (some ⟨g, 0, none⟩) i c 7) ((qs.length + 1) - i) (c - i)), (81, .slice (some ⟨b0, 0, none⟩) 1 1)] fun a h108 => ?_
   refine V.go (V.cpB (sz := 7) (o := i * 7) 1 (vs := (entC p.1)) (by first | exact (((h108.e (v := (.slice (cutA (some ⟨g, 0, none⟩) i c 7) ((qs.length + 1) - i) (c - i))))).trans (cut_at (o := i * 7) (by omega) (by omega))) | (have h := (((h108.e (v := (.slice (cutA (some ⟨g, 0, none⟩) i c 7) ((qs.length + 1) - i) (c - i))))).trans (cut_at (o := i * 7) (by omega) (by omega))); exact h)) (h108.e (v := (.slice (some ⟨b0, 0, none⟩) 1 1))) Tryz.underlying22 (by kernel_rfl) (by simp only [Nat.min_def]; split <;> omega) rfl (fun j u hj => by rw [show (⟨b0, 0, none⟩ : Addr).add j = ⟨b0, j, none⟩ by unfold Addr.add; split <;> simp_all]; exact (hN0_102.cell j).trans hj) (fun u hu => List.all_eq_true.1 (entC_one p.1) u hu) hB99 (by (try rw [over_length]); (try simp only [List.length_append, List.length_take]); simp only [entC_len, entF_len, List.length_drop] at *; omega) ?_)
   intro w109 hB110 hF111 hsw109
   have hF_112 := hF_101.trans hF111 (by simp <;> omega)
   refine V.pt h108 fun a h114 => ?_
   refine V.nt (k107 _ _ ?_)
   refine V.sr h114 [] 83 83 [(6, .slice (some ⟨g, 0, none⟩) (qs.length + 1) c)] fun a h117 => ?_
   refine V.ret (V.then_r ?_)
   refine V.r1 h117 (.slice (some ⟨g, 0, none⟩) (qs.length + 1) c) ?_
   exact ⟨_, _, rfl, ins_own p hB110 (by omega) (by rw [over_length, over_length]; exact hcl) (by omega) hcm hg (by rw [← htki]; exact (over2 cur (entC p.1) (entF (qs.drop i)) (i * 7) (by rw [hdl, entC_len]; omega)).2), hF_112⟩
theorem inse_any (w : World) (base b0 c : Nat) (A : Option Addr) (qs : List EnQ) (p : EnQ) (hO : OwR prE NoZ w base 55 (.slice A qs.length c) qs) (hbw : base ≤ w.heap.size) (hN0 : Blk w b0 (entC p.1) 55) (hne : (Value.slice A qs.length c).ownBlock ≠ some b0) (hl : qs.length ≤ 1099511627776) : Calls Tryz.prog 65 #[.slice A qs.length c, .int .i64 ((qs.length : Nat) : Int), .slice (some ⟨b0, 0, none⟩) 1 1] w (fun e w' => ∃ A' c', e = .returned (.slice A' (qs.length + 1) c') ∧ OwR prE NoZ w' base 55 (.slice A' (qs.length + 1) c') (insP qs qs.length p) ∧ Fr ((Value.slice A qs.length c).ownBlock.toList) w w') := by
 have hF := Fr.refl ((Value.slice A qs.length c).ownBlock.toList) w
 have hcn := hO.cap
 refine V.en 95 Tryz.func65 fun a h1 => ?_
 refine V.sr h1 [] 6 6 [] fun a h4 => ?_
 refine V.sr h4 [(2, .cutE A qs.length c ((qs.length : Nat) : Int) qs.length 7)] 10 12 [] fun a h7 => ?_
 refine V.sr h7 [] 13 14 [(7, .int .i64 1)] fun a h10 => ?_
 refine V.seq fun K11 k12 => ?_
 refine V.sr h10 [] 15 15 [(16, .bool false)] fun a h15 => ?_
 refine V.cf h15 ?_
 refine V.skip ?_
 refine V.then_n (k12 _ _ ?_)
 refine V.sr h15 [] 18 19 [(8, .int .i64 ((qs.length : Nat) : Int))] fun a h18 => ?_
 refine V.seq fun K19 k20 => ?_
 refine V.sr h18 [(2, .q (.bool true) (V.t_same ((qs.length : Nat) : Int)))] 20 21 [(22, .bool true)] fun a h23 => ?_
 refine V.ct h23 ?_
 refine V.sg fun K24 k25 => ?_
 refine V.run h23 [] 2 1 0 [(23, .slice A qs.length c), (24, .slice (some ⟨b0, 0, none⟩) 1 1)] fun a h31 => ?_
 refine V.go (V.app (R := prE) (ys := ([p])) (news := (entC p.1)) (h31.e (v := (.slice A qs.length c))) ⟨b0, 0, none⟩ 1 1 (h31.e (v := (.slice (some ⟨b0, 0, none⟩) 1 1))) (by kernel_rfl) (info55) (by kernel_rfl) (by decide) hO rfl ⟨entC p.1, [], (List.append_nil _).symm, rfl, rfl⟩ (blk_cells hN0 0 _ rfl) (by first | omega | (simp; omega)) (by decide) (by omega) ?_)
 intro A26 c27 w28 hO29z hF30 hatw28
 have hsw28 := hF30.size
 have hF_32 := hF.trans hF30 (fun i hi _ => hi)
 have hO29 := hO29z.zone (Z' := NoZ) (fun _ _ q => q.1) (fun _ _ q => q)
 refine V.pt h31 fun a h33 => ?_
 refine V.re h33 [] 1 0 [(6, .slice A26 ((qs.length) + 1) c27)] fun a h34 => k25 _ _ ?_
 refine V.ret (V.then_r ?_)
 refine V.r1 h34 (.slice A26 ((qs.length) + 1) c27) ?_
 exact ⟨_, _, rfl, by unfold insP; rw [List.take_length, List.drop_length]; exact hO29, hF_32⟩
theorem ins_any (w : World) (base b0 c i : Nat) (A : Option Addr) (qs : List EnQ) (p : EnQ) (hO : OwR prE NoZ w base 55 (.slice A qs.length c) qs) (hbw : base ≤ w.heap.size) (hN0 : Blk w b0 (entC p.1) 55) (hne : (Value.slice A qs.length c).ownBlock ≠ some b0) (hi : i ≤ qs.length) (hl : qs.length ≤ 1099511627776) :
    Calls Tryz.prog 65 #[.slice A qs.length c, .int .i64 ((i : Nat) : Int), .slice (some ⟨b0, 0, none⟩) 1 1] w fun e w' => ∃ A' c', e = .returned (.slice A' (qs.length + 1) c') ∧ OwR prE NoZ w' base 55 (.slice A' (qs.length + 1) c') (insP qs i p) ∧ Fr ((Value.slice A qs.length c).ownBlock.toList) w w' := by
  rcases Nat.lt_or_ge i qs.length with h | h
  · rcases hO.caseE with ⟨_, h0⟩ | ⟨g, c', he⟩
    · rw [h0] at h; simp at h
    · injection he with e1 e2 e3
      subst e1; subst e3
      obtain ⟨cur, hB, hcl, _, hcn, hcm, hg, htk⟩ := hO.openE
      refine insg_any w base g b0 c i qs p cur hB hcl hcn hcm hg htk (fun u hu => ?_) hN0 (fun e => hne (by rw [e]; rfl)) h hl
      have h1 : u ∈ cur.take (qs.length * 7) := by
        have e : cur.take (i * 7) = (cur.take (qs.length * 7)).take (i * 7) := by rw [List.take_take]; congr 1; omega
        rw [e] at hu; exact List.mem_of_mem_take hu
      rw [htk] at h1
      exact entF_one u h1
  · obtain rfl : i = qs.length := by omega
    exact inse_any w base b0 c A qs p hO hbw hN0 hne hl
theorem bsfQ_any (w : World) (base c : Nat) (A : Option Addr) (Z : Nat → Prop) (qs : List EnQ) (l : List EnD) (hd : datE qs = l) (hO : OwR prE NoZ w base 55 (.slice A qs.length c) qs) (hP : PsOk Z w qs) (hI : Srt l) (hl : qs.length ≤ 1099511627776) (key : ByteArray) (m1 m5 : Int) (m2 : ByteArray) (A0 A3 A4 : Option Addr) (n0 c0 n3 c3 n4 c4 : Nat) :
    Calls Tryz.prog 64 #[.slice A qs.length c, .agg #[.string key, .int .i64 m1, .string m2, .slice A0 n0 c0, .slice A3 n3 c3, .slice A4 n4 c4, .int .i64 m5], .func (.func 51) #[] #[]] w fun e w' => e = .returned (.tuple #[.int .i64 ((lbN l key : Nat) : Int), .bool (decide (thR l key))]) ∧ Fr [] w w' := by
  subst hd
  have h := bsf_any w A c (datE qs) (by rw [datE_len]; exact OwR.dat hO hP) hI (by rw [datE_len]; exact hl) key m1 m5 m2 A0 A3 A4 n0 c0 n3 c3 n4 c4
  rw [datE_len] at h
  exact h
/-! ### a row with an entry more -/
def putD (l : List EnD) (x : EnD) : List EnD := l.take (lbN l x.key) ++ x :: l.drop (if thR l x.key then lbN l x.key + 1 else lbN l x.key)
noncomputable def putN (l : List EnD) (x : EnD) : Int := if imgN l = 0 then @ite Int (okD x) (Classical.propDecidable _) 0 90 else imgN l
noncomputable def putL (l : List EnD) (x : EnD) : List EnD := if putN l x = 0 then putD l x else []
section
variable {l : List EnD} {x : EnD} {qs : List EnQ} {i : Nat} {p : EnQ}
theorem put_bad (h : ¬ imgN l = 0) : putN l x = imgN l ∧ putL l x = [] := by
  have e : putN l x = imgN l := if_neg h
  exact ⟨e, by unfold putL; rw [e, if_neg h]⟩
theorem put_no (h : imgN l = 0) (hx : ¬ okD x) : putN l x = 90 ∧ putL l x = [] := by
  have e : putN l x = 90 := by unfold putN; rw [if_pos h]; exact @if_neg _ (Classical.propDecidable _) hx _ _ _
  exact ⟨e, by unfold putL; rw [e]; rfl⟩
theorem put_yes (h : imgN l = 0) (hx : okD x) : putN l x = 0 ∧ putL l x = putD l x := by
  have e : putN l x = 0 := by unfold putN; rw [if_pos h]; exact @if_pos _ (Classical.propDecidable _) hx _ _ _
  exact ⟨e, by unfold putL; rw [if_pos e]⟩
theorem srt_img (h : imgN l = 0) : Srt l := by
  have hg : AllG (gE l) l.length := by
    unfold imgN at h
    split at h
    · cases h
    · split at h
      · assumption
      · cases h
  intro i j hij hj
  induction j with
  | zero => omega
  | succ j ih =>
    have h1 := (hg (j + 1) hj).2 (by omega)
    have e : ((j + 1 : Nat) : Int) - 1 = ((j : Nat) : Int) := by omega
    rw [e] at h1
    rcases Nat.lt_or_ge i j with h2 | h2
    · exact slt_trans (ih h2 (by omega)) h1
    · obtain rfl : i = j := by omega
      exact h1
theorem dat_ins (hd : datE qs = l) (hx : p.2 = x) (hn : ¬ thR l x.key) : datE (insP qs (lbN l x.key) p) = putD l x := by
  unfold putD insP
  rw [if_neg hn, ← hd]
  unfold datE
  rw [List.map_append, List.map_cons, List.map_take, List.map_drop, hx]
theorem dat_put (hd : datE qs = l) (hx : p.2 = x) (hn : thR l x.key) : datE (qs.set (lbN l x.key) p) = putD l x := by
  have h1 : lbN l x.key < qs.length := by have := hn.1; rw [← hd, datE_len] at this; rw [hd] at this; exact this
  unfold putD
  rw [if_pos hn, List.set_eq_take_append_cons_drop, if_pos h1, ← hd]
  unfold datE
  rw [List.map_append, List.map_cons, List.map_take, List.map_drop, hx]
theorem putD_len (hn : ¬ thR l x.key) : (putD l x).length = l.length + 1 := by
  have := lb_le (l := l) (key := x.key)
  unfold putD; rw [if_neg hn, List.length_append, List.length_cons, List.length_take, List.length_drop]; omega
theorem putD_len2 (hn : thR l x.key) : (putD l x).length = l.length := by
  have := hn.1
  unfold putD; rw [if_pos hn, List.length_append, List.length_cons, List.length_take, List.length_drop]; omega
theorem mem_insP {q : EnQ} (h : q ∈ insP qs i p) : q ∈ qs ++ [p] := by
  unfold insP at h
  rcases List.mem_append.1 h with h | h
  · exact List.mem_append_left _ (List.mem_of_mem_take h)
  · rcases List.mem_cons.1 h with rfl | h
    · exact List.mem_append_right _ (List.mem_singleton.2 rfl)
    · exact List.mem_append_left _ (List.mem_of_mem_drop h)
theorem mem_setP {q : EnQ} (h : q ∈ qs.set i p) : q ∈ qs ++ [p] := by
  rcases List.mem_or_eq_of_mem_set h with h | rfl
  · exact List.mem_append_left _ h
  · exact List.mem_append_right _ (List.mem_singleton.2 rfl)
end
/-! ### Numbers, back -/
theorem dd_ok : ∀ u : Nat, Lib.decDigits u ≠ [] ∧ ∀ c ∈ Lib.decDigits u, 48 ≤ c.toNat ∧ c.toNat ≤ 57 := by
  intro u
  induction u using Nat.strongRecOn with
  | _ u ih =>
    have hd : ∀ v : Nat, v < 10 → 48 ≤ (UInt8.ofNat (48 + v)).toNat ∧ (UInt8.ofNat (48 + v)).toNat ≤ 57 := fun v hv => by rw [UInt8.toNat_ofNat']; omega
    by_cases h : u < 10
    · rw [Lib.decDigits, dif_pos h]
      exact ⟨by simp, fun c hc => by rw [List.mem_singleton.1 hc]; exact hd u h⟩
    · obtain ⟨h1, h2⟩ := ih (u / 10) (by omega)
      rw [Lib.decDigits, dif_neg h]
      refine ⟨by simp, fun c hc => ?_⟩
      rcases List.mem_append.1 hc with hc | hc
      · exact h2 c hc
      · rw [List.mem_singleton.1 hc]; exact hd _ (by omega)
theorem pum_dd {M : Nat} (hM : M ≤ 18446744073709551615) : ∀ (u : Nat), u ≤ M → ∀ r : List UInt8, Lib.parseUintM M 0 (Lib.decDigits u ++ r) = Lib.parseUintM M u r := by
  intro u
  induction u using Nat.strongRecOn with
  | _ u ih =>
    intro hu r
    have hd : ∀ v : Nat, v < 10 → (UInt8.ofNat (48 + v)).toNat = 48 + v := fun v hv => by rw [UInt8.toNat_ofNat']; omega
    by_cases h : u < 10
    · rw [Lib.decDigits, dif_pos h, List.singleton_append, Lib.parseUintM, hd u h, if_pos (by omega), if_neg (by omega), if_neg (by omega)]
      congr 1; omega
    · rw [Lib.decDigits, dif_neg h, List.append_assoc, ih (u / 10) (by omega) (by omega), List.singleton_append, Lib.parseUintM, hd (u % 10) (by omega), if_pos (by omega), if_neg (by omega), if_neg (by omega)]
      congr 1; omega
theorem pub_dd {u : Nat} (hu : u ≤ 18446744073709551615) : Lib.parseUintB 64 (Lib.decDigits u) = .ok u := by
  unfold Lib.parseUintB
  rw [if_neg (dd_ok u).1]
  have := pum_dd (M := 18446744073709551615) (Nat.le_refl _) u hu []
  rw [List.append_nil] at this
  exact this
theorem pib_itoa {n : Int} (h : i64 n) : Lib.parseIntB 64 (Lib.itoa n) = .ok n := by
  unfold i64 at h
  unfold Lib.itoa
  by_cases hn : n < 0
  · rw [if_pos hn]
    have h1 := pub_dd (u := n.natAbs) (by omega)
    show (match Lib.parseUintB 64 (if (45 : UInt8).toNat = 43 ∨ (45 : UInt8).toNat = 45 then Lib.decDigits n.natAbs else _) with | .syntax => _ | .range => _ | .ok u => _) = _
    rw [if_pos (.inr rfl), h1]
    show (if ¬ (45 : UInt8).toNat = 45 ∧ 2 ^ 63 ≤ n.natAbs then _ else if (45 : UInt8).toNat = 45 ∧ 2 ^ 63 < n.natAbs then _ else Lib.NumEnd.ok (if (45 : UInt8).toNat = 45 then -((n.natAbs : Nat) : Int) else ((n.natAbs : Nat) : Int))) = _
    rw [if_neg (fun q => q.1 rfl), if_neg (fun q => by have := q.2; omega), if_pos (show (45 : UInt8).toNat = 45 from rfl)]
    congr 1; omega
  · rw [if_neg hn]
    have h1 := pub_dd (u := n.toNat) (by omega)
    obtain ⟨h2, h3⟩ := dd_ok n.toNat
    cases hc : Lib.decDigits n.toNat with
    | nil => exact absurd hc h2
    | cons c r =>
      have h4 := h3 c (by rw [hc]; exact List.mem_cons_self ..)
      rw [hc] at h1
      unfold Lib.parseIntB
      simp only
      rw [if_neg (by omega), h1]
      simp only
      rw [if_neg (fun q => by have := q.2; omega), if_neg (fun q => by have := q.1; omega), if_neg (by omega)]
      congr 1; omega
theorem itoaS_data (n : Int) : (itoaS n).data.toList = Lib.itoa n := by simp [itoaS]
theorem itoaS_inj {n m : Int} (hn : i64 n) (hm : i64 m) (h : itoaS n = itoaS m) : n = m := by
  have h1 := pib_itoa hn
  have h2 := pib_itoa hm
  rw [← itoaS_data, h, itoaS_data, h2] at h1
  injection h1 with h1
  exact h1.symm
/-- A byte that a number may have. -/
def okc (s : ByteArray) (j : Nat) : Prop := (48 ≤ bi s (j : Int) ∧ bi s (j : Int) ≤ 57) ∨ (bi s (j : Int) = 45 ∧ j = 0)
theorem okc_itoa {n : Int} {s : ByteArray} (hs : itoaS n = s) {j : Nat} (hj : j < s.size) : okc s j := by
  have h1 := byt_el hj
  have h2 : s.data.toList = Lib.itoa n := by rw [← hs]; exact itoaS_data n
  rw [h2] at h1
  unfold Lib.itoa at h1
  have hb : bi s (j : Int) = ((byt s (j : Int)).toNat : Int) := rfl
  unfold okc
  split at h1
  · cases j with
    | zero => simp only [List.getElem?_cons_zero, Option.some.injEq] at h1; right; rw [hb, ← h1]; exact ⟨rfl, rfl⟩
    | succ j => rw [List.getElem?_cons_succ] at h1; have := (dd_ok _).2 _ (List.mem_of_getElem? h1); omega
  · have := (dd_ok _).2 _ (List.mem_of_getElem? h1); omega
def prOk (s : ByteArray) : Prop := ∃ n, i64 n ∧ itoaS n = s
noncomputable def prN (s : ByteArray) : Int := @dite Int (prOk s) (Classical.propDecidable _) (fun h => h.choose) fun _ => 0
noncomputable def prC (s : ByteArray) : Int := @ite Int (prOk s) (Classical.propDecidable _) 0 10
theorem pr_yes {s : ByteArray} {n : Int} (hn : i64 n) (h : itoaS n = s) : n = prN s ∧ 0 = prC s := by
  have hp : prOk s := ⟨n, hn, h⟩
  refine ⟨?_, (@if_pos _ (Classical.propDecidable _) hp _ _ _).symm⟩
  unfold prN
  rw [dif_pos hp]
  exact itoaS_inj hn hp.choose_spec.1 (h.trans hp.choose_spec.2.symm)
theorem pr_no {s : ByteArray} (h : ¬ prOk s) : 0 = prN s ∧ 10 = prC s := ⟨by unfold prN; rw [dif_neg h], (@if_neg _ (Classical.propDecidable _) h _ _ _).symm⟩
end Go.Proofs.YtdebkbfnngkdlaaGreatDoor
end
section
namespace Go.V
open Go.Base Go.RowKit
set_option linter.unusedVariables false
/-- The iterator. -/
def Itr (w : World) (b : Nat) (s : ByteArray) (p : Nat) : Prop := w.heap[b]? = some (.stringIter s p)
theorem Itr.lt {w : World} {b : Nat} {s : ByteArray} {p : Nat} (h : Itr w b s p) : b < w.heap.size := Nat.lt_of_not_le fun hle => by unfold Itr at h; rw [Array.getElem?_eq_none hle] at h; cases h
theorem Itr.fr {w w1 : World} {b : Nat} {s : ByteArray} {p : Nat} {l : List Nat} (h : Itr w b s p) (f : Fr l w w1) (hb : b ∉ l) : Itr w1 b s p := (f.block b h.lt hb).trans h
theorem Itr.fr0 {w w1 : World} {b : Nat} {s : ByteArray} {p : Nat} (h : Itr w b s p) (f : Fr [] w w1) : Itr w1 b s p := h.fr f (by simp)
/-- The rune at a place: r, of n bytes. -/
def RuneAt (s : ByteArray) (p : Nat) (r : Int) (n : Nat) : Prop := (bi s (p : Int) < 128 → r = bi s (p : Int) ∧ n = 1) ∧ (128 ≤ bi s (p : Int) → 128 ≤ r) ∧ 1 ≤ n ∧ 0 ≤ r ∧ r ≤ 2147483647
theorem get_bi {s : ByteArray} {p : Nat} (h : p < s.size) : ((s.get! (p + 0)).toNat : Int) = bi s (p : Int) := by
  have h' : p < s.data.size := h
  unfold bi byt
  rw [Int.toNat_natCast, Nat.add_zero, Array.getD_eq_getD_getElem?]
  show ((s.data[p]!).toNat : Int) = _
  rw [getElem!_def]
  cases hq : s.data[p]? with
  | some v => rfl
  | none => rfl
theorem dec_ok {s : ByteArray} {p : Nat} (h : p < s.size) : RuneAt s p ((Utf8.decode s p).1 : Int) (Utf8.decode s p).2 := by
  have hg := get_bi h
  have h3 : ∀ k : Nat, (s.get! (p + k)).toNat < 256 := fun k => UInt8.toNat_lt _
  have h0 := h3 0; have h1 := h3 1; have h2 := h3 2; have h4 := h3 3
  unfold RuneAt Utf8.decode Utf8.runeError
  dsimp only
  split
  · refine ⟨fun _ => ⟨by omega, rfl⟩, fun _ => by dsimp only; omega, Nat.le_refl _, by dsimp only; omega, by dsimp only; omega⟩
  split
  · split
    · refine ⟨fun _ => by omega, fun _ => by dsimp only; omega, by dsimp only; omega, by dsimp only; omega, by dsimp only; omega⟩
    · refine ⟨fun _ => by omega, fun _ => by dsimp only; omega, by dsimp only; omega, by dsimp only; omega, by dsimp only; omega⟩
  split
  · split
    · rename_i q; have q' := q; simp only [ge_iff_le, Bool.and_eq_true, decide_eq_true_eq] at q'
      refine ⟨fun _ => by omega, fun _ => by dsimp only; omega, by dsimp only; omega, by dsimp only; omega, by dsimp only; omega⟩
    · refine ⟨fun _ => by omega, fun _ => by dsimp only; omega, by dsimp only; omega, by dsimp only; omega, by dsimp only; omega⟩
  split
  · split
    · rename_i q; have q' := q; simp only [ge_iff_le, Bool.and_eq_true, decide_eq_true_eq] at q'
      refine ⟨fun _ => by omega, fun _ => by dsimp only; omega, by dsimp only; omega, by dsimp only; omega, by dsimp only; omega⟩
    · refine ⟨fun _ => by omega, fun _ => by dsimp only; omega, by dsimp only; omega, by dsimp only; omega, by dsimp only; omega⟩
  · refine ⟨fun _ => by omega, fun _ => by dsimp only; omega, by dsimp only; omega, by dsimp only; omega, by dsimp only; omega⟩
section
variable {ro : Option Nat} {P : Program} {Q : Exit → Act → World → Prop} {a : Act} {w : World} {ops : Array Oper} {rest : List Oper} {d : Option Tmp} {ty : TypeId} {pos : String} {aft : Array Edge} {g : Option (Nat × Bool)}
theorem rgs {t : TypeId} {x : Operand} {s : ByteArray} (hx : a.eval x = .string s) (ht : P.underlying t = some .string)
    (k : ∀ w1 b, b = w.heap.size → Itr w1 b s 0 → Fr [] w w1 → L ro P ops Q rest (a.put d (.pointer (some ⟨b, 0, none⟩))) w1) : St ro P ops Q rest ⟨d, .range t x, ty, pos, aft, g⟩ a w := by
  refine St.val (v := .pointer (some ⟨w.heap.size, 0, none⟩)) (w' := w.iter s 0) (by simp only [execOp, hx, run_range_string w t s ht, Sem.run_bind, Sem.run_pure, Result.andThen_ok]) (k _ _ rfl (heap_alloc_new w _) (Fr.alloc [] w _))
theorem nxs {x : Operand} {s : ByteArray} {b p : Nat} (hI : Itr w b s p) (hx : a.eval x = .pointer (some ⟨b, 0, none⟩))
    (k1 : p < s.size → ∀ w1 (r : Int) n, RuneAt s p r n → Itr w1 b s (p + n) → Fr [b] w w1 → L ro P ops Q rest (a.put d (.tuple #[.bool true, .int .i64 (p : Int), .int .i32 r])) w1)
    (k2 : ¬ p < s.size → L ro P ops Q rest (a.put d (.tuple #[.bool false])) w) : St ro P ops Q rest ⟨d, .next x true, ty, pos, aft, g⟩ a w := by
  by_cases h : p < s.size
  · refine St.val (v := .tuple #[.bool true, .int .i64 (p : Int), .int .i32 ((Utf8.decode s p).1 : Int)]) (w' := w.iterAt b s (p + (Utf8.decode s p).2)) (by simp only [execOp, hx, Lib.run_next_any_at w b s p ty hI h, Sem.run_bind, Sem.run_pure, Result.andThen_ok]) (k1 h _ _ _ (dec_ok h) (Lib.iterAt_heap w b s p _ hI) ⟨rfl, rfl, rfl, by simp [World.iterAt], fun i hi hn => Lib.iterAt_other w b i s _ (by simpa using hn)⟩)
  · exact St.val (v := .tuple #[.bool false]) (w' := w) (by simp only [execOp, hx, Lib.run_next_end_at w b s p ty hI h, Sem.run_bind, Sem.run_pure, Result.andThen_ok]) (k2 h)
/-- An error held against nil. -/
theorem neqI0 {t t' : TypeId} {x : Operand} (hx : a.eval x = .nilIface) (ht : P.underlying t = some (.interface (P.methodsAt t))) (k : L ro P ops Q rest (a.put d (.bool false)) w) : St ro P ops Q rest ⟨d, .binOp .neq t x (.const .nilIface) t', ty, pos, aft, g⟩ a w := by
  have h1 : (binOp .neq t .nilIface .nilIface).run P w = .ok (.bool false) w := by
    show (do pure (Value.bool (!(← Op.equal t .nilIface .nilIface))) : Sem Value).run P w = _
    rw [Sem.run_bind, run_equal_nil_nil w t ht]; rfl
  have hc : a.eval (.const .nilIface) = .nilIface := rfl
  exact St.val (v := .bool false) (w' := w) (by simp only [execOp, hx, hc, eqGuard_nil_constR, Sem.run_bind, Sem.run_pure, Result.andThen_ok, h1]) k
theorem neqI1 {t t' u : TypeId} {v : Value} {x : Operand} (hx : a.eval x = .iface u v) (ht : P.underlying t = some (.interface (P.methodsAt t))) (k : L ro P ops Q rest (a.put d (.bool true)) w) : St ro P ops Q rest ⟨d, .binOp .neq t x (.const .nilIface) t', ty, pos, aft, g⟩ a w := by
  have h1 : (binOp .neq t (.iface u v) .nilIface).run P w = .ok (.bool true) w := by
    show (do pure (Value.bool (!(← Op.equal t (.iface u v) .nilIface))) : Sem Value).run P w = _
    rw [Sem.run_bind, run_equal_held_nil w t u v ht]; rfl
  have hc : a.eval (.const .nilIface) = .nilIface := rfl
  have hg : eqGuard .neq t x (.const .nilIface) (.iface u v) .nilIface = pure () := rfl
  exact St.val (v := .bool true) (w' := w) (by simp only [execOp, hx, hc, hg, Sem.run_bind, Sem.run_pure, Result.andThen_ok, h1]) k
end
end Go.V
end
section
namespace Go.Proofs.YtdebkbfnngkdlaaGreatDoor
open Go.V Go.Base
open Go.RowKit (Below)
attribute [local irreducible] Act.put Act.eval
set_option linter.unusedVariables false
set_option linter.unusedSimpArgs false
set_option maxHeartbeats 4000000
set_option maxRecDepth 20000
/-! ### ParseInt, by the shelf -/
theorem pi_any (w : World) (s : ByteArray) (hs : s.size ≤ 1099511627776) (hV : Vs w) : Calls Tryz.prog 131 #[.string s, .int .i64 10, .int .i64 64] w fun e w' => ∃ n v, e = .returned (.tuple #[.int .i64 n, v]) ∧ Fr [] w w' ∧ ((v = .nilIface ∧ i64 n ∧ Lib.parseIntB 64 s.data.toList = .ok n) ∨ (∃ u q, v = .iface u q ∧ ∀ m, Lib.parseIntB 64 s.data.toList ≠ .ok m)) := by
  cases h : Lib.parseIntB 64 s.data.toList with
  | ok n =>
    have hb := Lib.parseIntB_bounds h
    refine (Tryz.strconv_ParseInt_10_at64_ok s (by omega) n h w).mono fun e w' ⟨h1, h2⟩ => ⟨n, _, h1, ?_, .inl ⟨rfl, ⟨hb.1, by have h3 : n < 9223372036854775808 := hb.2; omega⟩, rfl⟩⟩
    rcases h2 with rfl | ⟨t, rfl⟩
    · exact Fr.refl _ _
    · exact Fr.of_below (Lib.bytesWorld_below _ _ _) _
  | «syntax» =>
    obtain ⟨tp, p, hv⟩ := hV.syn
    exact (Tryz.strconv_ParseInt_10_at64_syntax_var s (by omega) h tp p w hv).mono fun e w' ⟨N, h1, _, _, h2⟩ => ⟨_, _, h1, Fr.of_below h2 _, .inr ⟨_, _, rfl, fun m hm => by cases hm⟩⟩
  | range =>
    obtain ⟨tp, p, hv⟩ := hV.ran
    exact (Tryz.strconv_ParseInt_10_at64_range_var s (by omega) h tp p w hv).mono fun e w' ⟨N, h1, _, _, h2⟩ => ⟨_, _, h1, Fr.of_below h2 _, .inr ⟨_, _, rfl, fun m hm => by cases hm⟩⟩
theorem pr_bad {s : ByteArray} {p : Nat} (hp : p < s.size) (h : ¬ okc s p) : ¬ prOk s := fun ⟨_, _, hs⟩ => h (okc_itoa hs hp)
theorem pr_err {s : ByteArray} (h : ∀ m, Lib.parseIntB 64 s.data.toList ≠ .ok m) : ¬ prOk s := fun ⟨m, hm, hs⟩ => h m (by rw [← hs, itoaS_data]; exact pib_itoa hm)
theorem pr_other {s : ByteArray} {n : Int} (h : Lib.parseIntB 64 s.data.toList = .ok n) (hne : ¬ itoaS n = s) : ¬ prOk s := fun ⟨m, hm, hs⟩ => hne (by
  have h1 := pib_itoa hm
  rw [← itoaS_data, hs, h] at h1
  injection h1 with h1
  rw [h1]; exact hs)
theorem ok_next {s : ByteArray} {p : Nat} (h : ∀ j, j < p → okc s j) (h1 : okc s p) : ∀ j, j < p + 1 → okc s j := fun j hj => by
  rcases Nat.lt_or_ge j p with h2 | h2
  · exact h j h2
  · obtain rfl : j = p := by omega
    exact h1
theorem parse_any (w : World) (s : ByteArray) (hs : s.size ≤ 1099511627776) (hV : Vs w) : Calls Tryz.prog 90 #[.string s] w (fun e w' => e = .returned (.tuple #[.int .i64 (prN s), .int .i64 (prC s)]) ∧ Fr [] w w') := by
 have hF := Fr.refl [] w
 refine V.en 42 Tryz.func90 fun a h1 => ?_
 refine V.sr h1 [] 2 3 [] fun a h4 => ?_
 refine V.seq fun K5 k6 => ?_
 refine V.sg fun K7 k8 => ?_
 refine V.run h4 [] 1 1 0 [(8, .string s)] fun a h13 => ?_
 refine V.go (V.rgs (h13.e (v := (.string s))) (by kernel_rfl) ?_)
 intro w10 b9 heb9 hI11 hF12
 have hsb9 := hI11.lt
 have hF_14 := hF.new hF12
 refine V.pt h13 fun a h15 => ?_
 refine V.nt (k8 _ _ ?_)
 refine V.block ?_
 refine V.loop1 (fun (p : Nat) a_ w_ => En 42 [] a_ [(0, .string s), (9, .pointer (some ⟨b9, 0, none⟩))] ∧ Itr w_ b9 s p ∧ Fr [] w w_ ∧ (p ≤ s.size) ∧ (∀ j, j < p → okc s j)) (fun (p : Nat) => s.size - p) 0 ?_ ?_
 ·
  refine ⟨h15.only _, hI11, hF_14, (by omega), (fun j hj => by omega)⟩
 ·
  rintro p a16 w17 ⟨h18, hI_19, hF_20, hp, hk⟩
  have hfs21 := hF_20.size
  refine V.sg fun K22 k23 => ?_
  refine V.go (V.nxs hI_19 h18.e ?_ ?_)
  ·
   intro hp24 w25 r26 n27 hr28 hI29 hF30
   have hsw25 := hF30.size
   have hF_31 := hF_20.own hF30 (by simp <;> omega)
   obtain ⟨hr1, hr2, hr3, hr4, hr5⟩ := hr28
   refine V.pt h18 fun a h32 => ?_
   refine V.re h32 [] 1 0 [(11, .bool true)] fun a h33 => k23 _ _ ?_
   refine V.seq fun K34 k35 => ?_
   refine V.ct h33 ?_
   refine V.skip ?_
   refine V.then_n (k35 _ _ ?_)
   refine V.block ?_
   refine V.sr h33 [] 12 13 [(4, .int .i64 (p : Int)), (5, .int .i32 r26)] fun a h38 => ?_
   refine V.seq fun K39 k40 => ?_
   refine V.sg fun K41 k42 => ?_
   refine V.run h38 [] 3 14 15 [(16, .bool (decide (r26 ≥ 48)))] fun a h43 => ?_
   by_cases hg44 : r26 ≥ 48
   ·
    have h45 := h43.kt 16 hg44
    refine V.run h45 [] 4 17 19 [(20, .bool (decide (r26 ≤ 57)))] fun a h46 => ?_
    by_cases hg47 : r26 ≤ 57
    ·
     have h48 := h46.kt 20 hg47
     refine V.re h48 [] 21 26 [(27, .bool true)] fun a h49 => k42 _ _ ?_
     refine V.ct h49 ?_
     refine V.exit (V.then_e (V.blk_hit (V.then_n ?_)))
     have hlt8 : bi s (p : Int) < 128 := by omega
     obtain ⟨hrb, hn1⟩ := hr1 hlt8
     subst hn1
     refine ⟨p + 1, by omega, ?_⟩
     refine ⟨h49.only _, hI29, hF_31, (by omega), (ok_next hk (by unfold okc; omega))⟩
    ·
     have h50 := h46.kf 20 hg47
     refine V.run h50 [(1, .eq r26 45)] 3 21 22 [(23, .bool (decide (r26 = 45)))] fun a h51 => ?_
     by_cases hg52 : r26 = 45
     ·
      have h53 := h51.kt 23 hg52
      refine V.re h53 [(1, .eq (p : Int) 0)] 24 26 [(27, .bool (decide ((p : Int) = 0)))] fun a h54 => k42 _ _ ?_
      refine V.cp h54 ((p : Int) = 0) (fun ht55 => ?_) (fun ht55 => ?_)
      ·
       refine V.exit (V.then_e (V.blk_hit (V.then_n ?_)))
       have hlt8 : bi s (p : Int) < 128 := by omega
       obtain ⟨hrb, hn1⟩ := hr1 hlt8
       subst hn1
       refine ⟨p + 1, by omega, ?_⟩
       refine ⟨h54.only _, hI29, hF_31, (by omega), (ok_next hk (by unfold okc; omega))⟩
      ·
       refine V.skip ?_
       refine V.then_n (k40 _ _ ?_)
       refine V.sr h54 [] 1 0 [(2, .int .i64 0), (3, .int .i64 10)] fun a h58 => ?_
       refine V.ret (V.blk_r (V.then_r (V.blk_r (V.then_r ?_))))
       refine V.r2 h58 (.int .i64 0) (.int .i64 10) ?_
       obtain ⟨hq1, hq2⟩ := pr_no (pr_bad (s := s) (p := p) (by assumption) (fun hq => by unfold okc at hq; omega))
       exact ⟨by rw [← hq1, ← hq2], hF_31⟩
     ·
      have h59 := h51.kf 23 hg52
      refine V.re h59 [] 24 26 [(27, .bool false)] fun a h60 => k42 _ _ ?_
      refine V.cf h60 ?_
      refine V.skip ?_
      refine V.then_n (k40 _ _ ?_)
      refine V.sr h60 [] 1 0 [(2, .int .i64 0), (3, .int .i64 10)] fun a h63 => ?_
      refine V.ret (V.blk_r (V.then_r (V.blk_r (V.then_r ?_))))
      refine V.r2 h63 (.int .i64 0) (.int .i64 10) ?_
      obtain ⟨hq1, hq2⟩ := pr_no (pr_bad (s := s) (p := p) (by assumption) (fun hq => by unfold okc at hq; omega))
      exact ⟨by rw [← hq1, ← hq2], hF_31⟩
   ·
    have h64 := h43.kf 16 hg44
    refine V.run h64 [(3, .eq r26 45)] 7 17 22 [(20, .bool false), (23, .bool (decide (r26 = 45)))] fun a h65 => ?_
    by_cases hg66 : r26 = 45
    ·
     have h67 := h65.kt 23 hg66
     refine V.re h67 [(1, .eq (p : Int) 0)] 24 26 [(27, .bool (decide ((p : Int) = 0)))] fun a h68 => k42 _ _ ?_
     refine V.cp h68 ((p : Int) = 0) (fun ht69 => ?_) (fun ht69 => ?_)
     ·
      refine V.exit (V.then_e (V.blk_hit (V.then_n ?_)))
      have hlt8 : bi s (p : Int) < 128 := by omega
      obtain ⟨hrb, hn1⟩ := hr1 hlt8
      subst hn1
      refine ⟨p + 1, by omega, ?_⟩
      refine ⟨h68.only _, hI29, hF_31, (by omega), (ok_next hk (by unfold okc; omega))⟩
     ·
      refine V.skip ?_
      refine V.then_n (k40 _ _ ?_)
      refine V.sr h68 [] 1 0 [(2, .int .i64 0), (3, .int .i64 10)] fun a h72 => ?_
      refine V.ret (V.blk_r (V.then_r (V.blk_r (V.then_r ?_))))
      refine V.r2 h72 (.int .i64 0) (.int .i64 10) ?_
      obtain ⟨hq1, hq2⟩ := pr_no (pr_bad (s := s) (p := p) (by assumption) (fun hq => by unfold okc at hq; omega))
      exact ⟨by rw [← hq1, ← hq2], hF_31⟩
    ·
     have h73 := h65.kf 23 hg66
     refine V.re h73 [] 24 26 [(27, .bool false)] fun a h74 => k42 _ _ ?_
     refine V.cf h74 ?_
     refine V.skip ?_
     refine V.then_n (k40 _ _ ?_)
     refine V.sr h74 [] 1 0 [(2, .int .i64 0), (3, .int .i64 10)] fun a h77 => ?_
     refine V.ret (V.blk_r (V.then_r (V.blk_r (V.then_r ?_))))
     refine V.r2 h77 (.int .i64 0) (.int .i64 10) ?_
     obtain ⟨hq1, hq2⟩ := pr_no (pr_bad (s := s) (p := p) (by assumption) (fun hq => by unfold okc at hq; omega))
     exact ⟨by rw [← hq1, ← hq2], hF_31⟩
  ·
   intro hp78
   refine V.pt h18 fun a h79 => ?_
   refine V.re h79 [] 1 0 [(11, .bool false)] fun a h80 => k23 _ _ ?_
   refine V.seq fun K81 k82 => ?_
   refine V.cf h80 ?_
   refine V.exit (V.then_e (V.then_e (V.blk_hit ?_)))
   refine V.then_n (k6 _ _ ?_)
   refine V.sg fun K83 k84 => ?_
   refine V.run h80 [] 1 1 0 [(29, .string s)] fun a h85 => ?_
   refine V.cl h85 (Go.Proofs.enters_of Tryz.func131 (by kernel_rfl) rfl) (pi_any w17 s hs (hV.fr hF_20)) ?_
   rintro _ w86 ⟨n87, v88, rfl, hF89, hc90⟩
   refine ⟨_, rfl, fun a h91 => ?_⟩
   have hsw86 := hF89.size
   have hF_93 := hF_20.new hF89
   rcases hc90 with ⟨rfl, hn64, hpi⟩ | ⟨u, q, rfl, hpi⟩
   ·
    refine V.re h91 [] 28 32 [(6, .int .i64 n87), (7, .nilIface)] fun a h94 => k84 _ _ ?_
    refine V.seq fun K95 k96 => ?_
    refine V.sg fun K97 k98 => ?_
    refine V.run h94 [] 1 1 0 [(33, .nilIface)] fun a h99 => ?_
    refine V.go (V.neqI0 (h99.e (v := (.nilIface))) (by kernel_rfl) ?_)
    refine V.pt h99 fun a h100 => ?_
    refine V.run h100 [] 2 1 0 [(35, .bool false), (36, .int .i64 n87)] fun a h101 => ?_
    refine V.clg h101 (Go.Proofs.enters_of Tryz.func126 (by kernel_rfl) rfl) (fmt_any w86 n87 hn64 (hV.fr hF_93)) ?_
    rintro _ w103 ⟨rfl, hF102⟩
    refine ⟨_, rfl, fun a h104 => ?_⟩
    have hsw103 := hF102.size
    have hF_106 := hF_93.new hF102
    refine V.re h104 [(1, .sne (itoaS n87) s)] 38 39 [(40, .bool (decide (¬ (itoaS n87) = s)))] fun a h107 => k98 _ _ ?_
    refine V.cp h107 (¬ (itoaS n87) = s) (fun ht108 => ?_) (fun ht108 => ?_)
    ·
     refine V.sr h107 [] 1 0 [(2, .int .i64 0), (3, .int .i64 10)] fun a h111 => ?_
     refine V.ret (V.then_r ?_)
     refine V.r2 h111 (.int .i64 0) (.int .i64 10) ?_
     obtain ⟨hq1, hq2⟩ := pr_no (pr_other hpi (by assumption))
     exact ⟨by rw [← hq1, ← hq2], hF_106⟩
    ·
     refine V.skip ?_
     refine V.then_n (k96 _ _ ?_)
     refine V.sr h107 [] 41 41 [(2, .int .i64 n87), (3, .int .i64 0)] fun a h114 => ?_
     refine V.ret ?_
     refine V.r2 h114 (.int .i64 n87) (.int .i64 0) ?_
     obtain ⟨hq1, hq2⟩ := pr_yes hn64 (by first | assumption | exact Decidable.of_not_not (by assumption))
     exact ⟨by rw [← hq1, ← hq2], hF_106⟩
   ·
    refine V.re h91 [] 28 32 [(6, .int .i64 n87), (7, (.iface u q))] fun a h115 => k84 _ _ ?_
    refine V.seq fun K116 k117 => ?_
    refine V.sg fun K118 k119 => ?_
    refine V.run h115 [] 1 1 0 [(33, (.iface u q))] fun a h120 => ?_
    refine V.go (V.neqI1 (h120.e (v := ((.iface u q)))) (by kernel_rfl) ?_)
    refine V.pt h120 fun a h121 => ?_
    refine V.re h121 [] 35 39 [(40, .bool true)] fun a h122 => k119 _ _ ?_
    refine V.ct h122 ?_
    refine V.sr h122 [] 1 0 [(2, .int .i64 0), (3, .int .i64 10)] fun a h125 => ?_
    refine V.ret (V.then_r ?_)
    refine V.r2 h125 (.int .i64 0) (.int .i64 10) ?_
    obtain ⟨hq1, hq2⟩ := pr_no (pr_err hpi)
    exact ⟨by rw [← hq1, ← hq2], hF_93⟩
end Go.Proofs.YtdebkbfnngkdlaaGreatDoor
end
section
namespace Go.V
open Go.Base Go.RowKit
set_option linter.unusedVariables false
set_option linter.unusedSimpArgs false
theorem b_or_i64 (x m : Nat) (hx : x < 9223372036854775808) (hm : m < 9223372036854775808) : Value.int .i64 (IntKind.i64.wrap ((BitVec.ofInt 64 (x : Int) ||| BitVec.ofInt 64 (m : Int)).toNat : Int)) = .int .i64 ((x ||| m : Nat) : Int) := by
  have hb : (BitVec.ofInt 64 (x : Int) ||| BitVec.ofInt 64 (m : Int)).toNat = x ||| m := by rw [BitVec.toNat_or, ofInt_nat 64 x (by omega), ofInt_nat 64 m (by omega)]
  have hlt : x ||| m < 2 ^ 63 := Nat.or_lt_two_pow (by omega) (by omega)
  rw [hb]
  exact w_i64 (by omega) (by omega)
section
variable {ro : Option Nat} {P : Program} {Q : Exit → Act → World → Prop} {a : Act} {w : World} {ops : Array Oper} {rest : List Oper} {d : Option Tmp} {ty : TypeId} {pos : String} {aft : Array Edge} {g : Option (Nat × Bool)}
theorem mk0 {α : Type} (R : Rp α) {t e : TypeId} {l c : Operand} {kl kc : IntKind} (m : Nat) (z : Value) (bytes : Nat) (hl : a.eval l = .int kl 0) (hc : a.eval c = .int kc (m : Int)) (ht : P.underlying t = some (.slice e))
    (hinfo : (P.info? e).map (fun i => (i.zero, i.size, i.bytes)) = some (some z, 1, bytes)) (hz : z.cells = #[z]) (hR : R.sz = 1) (hb : bytes * m ≤ 281474976710656) (hn : m ≤ maxLen)
    (k : ∀ w1 b, b = w.heap.size → OwR R NoZ w1 b e (.slice (some ⟨b, 0, none⟩) 0 m) [] → Fr [] w w1 → L ro P ops Q rest (a.put d (.slice (some ⟨b, 0, none⟩) 0 m)) w1) : St ro P ops Q rest ⟨d, .makeSlice t l c, ty, pos, aft, g⟩ a w := by
  obtain ⟨i, hi, hzz⟩ := Option.map_eq_some_iff.1 hinfo
  simp only [Prod.mk.injEq] at hzz
  obtain ⟨hz0, hz1, hz2⟩ := hzz
  subst hz2
  have hb' : (i.bytes : Int) * (m : Int) ≤ 281474976710656 := by
    have h : ((i.bytes * m : Nat) : Int) ≤ 281474976710656 := by omega
    rwa [Int.natCast_mul] at h
  have hr := run_make (P := P) (w := w) t e i z ht hi hz0 kl kc 0 (m : Int) (Int.le_refl _) (by omega) hb' (by unfold maxLen at hn; omega)
  simp only [Int.toNat_natCast, hz1, Nat.mul_one, hz, Int.toNat_zero] at hr
  refine St.val (v := .slice (some ⟨w.heap.size, 0, none⟩) 0 m) (w' := w.alloc (.cells (madeCells #[z] m) e)) (by simp only [execOp, hl, hc, hr, Sem.run_bind, Sem.run_pure, Result.andThen_ok]) (k _ _ rfl ⟨[], ⟨by simp, .inr ⟨w.heap.size, m, madeCells #[z] m, rfl, Nat.le_refl _, heap_alloc_new w _, Nat.zero_le _, hn, ?_, by simp⟩⟩, rfl, fun b _ hz => hz⟩ (Fr.alloc [] w _))
  rw [hR, Nat.mul_one]
  have := congrArg List.length (toList_madeCells_one z m)
  simpa using this
theorem shl (v n : Nat) {t t' : TypeId} {x y : Operand} {k' : IntKind} (hx : a.eval x = .int .i64 (v : Int)) (hy : a.eval y = .int k' (n : Int)) (hn : n ≤ 64) (hv : v * 2 ^ n ≤ 9223372036854775807) (kk : L ro P ops Q rest (a.put d (.int .i64 ((v * 2 ^ n : Nat) : Int))) w) : St ro P ops Q rest ⟨d, .binOp .shl t x y t', ty, pos, aft, g⟩ a w := by
  refine St.val (v := .int .i64 ((v * 2 ^ n : Nat) : Int)) (w' := w) ?_ kk
  have h64 : n ≤ IntKind.i64.bits := hn
  have hc : ((v : Int) * 2 ^ n) = ((v * 2 ^ n : Nat) : Int) := by simp
  simp only [execOp, hx, hy, eqGuard, binOp, Op.shift, nonneg_if, Int.toNat_natCast, Nat.min_eq_left h64, hc]
  rw [← w_i64 (x := ((v * 2 ^ n : Nat) : Int)) (by omega) (by omega)]
  rfl
theorem ori (v m : Nat) {t t' : TypeId} {x y : Operand} (hx : a.eval x = .int .i64 (v : Int)) (hy : a.eval y = .int .i64 (m : Int)) (hv : v < 9223372036854775808) (hm : m < 9223372036854775808) (kk : L ro P ops Q rest (a.put d (.int .i64 ((v ||| m : Nat) : Int))) w) : St ro P ops Q rest ⟨d, .binOp .or t x y t', ty, pos, aft, g⟩ a w := by
  refine St.val (v := .int .i64 ((v ||| m : Nat) : Int)) (w' := w) ?_ kk
  rw [← b_or_i64 v m hv hm]
  simp only [execOp, hx, hy, eqGuard, binOp, Op.intBits]
  rfl
end
end Go.V
end
section
namespace Go.Proofs.YtdebkbfnngkdlaaGreatDoor
open Go.V Go.Base
open Go.RowKit (Below)
attribute [local irreducible] Act.put Act.eval
set_option linter.unusedVariables false
set_option linter.unusedSimpArgs false
set_option maxHeartbeats 4000000
set_option maxRecDepth 20000
/-! ### Hex, back -/
theorem info5 : (Tryz.prog.info? 5).map (fun i => (i.zero, i.size, i.bytes)) = some (some (.int .u8 0), 1, 1) := by kernel_rfl
def dv (c : UInt8) : Int := Lib.indexByte [48, 49, 50, 51, 52, 53, 54, 55, 56, 57, 97, 98, 99, 100, 101, 102] c
theorem ix_range (c : UInt8) : ∀ l : List UInt8, -1 ≤ Lib.indexByte l c ∧ Lib.indexByte l c < (l.length : Int)
  | [] => by unfold Lib.indexByte; simp
  | b :: l => by
    have := ix_range c l
    unfold Lib.indexByte
    rw [List.length_cons]
    split
    · omega
    · split
      · omega
      · omega
theorem dv_range (c : UInt8) : -1 ≤ dv c ∧ dv c ≤ 15 := by
  have := ix_range c [48, 49, 50, 51, 52, 53, 54, 55, 56, 57, 97, 98, 99, 100, 101, 102]
  unfold dv; simp only [List.length_cons, List.length_nil] at this; omega
theorem ib_any (w : World) (s : ByteArray) (i : Int) : Calls Tryz.prog 130 #[.string ⟨#[48, 49, 50, 51, 52, 53, 54, 55, 56, 57, 97, 98, 99, 100, 101, 102]⟩, .int .u8 (bi s i)] w fun e w' => e = .returned (.int .i64 (dv (byt s i))) ∧ w = w' :=
  (Tryz.strings_IndexByte _ (bi s i) w).mono fun e w' ⟨h1, h2⟩ => ⟨by
    have hb : (bi s i).toNat.toUInt8 = byt s i := by show UInt8.ofNat ((byt s i).toNat : Int).toNat = _; rw [Int.toNat_natCast]; exact UInt8.ofNat_toNat
    rw [h1, hb]; rfl, h2.symm⟩
def uhG (s : ByteArray) (i : Nat) : Prop := 0 ≤ dv (byt s (i : Int))
def nibI (s : ByteArray) (k : Nat) : Int := dv (byt s ((2 * k : Nat) : Int)) * 16 + dv (byt s (((2 * k : Nat) : Int) + 1))
def uhS (s : ByteArray) : ByteArray := strI ((List.range (s.size / 2)).map (nibI s))
def uhOk (s : ByteArray) : Prop := s = ⟨#[46]⟩ ∨ (¬ s = ⟨#[]⟩ ∧ s.size % 2 = 0 ∧ AllG (uhG s) s.size)
noncomputable def unhexS (s : ByteArray) : ByteArray := @ite _ (s = ⟨#[46]⟩ ∨ ¬ uhOk s) (Classical.propDecidable _) ⟨#[]⟩ (uhS s)
theorem uh_dot {s : ByteArray} (h : s = ⟨#[46]⟩) : (⟨#[]⟩ : ByteArray) = unhexS s ∧ true = bP (uhOk s) := ⟨(@if_pos _ (Classical.propDecidable _) (Or.inl h) _ _ _).symm, bP_yes (.inl h)⟩
theorem uh_no {s : ByteArray} (h : ¬ uhOk s) : (⟨#[]⟩ : ByteArray) = unhexS s ∧ false = bP (uhOk s) := ⟨(@if_pos _ (Classical.propDecidable _) (Or.inr h) _ _ _).symm, bP_no h⟩
theorem uh_yes {s : ByteArray} (h0 : ¬ s = ⟨#[46]⟩) (h : uhOk s) : uhS s = unhexS s ∧ true = bP (uhOk s) := ⟨(@if_neg _ (Classical.propDecidable _) (fun q => q.elim h0 (fun q => q h)) _ _ _).symm, bP_yes h⟩
theorem or16 (x y : Nat) (hy : y < 16) : x * 2 ^ 4 ||| y = x * 16 + y := by
  have := Nat.shiftLeft_add_eq_or_of_lt (i := 4) (b := y) hy x
  rw [Nat.shiftLeft_eq] at this
  omega
theorem nib_next (s : ByteArray) (k : Nat) : (List.range (k + 1)).map (nibI s) = (List.range k).map (nibI s) ++ [nibI s k] := by rw [List.range_succ, List.map_append]; rfl
theorem uhG_two {s : ByteArray} {k : Nat} (h : AllG (uhG s) (2 * k)) (h1 : 0 ≤ dv (byt s ((2 * k : Nat) : Int))) (h2 : 0 ≤ dv (byt s (((2 * k : Nat) : Int) + 1))) : AllG (uhG s) (2 * (k + 1)) := by
  rw [show 2 * (k + 1) = 2 * k + 1 + 1 by omega]
  exact (h.step h1).step (by unfold uhG; rw [show ((2 * k + 1 : Nat) : Int) = ((2 * k : Nat) : Int) + 1 by omega]; exact h2)
theorem uh_bad {s : ByteArray} {k : Nat} (h0 : ¬ s = ⟨#[46]⟩) (hk : 2 * k + 1 < s.size) (h : dv (byt s ((2 * k : Nat) : Int)) < 0 ∨ dv (byt s (((2 * k : Nat) : Int) + 1)) < 0) : ¬ uhOk s := by
  rintro (q | ⟨_, _, q⟩)
  · exact h0 q
  · have h1 := q (2 * k) (by omega)
    have h2 := q (2 * k + 1) hk
    unfold uhG at h1 h2
    rw [show ((2 * k + 1 : Nat) : Int) = ((2 * k : Nat) : Int) + 1 by omega] at h2
    omega
theorem unhex_any (w : World) (s : ByteArray) (hs : s.size ≤ 1099511627776) : Calls Tryz.prog 89 #[.string s] w (fun e w' => e = .returned (.tuple #[.string (unhexS s), .bool (bP (uhOk s))]) ∧ Fr [] w w') := by
 have hF := Fr.refl [] w
 refine V.en 53 Tryz.func89 fun a h1 => ?_
 refine V.sr h1 [] 2 3 [] fun a h4 => ?_
 refine V.seq fun K5 k6 => ?_
 refine V.sr h4 [(1, .seq s ⟨#[46]⟩)] 8 8 [(9, .bool (decide (s = ⟨#[46]⟩)))] fun a h9 => ?_
 refine V.cp h9 (s = ⟨#[46]⟩) (fun ht10 => ?_) (fun ht10 => ?_)
 ·
  refine V.sr h9 [] 1 0 [(2, .string ⟨#[]⟩), (3, .bool true)] fun a h13 => ?_
  refine V.ret (V.then_r ?_)
  refine V.r2 h13 (.string ⟨#[]⟩) (.bool true) ?_
  obtain ⟨hq1, hq2⟩ := uh_dot (by assumption : s = ⟨#[46]⟩)
  exact ⟨by rw [← hq1, ← hq2]; try rfl, hF⟩
 ·
  refine V.skip ?_
  refine V.then_n (k6 _ _ ?_)
  refine V.seq fun K14 k15 => ?_
  refine V.sg fun K16 k17 => ?_
  refine V.run h9 [(1, .seq s ⟨#[]⟩)] 3 10 11 [(12, .bool (decide (s = ⟨#[]⟩)))] fun a h18 => ?_
  by_cases hg19 : s = ⟨#[]⟩
  ·
   have h20 := h18.kt 12 hg19
   refine V.re h20 [] 13 16 [(17, .bool true)] fun a h21 => k17 _ _ ?_
   refine V.ct h21 ?_
   refine V.sr h21 [] 1 0 [(2, .string ⟨#[]⟩), (3, .bool false)] fun a h24 => ?_
   refine V.ret (V.then_r ?_)
   refine V.r2 h24 (.string ⟨#[]⟩) (.bool false) ?_
   obtain ⟨hq1, hq2⟩ := uh_no (s := s) (fun q => by rcases q with q | ⟨q1, q2, q3⟩ <;> first | (exact absurd q (by assumption)) | (exact absurd (by assumption) q1) | omega)
   exact ⟨by rw [← hq1, ← hq2]; try rfl, hF⟩
  ·
   have h25 := h18.kf 12 hg19
   refine V.re h25 [(2, .q (.int .i64 ((s.size : Int) % 2)) (V.rem_in (by omega))), (0, .ne ((s.size : Int) % 2) 0)] 13 16 [(17, .bool (decide (¬ ((s.size : Int) % 2) = 0)))] fun a h26 => k17 _ _ ?_
   refine V.cp h26 (¬ ((s.size : Int) % 2) = 0) (fun ht27 => ?_) (fun ht27 => ?_)
   ·
    refine V.sr h26 [] 1 0 [(2, .string ⟨#[]⟩), (3, .bool false)] fun a h30 => ?_
    refine V.ret (V.then_r ?_)
    refine V.r2 h30 (.string ⟨#[]⟩) (.bool false) ?_
    obtain ⟨hq1, hq2⟩ := uh_no (s := s) (fun q => by rcases q with q | ⟨q1, q2, q3⟩ <;> first | (exact absurd q (by assumption)) | (exact absurd (by assumption) q1) | omega)
    exact ⟨by rw [← hq1, ← hq2]; try rfl, hF⟩
   ·
    refine V.skip ?_
    refine V.then_n (k15 _ _ ?_)
    refine V.sg fun K31 k32 => ?_
    refine V.run h26 [(2, .q (.int .i64 ((s.size : Int) / 2)) (V.quo_i64 (by omega) (by omega) (by omega)))] 3 18 19 [(20, .int .i64 ((s.size : Int) / 2))] fun a h37 => ?_
    refine V.go (V.mk0 (Rp.int .u8) (s.size / 2) (.int .u8 0) 1 evc ((h37.e (v := (.int .i64 ((s.size : Int) / 2)))).trans (V.int_eq (by omega))) (by kernel_rfl) info5 rfl rfl (by omega) (by unfold maxLen; omega) ?_)
    intro w34 b33 heb33 hO35 hF36
    have hsb33 : b33 < w34.heap.size := (hO35.lt b33 rfl).2
    have hF_38 := hF.new hF36
    refine V.pt h37 fun a h39 => ?_
    refine V.re h39 [] 1 0 [(4, .slice (some ⟨b33, 0, none⟩) 0 (s.size / 2))] fun a h40 => k32 _ _ ?_
    refine V.seq fun K41 k42 => ?_
    refine V.sr h40 [] 1 0 [(5, .int .i64 0)] fun a h45 => ?_
    refine V.block ?_
    refine V.loop3 (fun (k : Nat) (A2 : Option Addr) (c2 : Nat) a_ w_ => En 53 [] a_ [(0, .string s), (4, .slice A2 (((List.range k).map (nibI s)).length) c2), (5, .int .i64 ((2 * k : Nat) : Int))] ∧ OwR (Rp.int .u8) NoZ w_ w.heap.size 5 (.slice A2 (((List.range k).map (nibI s)).length) c2) ((List.range k).map (nibI s)) ∧ Fr [] w w_ ∧ (2 * k ≤ s.size) ∧ (AllG (uhG s) (2 * k))) (fun (k : Nat) (A2 : Option Addr) (c2 : Nat) => s.size - 2 * k) 0 (some ⟨b33, 0, none⟩) (s.size / 2) ?_ ?_
    ·
     refine ⟨((h45.eq 4 (v := (.slice (some ⟨b33, 0, none⟩) 0 (s.size / 2))) (u := (.slice (some ⟨b33, 0, none⟩) (((List.range 0).map (nibI s)).length) (s.size / 2))) (rfl)).eq 5 (v := (.int .i64 0)) (u := (.int .i64 ((2 * 0 : Nat) : Int))) (V.int_eq (by omega))).only _, (hO35.rebase (by omega)), hF_38, (by omega), (AllG.zero _)⟩
    ·
     rintro k A2 c2 a46 w47 ⟨h48, hO_49, hF_50, hk, hG⟩
     have hfs51 := hF_50.size
     have hfl : ((List.range k).map (nibI s)).length = k := by rw [List.length_map, List.length_range]
     have hd1 := dv_range (byt s ((2 * k : Nat) : Int))
     have hd2 := dv_range (byt s (((2 * k : Nat) : Int) + 1))
     refine V.seq fun K52 k53 => ?_
     refine V.sr h48 [] 22 24 [(25, .bool (decide (((2 * k : Nat) : Int) < (s.size : Int))))] fun a h56 => ?_
     refine V.cp h56 (((2 * k : Nat) : Int) < (s.size : Int)) (fun ht57 => ?_) (fun ht57 => ?_)
     ·
      refine V.skip ?_
      refine V.then_n (k53 _ _ ?_)
      refine V.seq fun K58 k59 => ?_
      refine V.block ?_
      refine V.seq fun K60 k61 => ?_
      refine V.pl [([0,1,2,4,5,6,7],some (3,[])),([],some (8,[])),([9,10],none)] fun w62 hF63 hsw62 => ?_
      have hO_64 := hO_49.fr0 hF63
      have hF_65 := hF_50.new hF63
      have hb66 := byt_lt s ((2 * k : Nat) : Int)
      have hb67 := byt_lt s (((2 * k : Nat) : Int) + 1)
      refine V.pe h56 [(2, .ixs s .i64 ((2 * k : Nat) : Int)), (2, .i (((2 * k : Nat) : Int) + 1)), (0, .ixs s .i64 (((2 * k : Nat) : Int) + 1))] 28 34 [(30, .int .u8 (bi s ((2 * k : Nat) : Int))), (35, .int .u8 (bi s (((2 * k : Nat) : Int) + 1)))] fun a h68 => ?_
      refine V.cl h68 (Go.Proofs.enters_of Tryz.func130 (by kernel_rfl) rfl) (ib_any w62 s ((2 * k : Nat) : Int)) ?_
      rintro _ _ ⟨rfl, rfl⟩
      refine ⟨_, rfl, fun a h69 => ?_⟩
      refine V.eh trivial ?_
      refine V.pe h69 [] 1 0 [] fun a h70 => ?_
      refine V.cl h70 (Go.Proofs.enters_of Tryz.func130 (by kernel_rfl) rfl) (ib_any w62 s (((2 * k : Nat) : Int) + 1)) ?_
      rintro _ _ ⟨rfl, rfl⟩
      refine ⟨_, rfl, fun a h71 => ?_⟩
      refine V.eh trivial ?_
      refine V.pz h71 [] 1 0 [(6, .int .i64 (dv (byt s ((2 * k : Nat) : Int)))), (7, .int .i64 (dv (byt s (((2 * k : Nat) : Int) + 1))))] fun a h72 => k61 _ _ ?_
      refine V.seq fun K73 k74 => ?_
      refine V.sg fun K75 k76 => ?_
      refine V.run h72 [] 3 37 38 [(39, .bool (decide ((dv (byt s ((2 * k : Nat) : Int))) < 0)))] fun a h77 => ?_
      by_cases hg78 : (dv (byt s ((2 * k : Nat) : Int))) < 0
      ·
       have h79 := h77.kt 39 hg78
       refine V.re h79 [] 40 41 [(42, .bool true)] fun a h80 => k76 _ _ ?_
       refine V.ct h80 ?_
       refine V.sr h80 [] 1 0 [(2, .string ⟨#[]⟩), (3, .bool false)] fun a h83 => ?_
       refine V.ret (V.then_r (V.blk_r (V.then_r (V.then_r (V.blk_r (V.then_r ?_))))))
       refine V.r2 h83 (.string ⟨#[]⟩) (.bool false) ?_
       obtain ⟨hq1, hq2⟩ := uh_no (uh_bad (k := k) (by assumption) (by omega) (by omega))
       exact ⟨by rw [← hq1, ← hq2]; try rfl, hF_65⟩
      ·
       have h84 := h77.kf 39 hg78
       refine V.re h84 [] 40 41 [(42, .bool (decide ((dv (byt s (((2 * k : Nat) : Int) + 1))) < 0)))] fun a h85 => k76 _ _ ?_
       refine V.cp h85 ((dv (byt s (((2 * k : Nat) : Int) + 1))) < 0) (fun ht86 => ?_) (fun ht86 => ?_)
       ·
        refine V.sr h85 [] 1 0 [(2, .string ⟨#[]⟩), (3, .bool false)] fun a h89 => ?_
        refine V.ret (V.then_r (V.blk_r (V.then_r (V.then_r (V.blk_r (V.then_r ?_))))))
        refine V.r2 h89 (.string ⟨#[]⟩) (.bool false) ?_
        obtain ⟨hq1, hq2⟩ := uh_no (uh_bad (k := k) (by assumption) (by omega) (by omega))
        exact ⟨by rw [← hq1, ← hq2]; try rfl, hF_65⟩
       ·
        refine V.skip ?_
        refine V.then_n (k74 _ _ ?_)
        have hor := or16 (dv (byt s ((2 * k : Nat) : Int))).toNat (dv (byt s (((2 * k : Nat) : Int) + 1))).toNat (by omega)
        refine V.rg ?_
        refine V.run h85 [] 2 1 0 [(43, .slice A2 (((List.range k).map (nibI s)).length) c2), (44, .int .i64 (dv (byt s ((2 * k : Nat) : Int))))] fun a h90 => ?_
        refine V.go (V.shl (dv (byt s ((2 * k : Nat) : Int))).toNat 4 ((h90.e (v := (.int .i64 (dv (byt s ((2 * k : Nat) : Int)))))).trans (V.int_eq (by omega))) evc (by decide) (by omega) ?_)
        refine V.pt h90 fun a h91 => ?_
        refine V.run h91 [] 1 1 0 [(46, .int .i64 (dv (byt s (((2 * k : Nat) : Int) + 1))))] fun a h92 => ?_
        refine V.go (V.ori ((dv (byt s ((2 * k : Nat) : Int))).toNat * 2 ^ 4) (dv (byt s (((2 * k : Nat) : Int) + 1))).toNat h92.e ((h92.e (v := (.int .i64 (dv (byt s (((2 * k : Nat) : Int) + 1)))))).trans (V.int_eq (by omega))) (by omega) (by omega) ?_)
        refine V.pt h92 fun a h93 => ?_
        refine V.run h93 [(0, .q (.int .u8 (((dv (byt s ((2 * k : Nat) : Int))).toNat * 2 ^ 4 ||| (dv (byt s (((2 * k : Nat) : Int) + 1))).toNat : Nat) : Int)) (V.w_u8 (by omega) (by omega)))] 1 1 0 [(48, .int .u8 (((dv (byt s ((2 * k : Nat) : Int))).toNat * 2 ^ 4 ||| (dv (byt s (((2 * k : Nat) : Int) + 1))).toNat : Nat) : Int))] fun a h94 => ?_
        refine V.go (V.mk [(48, .int .u8 (((dv (byt s ((2 * k : Nat) : Int))).toNat * 2 ^ 4 ||| (dv (byt s (((2 * k : Nat) : Int) + 1))).toNat : Nat) : Int))] ⟨h94.e, trivial⟩ (by kernel_rfl) [.int .u8 (((dv (byt s ((2 * k : Nat) : Int))).toNat * 2 ^ 4 ||| (dv (byt s (((2 * k : Nat) : Int) + 1))).toNat : Nat) : Int)] 5 (fun b => .slice (some ⟨b, 0, none⟩) 1 1) (by kernel_rfl) ?_)
        intro w96 b95 heb95 hB97 hF98 hsb95
        have hO_99 := hO_64.fr0 hF98
        have hF_100 := hF_65.new hF98
        refine V.pt h94 fun a h101 => ?_
        refine V.go (V.app (R := (Rp.int .u8)) (ys := ([(((dv (byt s ((2 * k : Nat) : Int))).toNat * 2 ^ 4 ||| (dv (byt s (((2 * k : Nat) : Int) + 1))).toNat : Nat) : Int)])) (news := [.int .u8 (((dv (byt s ((2 * k : Nat) : Int))).toNat * 2 ^ 4 ||| (dv (byt s (((2 * k : Nat) : Int) + 1))).toNat : Nat) : Int)]) (h101.e (v := (.slice A2 (((List.range k).map (nibI s)).length) c2))) ⟨b95, 0, none⟩ 1 1 (h101.e (v := (.slice (some ⟨b95, 0, none⟩) 1 1))) (by kernel_rfl) (info5) (by kernel_rfl) (by decide) hO_99 rfl ⟨[.int .u8 (((dv (byt s ((2 * k : Nat) : Int))).toNat * 2 ^ 4 ||| (dv (byt s (((2 * k : Nat) : Int) + 1))).toNat : Nat) : Int)], [], rfl, rfl, rfl⟩ (blk_cells hB97 0 _ rfl) (by first | omega | (simp; omega)) (by decide) (by omega) ?_)
        intro A102 c103 w104 hO105z hF106 hatw104
        have hsw104 := hF106.size
        have hF_107 := hF_100.own hF106 (own_ge hO_99 (by omega))
        have hO105 := hO105z.zone (Z' := NoZ) (fun _ _ q => q.1) (fun _ _ q => q)
        refine V.pt h101 fun a h108 => ?_
        refine V.re h108 [] 1 0 [(4, .slice A102 ((((List.range k).map (nibI s)).length) + 1) c103)] fun a h109 => ?_
        refine V.blk_n ?_
        refine V.then_n (k59 _ _ ?_)
        refine V.rr h109 [(1, .i (((2 * k : Nat) : Int) + 2))] 26 27 [(5, .int .i64 (((2 * k : Nat) : Int) + 2))] fun a h110 => ?_
        refine V.then_n ?_
        have hqs := nib_next s k
        rw [show nibI s k = (((dv (byt s ((2 * k : Nat) : Int))).toNat * 2 ^ 4 ||| (dv (byt s (((2 * k : Nat) : Int) + 1))).toNat : Nat) : Int) from (by unfold nibI; omega)] at hqs
        refine ⟨k + 1, A102, c103, by omega, ?_⟩
        refine ⟨((h110.eq 4 (v := (.slice A102 ((((List.range k).map (nibI s)).length) + 1) c103)) (u := (.slice A102 (((List.range (k + 1)).map (nibI s)).length) c103)) (V.sl_eq (by rw [hqs]; simp))).eq 5 (v := (.int .i64 (((2 * k : Nat) : Int) + 2))) (u := (.int .i64 ((2 * (k + 1) : Nat) : Int))) (V.int_eq (by omega))).only _, (by rw [hqs, List.length_append]; exact hO105), hF_107, (by omega), (uhG_two hG (by omega) (by omega))⟩
     ·
      refine V.exit (V.then_e (V.then_e (V.blk_hit ?_)))
      refine V.then_n (k42 _ _ ?_)
      refine V.sg fun K111 k112 => ?_
      refine V.run h56 [] 1 1 0 [(51, .slice A2 (((List.range k).map (nibI s)).length) c2)] fun a h113 => ?_
      refine V.go (V.b2s (e := 5) (xs := ((List.range k).map (nibI s))) (hO_49.read (Z' := fun _ => True) (fun _ _ _ => trivial) (fun _ _ _ => trivial)) (by kernel_rfl) (by kernel_rfl) (by kernel_rfl) (h113.e (v := (.slice A2 (((List.range k).map (nibI s)).length) c2))) ?_)
      refine V.pt h113 fun a h114 => ?_
      refine V.re h114 [] 1 0 [(2, .string (strI ((List.range k).map (nibI s)))), (3, .bool true)] fun a h115 => k112 _ _ ?_
      refine V.ret ?_
      refine V.r2 h115 (.string (strI ((List.range k).map (nibI s)))) (.bool true) ?_
      have hke : k = s.size / 2 := by omega
      subst hke
      obtain ⟨hq1, hq2⟩ := uh_yes (s := s) (by assumption) (.inr ⟨by assumption, by omega, hG.le (by omega)⟩)
      exact ⟨by rw [← hq1, ← hq2]; try rfl, hF_50⟩
/-! ### A text cut in two -/
def cuA (s : ByteArray) (c : UInt8) : ByteArray := ⟨(Lib.cut s.data.toList [c]).1.toArray⟩
def cuB (s : ByteArray) (c : UInt8) : ByteArray := ⟨(Lib.cut s.data.toList [c]).2.1.toArray⟩
def cuF (s : ByteArray) (c : UInt8) : Bool := (Lib.cut s.data.toList [c]).2.2
theorem cu_len (s : ByteArray) (c : UInt8) : (cuA s c).size ≤ s.size ∧ (cuB s c).size ≤ s.size := by
  have h0 : s.data.toList.length = s.size := Array.length_toList
  have h1 : (cuA s c).size = (Lib.cut s.data.toList [c]).1.length := List.size_toArray
  have h2 : (cuB s c).size = (Lib.cut s.data.toList [c]).2.1.length := List.size_toArray
  rw [h1, h2]
  unfold Lib.cut
  split
  · exact ⟨by rw [List.length_take]; omega, by rw [List.length_drop]; omega⟩
  · exact ⟨Nat.le_of_eq h0, Nat.zero_le _⟩
theorem fr_drewN (w : World) : ∀ n, Fr [] w (w.drewN n) := fun n => ⟨rfl, rfl, rfl, Nat.le_refl _, fun _ _ _ => rfl⟩
theorem cu_any (w : World) (s : ByteArray) (c : UInt8) (hs : s.size < 4294967281) (hV : Vs w) : Calls Tryz.prog 43 #[.string s, .string ⟨#[c]⟩] w fun e w' => e = .returned (.tuple #[.string (cuA s c), .string (cuB s c), .bool (cuF s c)]) ∧ Fr [] w w' := by
  obtain ⟨m, hm⟩ := hV.mx
  exact (Tryz.strings_Cut s ⟨#[c]⟩ m w hs hm).mono fun e w' ⟨h1, n, h2⟩ => ⟨h1, h2 ▸ fr_drewN w n⟩
theorem prC_0 {s : ByteArray} : prC s = 0 ↔ prOk s := by
  unfold prC
  constructor
  · intro h; split at h
    · assumption
    · cases h
  · intro h; rw [if_pos h]
theorem nb_no {p : Prop} (h : (!(bP p)) = true) : ¬ p := fun hp => by rw [← bP_yes hp] at h; cases h
theorem nb_yes {p : Prop} (h : ¬ (!(bP p)) = true) : p := bP_of (by simpa using h)
theorem nf_no {b : Bool} (h : (!b) = true) : ¬ b = true := fun hb => by rw [hb] at h; cases h
theorem nf_yes {b : Bool} (h : ¬ (!b) = true) : b = true := by simpa using h
theorem part_s (w : World) (b : Nat) (key s : ByteArray) (till : Int) (x : ByteArray) (hB : Blk w b [.string key, .int .i64 1, .string s, .slice none 0 0, .slice none 0 0, .slice none 0 0, .int .i64 till] 55) (hx : x.size ≤ 67108864) (hb8 : 8 ≤ b) (hV : Vs w) : Calls Tryz.prog 91 #[.pointer (some ⟨b, 1, none⟩), .string x] w (fun e w' => e = .returned (.bool (bP (uhOk x))) ∧ (uhOk x → Blk w' b [.string key, .int .i64 1, .string (unhexS x), .slice none 0 0, .slice none 0 0, .slice none 0 0, .int .i64 till] 55) ∧ Below b w w') := by
 have hL := Below.refl b w
 have hltb := hB.lt
 refine V.en 107 Tryz.func91 fun a h1 => ?_
 refine V.sr h1 [] 4 4 [] fun a h4 => ?_
 refine V.sr h4 [] 14 14 [(5, .string x), (6, .string ⟨#[]⟩), (7, .bool false)] fun a h7 => ?_
 refine V.seq fun K8 k9 => ?_
 refine V.sr h7 [(3, .b hB 1)] 15 17 [(18, .int .i64 1)] fun a h12 => ?_
 refine V.block ?_
 refine V.sr h12 [] 20 20 [(19, .bool false)] fun a h15 => ?_
 refine V.cf h15 ?_
 refine V.sr h15 [] 28 28 [(27, .bool false)] fun a h18 => ?_
 refine V.cf h18 ?_
 refine V.rr h18 [] 1 0 [(7, .bool true)] fun a h19 => ?_
 refine V.blk_n ?_
 refine V.then_n (k9 _ _ ?_)
 refine V.sg fun K20 k21 => ?_
 refine V.run h19 [] 1 1 0 [(36, .string x)] fun a h22 => ?_
 refine V.cl h22 (Go.Proofs.enters_of Tryz.func89 (by kernel_rfl) rfl) (unhex_any w x (by omega)) ?_
 rintro _ w24 ⟨rfl, hF23⟩
 refine ⟨_, rfl, fun a h25 => ?_⟩
 have hsw24 := hF23.size
 have hL_26 := bel_fr hL hF23 (by omega) (by simp <;> omega)
 have hB_27 := hB.fr0 hF23
 refine V.re h25 [] 35 39 [(8, .string (unhexS x)), (9, .bool (bP (uhOk x)))] fun a h28 => k21 _ _ ?_
 refine V.seq fun K29 k30 => ?_
 refine V.sg fun K31 k32 => ?_
 refine V.run h28 [] 3 40 41 [(42, .bool (!(bP (uhOk x))))] fun a h33 => ?_
 by_cases hg34 : (!(bP (uhOk x))) = true
 ·
  have h35 := h33.kbt 42 hg34
  refine V.re h35 [] 43 44 [(45, .bool true)] fun a h36 => k32 _ _ ?_
  refine V.ct h36 ?_
  refine V.sr h36 [] 1 0 [(4, .bool false)] fun a h39 => ?_
  refine V.ret (V.then_r ?_)
  refine V.r1 h39 (.bool false) ?_
  exact ⟨congrArg (fun b => Ending.returned (Value.bool b)) (bP_no (nb_no (by assumption))), fun hq => absurd hq (nb_no (by assumption)), hL_26⟩
 ·
  have h40 := h33.kbf 42 hg34
  refine V.re h40 [] 43 44 [(45, .bool false)] fun a h41 => k32 _ _ ?_
  refine V.cf h41 ?_
  refine V.skip ?_
  refine V.then_n (k30 _ _ ?_)
  refine V.seq fun K42 k43 => ?_
  refine V.sr h41 [(3, .b hB_27 1)] 46 48 [(49, .int .i64 1)] fun a h46 => ?_
  refine V.block ?_
  refine V.sr h46 [] 61 61 [(60, .bool true)] fun a h49 => ?_
  refine V.ct h49 ?_
  refine V.rg ?_
  refine V.run h49 [] 4 62 64 [(63, .string (unhexS x)), (65, .pointer (some ⟨b, 2, none⟩))] fun a h53 => ?_
  refine V.go (V.stn b 2 (.string (unhexS x)) [.string (unhexS x)] h53.e h53.e rfl rfl (by kernel_rfl) hB_27 (by simp) [.string key, .int .i64 1, .string (unhexS x), .slice none 0 0, .slice none 0 0, .slice none 0 0, .int .i64 till] rfl ?_)
  intro w50 hB51 hF52 hsw50
  have hL_54 := bel_fr hL_26 hF52 (by omega) (by simp <;> omega)
  refine V.nil ?_
  refine V.blk_n ?_
  refine V.then_n (k43 _ _ ?_)
  refine V.sr h53 [] 1 0 [(4, .bool true)] fun a h57 => ?_
  refine V.ret ?_
  refine V.r1 h57 (.bool true) ?_
  exact ⟨congrArg (fun b => Ending.returned (Value.bool b)) (bP_yes (nb_yes (by assumption))), fun _ => hB51, hL_54⟩
theorem part_l (w : World) (b : Nat) (key s : ByteArray) (till : Int) (x : ByteArray) (A : Option Addr) (c : Nat) (l : List ByteArray) (k : Int) (hB : Blk w b [.string key, .int .i64 k, .string s, .slice A l.length c, .slice none 0 0, .slice none 0 0, .int .i64 till] 55) (hO : OwR Rp.str NoZ w (b + 1) 9 (.slice A l.length c) l) (hl : l.length ≤ 1099511627776) (hk1 : ¬ k = 1) (hk4 : ¬ k = 4) (hk5 : ¬ k = 5) (hx : x.size ≤ 67108864) (hb8 : 8 ≤ b) (hV : Vs w) : Calls Tryz.prog 91 #[.pointer (some ⟨b, 1, none⟩), .string x] w (fun e w' => ∃ A' c', e = .returned (.bool (bP (uhOk x))) ∧ (uhOk x → Blk w' b [.string key, .int .i64 k, .string s, .slice A' (l.length + 1) c', .slice none 0 0, .slice none 0 0, .int .i64 till] 55 ∧ OwR Rp.str NoZ w' (b + 1) 9 (.slice A' (l.length + 1) c') (l ++ [unhexS x])) ∧ Below b w w') := by
 have hL := Below.refl b w
 have hltb := hB.lt
 refine V.en 107 Tryz.func91 fun a h1 => ?_
 refine V.sr h1 [] 4 4 [] fun a h4 => ?_
 refine V.sr h4 [] 14 14 [(5, .string x), (6, .string ⟨#[]⟩), (7, .bool false)] fun a h7 => ?_
 refine V.seq fun K8 k9 => ?_
 refine V.sr h7 [(3, .b hB 1)] 15 17 [(18, .int .i64 k)] fun a h12 => ?_
 refine V.block ?_
 refine V.sr h12 [(0, .eq k 4)] 20 20 [(19, .bool (decide (k = 4)))] fun a h15 => ?_
 refine V.cp h15 (k = 4) (fun ht16 => ?_) (fun ht16 => ?_)
 · exact absurd ht16 (by omega)
 ·
  refine V.sr h15 [(0, .eq k 5)] 28 28 [(27, .bool (decide (k = 5)))] fun a h19 => ?_
  refine V.cp h19 (k = 5) (fun ht20 => ?_) (fun ht20 => ?_)
  · exact absurd ht20 (by omega)
  ·
   refine V.rr h19 [] 1 0 [(7, .bool true)] fun a h21 => ?_
   refine V.blk_n ?_
   refine V.then_n (k9 _ _ ?_)
   refine V.sg fun K22 k23 => ?_
   refine V.run h21 [] 1 1 0 [(36, .string x)] fun a h24 => ?_
   refine V.cl h24 (Go.Proofs.enters_of Tryz.func89 (by kernel_rfl) rfl) (unhex_any w x (by omega)) ?_
   rintro _ w26 ⟨rfl, hF25⟩
   refine ⟨_, rfl, fun a h27 => ?_⟩
   have hsw26 := hF25.size
   have hL_28 := bel_fr hL hF25 (by omega) (by simp <;> omega)
   have hB_29 := hB.fr0 hF25
   have hO_30 := hO.fr0 hF25
   refine V.re h27 [] 35 39 [(8, .string (unhexS x)), (9, .bool (bP (uhOk x)))] fun a h31 => k23 _ _ ?_
   refine V.seq fun K32 k33 => ?_
   refine V.sg fun K34 k35 => ?_
   refine V.run h31 [] 3 40 41 [(42, .bool (!(bP (uhOk x))))] fun a h36 => ?_
   by_cases hg37 : (!(bP (uhOk x))) = true
   ·
    have h38 := h36.kbt 42 hg37
    refine V.re h38 [] 43 44 [(45, .bool true)] fun a h39 => k35 _ _ ?_
    refine V.ct h39 ?_
    refine V.sr h39 [] 1 0 [(4, .bool false)] fun a h42 => ?_
    refine V.ret (V.then_r ?_)
    refine V.r1 h42 (.bool false) ?_
    exact ⟨none, 0, congrArg (fun b => Ending.returned (Value.bool b)) (bP_no (nb_no (by assumption))), fun hq => absurd hq (nb_no (by assumption)), hL_28⟩
   ·
    have h43 := h36.kbf 42 hg37
    refine V.re h43 [] 43 44 [(45, .bool false)] fun a h44 => k35 _ _ ?_
    refine V.cf h44 ?_
    refine V.skip ?_
    refine V.then_n (k33 _ _ ?_)
    refine V.seq fun K45 k46 => ?_
    refine V.sr h44 [(3, .b hB_29 1)] 46 48 [(49, .int .i64 k)] fun a h49 => ?_
    refine V.block ?_
    refine V.sr h49 [(0, .eq k 1)] 61 61 [(60, .bool (decide (k = 1)))] fun a h52 => ?_
    refine V.cp h52 (k = 1) (fun ht53 => ?_) (fun ht53 => ?_)
    · exact absurd ht53 (by omega)
    ·
     refine V.sg fun K54 k55 => ?_
     refine V.run h52 [(0, .eq k 4)] 1 1 0 [(67, .bool (decide (k = 4)))] fun a h56 => ?_
     have h57 := h56.kf 67 ht16
     refine V.re h57 [] 1 0 [(66, .bool false)] fun a h58 => k55 _ _ ?_
     refine V.cf h58 ?_
     refine V.sg fun K59 k60 => ?_
     refine V.run h58 [(0, .eq k 5)] 1 1 0 [(88, .bool (decide (k = 5)))] fun a h61 => ?_
     have h62 := h61.kf 88 ht20
     refine V.re h62 [] 1 0 [(87, .bool false)] fun a h63 => k60 _ _ ?_
     refine V.cf h63 ?_
     refine V.rg ?_
     refine V.run h63 [(4, .b hB_29 3)] 6 51 53 [(50, .pointer (some ⟨b, 1, none⟩)), (54, .slice A l.length c), (55, .string (unhexS x))] fun a h64 => ?_
     refine V.go (V.mk [(55, .string (unhexS x))] ⟨h64.e, trivial⟩ (by kernel_rfl) [.string (unhexS x)] 9 (fun b => .slice (some ⟨b, 0, none⟩) 1 1) (by kernel_rfl) ?_)
     intro w66 b65 heb65 hB67 hF68 hsb65
     have hL_69 := bel_fr hL_28 hF68 (by omega) (by simp <;> omega)
     have hB_70 := hB_29.fr0 hF68
     have hO_71 := hO_30.fr0 hF68
     refine V.pt h64 fun a h72 => ?_
     refine V.go (V.app (R := Rp.str) (ys := ([unhexS x])) (news := [.string (unhexS x)]) (h72.e (v := (.slice A l.length c))) ⟨b65, 0, none⟩ 1 1 (h72.e (v := (.slice (some ⟨b65, 0, none⟩) 1 1))) (by kernel_rfl) (info9) (by kernel_rfl) (by decide) hO_71 rfl ⟨_, [], rfl, rfl, rfl⟩ (blk_cells hB67 0 _ rfl) (by first | omega | (simp; omega)) (by decide) (by omega) ?_)
     intro A73 c74 w75 hO76z hF77 hatw75
     have hsw75 := hF77.size
     have hL_78 := bel_fr hL_69 hF77 (by omega) (own_ge hO_71 (by omega))
     have hB_79 := hB_70.fr hF77 (by first | exact own_notin hO_71 (by omega))
     have hO76 := hO76z.zone (Z' := NoZ) (fun _ _ q => q.1) (fun _ _ q => q)
     refine V.pt h72 fun a h80 => ?_
     refine V.run h80 [] 2 58 58 [(59, .pointer (some ⟨b, 3, none⟩))] fun a h84 => ?_
     refine V.go (V.stn b 3 (.slice A73 ((l.length) + 1) c74) [.slice A73 ((l.length) + 1) c74] h84.e h84.e rfl rfl (by kernel_rfl) hB_79 (by simp) [.string key, .int .i64 k, .string s, .slice A73 ((l.length) + 1) c74, .slice none 0 0, .slice none 0 0, .int .i64 till] rfl ?_)
     intro w81 hB82 hF83 hsw81
     have hL_85 := bel_fr hL_78 hF83 (by omega) (by simp <;> omega)
     have hO76_86 := hO76.frn hF83 (fun h => h) (by first | exact own_ne hO76 (by omega) | exact own_ne2 hO76 (by omega))
     refine V.nil ?_
     refine V.blk_n ?_
     refine V.then_n (k46 _ _ ?_)
     have h87 := h84.only []
     refine V.sr h87 [] 1 0 [(4, .bool true)] fun a h90 => ?_
     refine V.ret ?_
     refine V.r1 h90 (.bool true) ?_
     exact ⟨_, _, congrArg (fun b => Ending.returned (Value.bool b)) (bP_yes (nb_yes (by assumption))), fun _ => ⟨hB82, hO76_86⟩, hL_85⟩
theorem part_z (w : World) (b : Nat) (key s : ByteArray) (till : Int) (x : ByteArray) (A : Option Addr) (c : Nat) (l : List (ByteArray × Int)) (hB : Blk w b [.string key, .int .i64 4, .string s, .slice none 0 0, .slice A l.length c, .slice none 0 0, .int .i64 till] 55) (hO : OwR scR NoZ w (b + 1) 98 (.slice A l.length c) l) (hl : l.length ≤ 1099511627776) (hx : x.size ≤ 67108864) (hb8 : 8 ≤ b) (hV : Vs w) : Calls Tryz.prog 91 #[.pointer (some ⟨b, 1, none⟩), .string x] w (fun e w' => ∃ A' c', e = .returned (.bool (bP (cuF x 58 = true ∧ uhOk (cuA x 58) ∧ prOk (cuB x 58)))) ∧ ((cuF x 58 = true ∧ uhOk (cuA x 58) ∧ prOk (cuB x 58)) → Blk w' b [.string key, .int .i64 4, .string s, .slice none 0 0, .slice A' (l.length + 1) c', .slice none 0 0, .int .i64 till] 55 ∧ OwR scR NoZ w' (b + 1) 98 (.slice A' (l.length + 1) c') (l ++ [(unhexS (cuA x 58), prN (cuB x 58))])) ∧ Below b w w') := by
 have hL := Below.refl b w
 have hltb := hB.lt
 refine V.en 107 Tryz.func91 fun a h1 => ?_
 refine V.sr h1 [] 4 4 [] fun a h4 => ?_
 refine V.sr h4 [] 14 14 [(5, .string x), (6, .string ⟨#[]⟩), (7, .bool false)] fun a h7 => ?_
 refine V.seq fun K8 k9 => ?_
 refine V.sr h7 [(3, .b hB 1)] 15 17 [(18, .int .i64 4)] fun a h12 => ?_
 refine V.block ?_
 refine V.sr h12 [] 20 20 [(19, .bool true)] fun a h15 => ?_
 refine V.ct h15 ?_
 refine V.rg ?_
 refine V.run h15 [] 1 1 0 [(22, .string x)] fun a h16 => ?_
 have hcl18 := cu_len x 58
 refine V.cl h16 (Go.Proofs.enters_of Tryz.func43 (by kernel_rfl) rfl) (cu_any w x 58 (by omega) (hV.bel hL hb8)) ?_
 rintro _ w19 ⟨rfl, hF17⟩
 refine ⟨_, rfl, fun a h20 => ?_⟩
 have hsw19 := hF17.size
 have hL_21 := bel_fr hL hF17 (by omega) (by simp <;> omega)
 have hB_22 := hB.fr0 hF17
 have hO_23 := hO.fr0 hF17
 refine V.re h20 [] 21 26 [(5, .string (cuA x 58)), (6, .string (cuB x 58)), (7, .bool (cuF x 58))] fun a h24 => ?_
 refine V.blk_n ?_
 refine V.then_n (k9 _ _ ?_)
 refine V.sg fun K25 k26 => ?_
 refine V.run h24 [] 1 1 0 [(36, .string (cuA x 58))] fun a h27 => ?_
 refine V.cl h27 (Go.Proofs.enters_of Tryz.func89 (by kernel_rfl) rfl) (unhex_any w19 (cuA x 58) (by omega)) ?_
 rintro _ w29 ⟨rfl, hF28⟩
 refine ⟨_, rfl, fun a h30 => ?_⟩
 have hsw29 := hF28.size
 have hL_31 := bel_fr hL_21 hF28 (by omega) (by simp <;> omega)
 have hB_32 := hB_22.fr0 hF28
 have hO_33 := hO_23.fr0 hF28
 refine V.re h30 [] 35 39 [(8, .string (unhexS (cuA x 58))), (9, .bool (bP (uhOk (cuA x 58))))] fun a h34 => k26 _ _ ?_
 refine V.seq fun K35 k36 => ?_
 refine V.sg fun K37 k38 => ?_
 refine V.run h34 [] 3 40 41 [(42, .bool (!(bP (uhOk (cuA x 58)))))] fun a h39 => ?_
 by_cases hg40 : (!(bP (uhOk (cuA x 58)))) = true
 ·
  have h41 := h39.kbt 42 hg40
  refine V.re h41 [] 43 44 [(45, .bool true)] fun a h42 => k38 _ _ ?_
  refine V.ct h42 ?_
  refine V.sr h42 [] 1 0 [(4, .bool false)] fun a h45 => ?_
  refine V.ret (V.then_r ?_)
  refine V.r1 h45 (.bool false) ?_
  exact ⟨none, 0, congrArg (fun b => Ending.returned (Value.bool b)) (bP_no (fun ⟨q1, q2, q3⟩ => by first | exact nb_no (by assumption) q2 | exact nf_no (by assumption) q1)), fun hq => absurd hq (fun ⟨q1, q2, q3⟩ => by first | exact nb_no (by assumption) q2 | exact nf_no (by assumption) q1), hL_31⟩
 ·
  have h46 := h39.kbf 42 hg40
  refine V.re h46 [] 43 44 [(45, .bool (!(cuF x 58)))] fun a h47 => k38 _ _ ?_
  refine V.cb h47 (!(cuF x 58)) (fun ht48 => ?_) (fun ht48 => ?_)
  ·
   refine V.sr h47 [] 1 0 [(4, .bool false)] fun a h51 => ?_
   refine V.ret (V.then_r ?_)
   refine V.r1 h51 (.bool false) ?_
   exact ⟨none, 0, congrArg (fun b => Ending.returned (Value.bool b)) (bP_no (fun ⟨q1, q2, q3⟩ => by first | exact nb_no (by assumption) q2 | exact nf_no (by assumption) q1)), fun hq => absurd hq (fun ⟨q1, q2, q3⟩ => by first | exact nb_no (by assumption) q2 | exact nf_no (by assumption) q1), hL_31⟩
  ·
   refine V.skip ?_
   refine V.then_n (k36 _ _ ?_)
   refine V.seq fun K52 k53 => ?_
   refine V.sr h47 [(3, .b hB_32 1)] 46 48 [(49, .int .i64 4)] fun a h56 => ?_
   refine V.block ?_
   refine V.sr h56 [] 61 61 [(60, .bool false)] fun a h59 => ?_
   refine V.cf h59 ?_
   refine V.sr h59 [] 67 67 [(66, .bool true)] fun a h62 => ?_
   refine V.ct h62 ?_
   refine V.sg fun K63 k64 => ?_
   refine V.run h62 [] 1 1 0 [(69, .string (cuB x 58))] fun a h65 => ?_
   refine V.cl h65 (Go.Proofs.enters_of Tryz.func90 (by kernel_rfl) rfl) (parse_any w29 (cuB x 58) (by omega) (hV.bel hL_31 hb8)) ?_
   rintro _ w67 ⟨rfl, hF66⟩
   refine ⟨_, rfl, fun a h68 => ?_⟩
   have hsw67 := hF66.size
   have hL_69 := bel_fr hL_31 hF66 (by omega) (by simp <;> omega)
   have hB_70 := hB_32.fr0 hF66
   have hO_71 := hO_33.fr0 hF66
   refine V.re h68 [] 68 72 [(10, .int .i64 (prN (cuB x 58))), (11, .int .i64 (prC (cuB x 58)))] fun a h72 => k64 _ _ ?_
   have h73 := h72.only [(0, .pointer (some ⟨b, 1, none⟩)), (8, .string (unhexS (cuA x 58))), (10, .int .i64 (prN (cuB x 58))), (11, .int .i64 (prC (cuB x 58)))]
   refine V.sg fun K74 k75 => ?_
   refine V.run h73 [(4, .b hB_70 4)] 8 74 79 [(73, .pointer (some ⟨b, 1, none⟩)), (77, .slice A l.length c), (80, .agg #[.string (unhexS (cuA x 58)), .int .i64 (prN (cuB x 58))])] fun a h76 => ?_
   refine V.go (V.mk [(80, .agg #[.string (unhexS (cuA x 58)), .int .i64 (prN (cuB x 58))])] ⟨h76.e, trivial⟩ (by kernel_rfl) [.string (unhexS (cuA x 58)), .int .i64 (prN (cuB x 58))] 98 (fun b => .slice (some ⟨b, 0, none⟩) 1 1) (by kernel_rfl) ?_)
   intro w78 b77 heb77 hB79 hF80 hsb77
   have hL_81 := bel_fr hL_69 hF80 (by omega) (by simp <;> omega)
   have hB_82 := hB_70.fr0 hF80
   have hO_83 := hO_71.fr0 hF80
   refine V.pt h76 fun a h84 => ?_
   refine V.go (V.app (R := scR) (ys := ([(unhexS (cuA x 58), prN (cuB x 58))])) (news := [.string (unhexS (cuA x 58)), .int .i64 (prN (cuB x 58))]) (h84.e (v := (.slice A l.length c))) ⟨b77, 0, none⟩ 1 1 (h84.e (v := (.slice (some ⟨b77, 0, none⟩) 1 1))) (by kernel_rfl) (info98) (by kernel_rfl) (by decide) hO_83 rfl ⟨[.string (unhexS (cuA x 58)), .int .i64 (prN (cuB x 58))], [], rfl, rfl, rfl⟩ (blk_cells hB79 0 _ rfl) (by first | omega | (simp; omega)) (by decide) (by omega) ?_)
   intro A85 c86 w87 hO88z hF89 hatw87
   have hsw87 := hF89.size
   have hL_90 := bel_fr hL_81 hF89 (by omega) (own_ge hO_83 (by omega))
   have hB_91 := hB_82.fr hF89 (by first | exact own_notin hO_83 (by omega))
   have hO88 := hO88z.zone (Z' := NoZ) (fun _ _ q => q.1) (fun _ _ q => q)
   refine V.pt h84 fun a h92 => ?_
   refine V.run h92 [] 2 83 83 [(84, .pointer (some ⟨b, 4, none⟩))] fun a h96 => ?_
   refine V.go (V.stn b 4 (.slice A85 ((l.length) + 1) c86) [.slice A85 ((l.length) + 1) c86] h96.e h96.e rfl rfl (by kernel_rfl) hB_91 (by simp) [.string key, .int .i64 4, .string s, .slice none 0 0, .slice A85 ((l.length) + 1) c86, .slice none 0 0, .int .i64 till] rfl ?_)
   intro w93 hB94 hF95 hsw93
   have hL_97 := bel_fr hL_90 hF95 (by omega) (by simp <;> omega)
   have hO88_98 := hO88.frn hF95 (fun h => h) (by first | exact own_ne hO88 (by omega) | exact own_ne2 hO88 (by omega))
   refine V.nt (k75 _ _ ?_)
   refine V.sr h96 [(1, .eq (prC (cuB x 58)) 0)] 85 86 [(4, .bool (decide ((prC (cuB x 58)) = 0)))] fun a h101 => ?_
   refine V.ret (V.blk_r (V.then_r ?_))
   refine V.r1 h101 (.bool (decide ((prC (cuB x 58)) = 0))) ?_
   exact ⟨_, _, congrArg (fun b => Ending.returned (Value.bool b)) ((bP_dec (p := prC (cuB x 58) = 0)).trans (congrArg bP (propext ⟨fun q => ⟨nf_yes (by assumption), nb_yes (by assumption), prC_0.1 q⟩, fun q => prC_0.2 q.2.2⟩))), fun _ => ⟨hB94, hO88_98⟩, hL_97⟩
theorem part_h (w : World) (b : Nat) (key s : ByteArray) (till : Int) (x : ByteArray) (A : Option Addr) (c : Nat) (l : List (ByteArray × ByteArray)) (hB : Blk w b [.string key, .int .i64 5, .string s, .slice none 0 0, .slice none 0 0, .slice A l.length c, .int .i64 till] 55) (hO : OwR fdR NoZ w (b + 1) 101 (.slice A l.length c) l) (hl : l.length ≤ 1099511627776) (hx : x.size ≤ 67108864) (hb8 : 8 ≤ b) (hV : Vs w) : Calls Tryz.prog 91 #[.pointer (some ⟨b, 1, none⟩), .string x] w (fun e w' => ∃ A' c', e = .returned (.bool (bP (cuF x 61 = true ∧ uhOk (cuA x 61) ∧ uhOk (cuB x 61)))) ∧ ((cuF x 61 = true ∧ uhOk (cuA x 61) ∧ uhOk (cuB x 61)) → Blk w' b [.string key, .int .i64 5, .string s, .slice none 0 0, .slice none 0 0, .slice A' (l.length + 1) c', .int .i64 till] 55 ∧ OwR fdR NoZ w' (b + 1) 101 (.slice A' (l.length + 1) c') (l ++ [(unhexS (cuA x 61), unhexS (cuB x 61))])) ∧ Below b w w') := by
 have hL := Below.refl b w
 have hltb := hB.lt
 refine V.en 107 Tryz.func91 fun a h1 => ?_
 refine V.sr h1 [] 4 4 [] fun a h4 => ?_
 refine V.sr h4 [] 14 14 [(5, .string x), (6, .string ⟨#[]⟩), (7, .bool false)] fun a h7 => ?_
 refine V.seq fun K8 k9 => ?_
 refine V.sr h7 [(3, .b hB 1)] 15 17 [(18, .int .i64 5)] fun a h12 => ?_
 refine V.block ?_
 refine V.sr h12 [] 20 20 [(19, .bool false)] fun a h15 => ?_
 refine V.cf h15 ?_
 refine V.sr h15 [] 28 28 [(27, .bool true)] fun a h18 => ?_
 refine V.ct h18 ?_
 refine V.rg ?_
 refine V.run h18 [] 1 1 0 [(30, .string x)] fun a h19 => ?_
 have hcl21 := cu_len x 61
 refine V.cl h19 (Go.Proofs.enters_of Tryz.func43 (by kernel_rfl) rfl) (cu_any w x 61 (by omega) (hV.bel hL hb8)) ?_
 rintro _ w22 ⟨rfl, hF20⟩
 refine ⟨_, rfl, fun a h23 => ?_⟩
 have hsw22 := hF20.size
 have hL_24 := bel_fr hL hF20 (by omega) (by simp <;> omega)
 have hB_25 := hB.fr0 hF20
 have hO_26 := hO.fr0 hF20
 refine V.re h23 [] 29 34 [(5, .string (cuA x 61)), (6, .string (cuB x 61)), (7, .bool (cuF x 61))] fun a h27 => ?_
 refine V.blk_n ?_
 refine V.then_n (k9 _ _ ?_)
 refine V.sg fun K28 k29 => ?_
 refine V.run h27 [] 1 1 0 [(36, .string (cuA x 61))] fun a h30 => ?_
 refine V.cl h30 (Go.Proofs.enters_of Tryz.func89 (by kernel_rfl) rfl) (unhex_any w22 (cuA x 61) (by omega)) ?_
 rintro _ w32 ⟨rfl, hF31⟩
 refine ⟨_, rfl, fun a h33 => ?_⟩
 have hsw32 := hF31.size
 have hL_34 := bel_fr hL_24 hF31 (by omega) (by simp <;> omega)
 have hB_35 := hB_25.fr0 hF31
 have hO_36 := hO_26.fr0 hF31
 refine V.re h33 [] 35 39 [(8, .string (unhexS (cuA x 61))), (9, .bool (bP (uhOk (cuA x 61))))] fun a h37 => k29 _ _ ?_
 refine V.seq fun K38 k39 => ?_
 refine V.sg fun K40 k41 => ?_
 refine V.run h37 [] 3 40 41 [(42, .bool (!(bP (uhOk (cuA x 61)))))] fun a h42 => ?_
 by_cases hg43 : (!(bP (uhOk (cuA x 61)))) = true
 ·
  have h44 := h42.kbt 42 hg43
  refine V.re h44 [] 43 44 [(45, .bool true)] fun a h45 => k41 _ _ ?_
  refine V.ct h45 ?_
  refine V.sr h45 [] 1 0 [(4, .bool false)] fun a h48 => ?_
  refine V.ret (V.then_r ?_)
  refine V.r1 h48 (.bool false) ?_
  exact ⟨none, 0, congrArg (fun b => Ending.returned (Value.bool b)) (bP_no (fun ⟨q1, q2, q3⟩ => by first | exact nb_no (by assumption) q2 | exact nf_no (by assumption) q1)), fun hq => absurd hq (fun ⟨q1, q2, q3⟩ => by first | exact nb_no (by assumption) q2 | exact nf_no (by assumption) q1), hL_34⟩
 ·
  have h49 := h42.kbf 42 hg43
  refine V.re h49 [] 43 44 [(45, .bool (!(cuF x 61)))] fun a h50 => k41 _ _ ?_
  refine V.cb h50 (!(cuF x 61)) (fun ht51 => ?_) (fun ht51 => ?_)
  ·
   refine V.sr h50 [] 1 0 [(4, .bool false)] fun a h54 => ?_
   refine V.ret (V.then_r ?_)
   refine V.r1 h54 (.bool false) ?_
   exact ⟨none, 0, congrArg (fun b => Ending.returned (Value.bool b)) (bP_no (fun ⟨q1, q2, q3⟩ => by first | exact nb_no (by assumption) q2 | exact nf_no (by assumption) q1)), fun hq => absurd hq (fun ⟨q1, q2, q3⟩ => by first | exact nb_no (by assumption) q2 | exact nf_no (by assumption) q1), hL_34⟩
  ·
   refine V.skip ?_
   refine V.then_n (k39 _ _ ?_)
   refine V.seq fun K55 k56 => ?_
   refine V.sr h50 [(3, .b hB_35 1)] 46 48 [(49, .int .i64 5)] fun a h59 => ?_
   refine V.block ?_
   refine V.sr h59 [] 61 61 [(60, .bool false)] fun a h62 => ?_
   refine V.cf h62 ?_
   refine V.sr h62 [] 67 67 [(66, .bool false)] fun a h65 => ?_
   refine V.cf h65 ?_
   refine V.sr h65 [] 88 88 [(87, .bool true)] fun a h68 => ?_
   refine V.ct h68 ?_
   refine V.sg fun K69 k70 => ?_
   refine V.run h68 [] 1 1 0 [(90, .string (cuB x 61))] fun a h71 => ?_
   refine V.cl h71 (Go.Proofs.enters_of Tryz.func89 (by kernel_rfl) rfl) (unhex_any w32 (cuB x 61) (by omega)) ?_
   rintro _ w73 ⟨rfl, hF72⟩
   refine ⟨_, rfl, fun a h74 => ?_⟩
   have hsw73 := hF72.size
   have hL_75 := bel_fr hL_34 hF72 (by omega) (by simp <;> omega)
   have hB_76 := hB_35.fr0 hF72
   have hO_77 := hO_36.fr0 hF72
   refine V.re h74 [] 89 93 [(12, .string (unhexS (cuB x 61))), (13, .bool (bP (uhOk (cuB x 61))))] fun a h78 => k70 _ _ ?_
   have h79 := h78.only [(0, .pointer (some ⟨b, 1, none⟩)), (8, .string (unhexS (cuA x 61))), (12, .string (unhexS (cuB x 61))), (13, .bool (bP (uhOk (cuB x 61))))]
   refine V.sg fun K80 k81 => ?_
   refine V.run h79 [(4, .b hB_76 5)] 8 95 100 [(94, .pointer (some ⟨b, 1, none⟩)), (98, .slice A l.length c), (101, .agg #[.string (unhexS (cuA x 61)), .string (unhexS (cuB x 61))])] fun a h82 => ?_
   refine V.go (V.mk [(101, .agg #[.string (unhexS (cuA x 61)), .string (unhexS (cuB x 61))])] ⟨h82.e, trivial⟩ (by kernel_rfl) [.string (unhexS (cuA x 61)), .string (unhexS (cuB x 61))] 101 (fun b => .slice (some ⟨b, 0, none⟩) 1 1) (by kernel_rfl) ?_)
   intro w84 b83 heb83 hB85 hF86 hsb83
   have hL_87 := bel_fr hL_75 hF86 (by omega) (by simp <;> omega)
   have hB_88 := hB_76.fr0 hF86
   have hO_89 := hO_77.fr0 hF86
   refine V.pt h82 fun a h90 => ?_
   refine V.go (V.app (R := fdR) (ys := ([(unhexS (cuA x 61), unhexS (cuB x 61))])) (news := [.string (unhexS (cuA x 61)), .string (unhexS (cuB x 61))]) (h90.e (v := (.slice A l.length c))) ⟨b83, 0, none⟩ 1 1 (h90.e (v := (.slice (some ⟨b83, 0, none⟩) 1 1))) (by kernel_rfl) (info101) (by kernel_rfl) (by decide) hO_89 rfl ⟨[.string (unhexS (cuA x 61)), .string (unhexS (cuB x 61))], [], rfl, rfl, rfl⟩ (blk_cells hB85 0 _ rfl) (by first | omega | (simp; omega)) (by decide) (by omega) ?_)
   intro A91 c92 w93 hO94z hF95 hatw93
   have hsw93 := hF95.size
   have hL_96 := bel_fr hL_87 hF95 (by omega) (own_ge hO_89 (by omega))
   have hB_97 := hB_88.fr hF95 (by first | exact own_notin hO_89 (by omega))
   have hO94 := hO94z.zone (Z' := NoZ) (fun _ _ q => q.1) (fun _ _ q => q)
   refine V.pt h90 fun a h98 => ?_
   refine V.run h98 [] 2 104 104 [(105, .pointer (some ⟨b, 5, none⟩))] fun a h102 => ?_
   refine V.go (V.stn b 5 (.slice A91 ((l.length) + 1) c92) [.slice A91 ((l.length) + 1) c92] h102.e h102.e rfl rfl (by kernel_rfl) hB_97 (by simp) [.string key, .int .i64 5, .string s, .slice none 0 0, .slice none 0 0, .slice A91 ((l.length) + 1) c92, .int .i64 till] rfl ?_)
   intro w99 hB100 hF101 hsw99
   have hL_103 := bel_fr hL_96 hF101 (by omega) (by simp <;> omega)
   have hO94_104 := hO94.frn hF101 (fun h => h) (by first | exact own_ne hO94 (by omega) | exact own_ne2 hO94 (by omega))
   refine V.nt (k81 _ _ ?_)
   refine V.sr h102 [] 106 106 [(4, .bool (bP (uhOk (cuB x 61))))] fun a h107 => ?_
   refine V.ret (V.blk_r (V.then_r ?_))
   refine V.r1 h107 (.bool (bP (uhOk (cuB x 61)))) ?_
   exact ⟨_, _, congrArg (fun b => Ending.returned (Value.bool b)) (congrArg bP (propext ⟨fun q => ⟨nf_yes (by assumption), nb_yes (by assumption), q⟩, fun q => q.2.2⟩)), fun _ => ⟨hB100, hO94_104⟩, hL_103⟩
/-! ### An entry that is being built -/
def EnB (w : World) (b : Nat) (e : EnD) : Prop :=
  ∃ Al cl Az cz Ah ch, Blk w b [.string e.key, .int .i64 e.k, .string e.s, .slice Al e.l.length cl, .slice Az e.z.length cz, .slice Ah e.h.length ch, .int .i64 e.till] 55 ∧
    OwR Rp.str NoZ w (b + 1) 9 (.slice Al e.l.length cl) e.l ∧ OwR scR NoZ w (b + 1) 98 (.slice Az e.z.length cz) e.z ∧ OwR fdR NoZ w (b + 1) 101 (.slice Ah e.h.length ch) e.h ∧
    (e.k = 1 ∨ e.k = 4 ∨ e.k = 5 → Al = none ∧ cl = 0 ∧ e.l = []) ∧ (¬ e.k = 4 → Az = none ∧ cz = 0 ∧ e.z = []) ∧ (¬ e.k = 5 → Ah = none ∧ ch = 0 ∧ e.h = [])
def ptOk (k : Int) (x : ByteArray) : Prop := if k = 4 then (cuF x 58 = true ∧ uhOk (cuA x 58) ∧ prOk (cuB x 58)) else if k = 5 then (cuF x 61 = true ∧ uhOk (cuA x 61) ∧ uhOk (cuB x 61)) else uhOk x
noncomputable def ptE (e : EnD) (x : ByteArray) : EnD :=
  if e.k = 1 then ⟨e.key, e.k, unhexS x, e.l, e.z, e.h, e.till⟩ else if e.k = 4 then ⟨e.key, e.k, e.s, e.l, e.z ++ [(unhexS (cuA x 58), prN (cuB x 58))], e.h, e.till⟩
  else if e.k = 5 then ⟨e.key, e.k, e.s, e.l, e.z, e.h ++ [(unhexS (cuA x 61), unhexS (cuB x 61))], e.till⟩ else ⟨e.key, e.k, e.s, e.l ++ [unhexS x], e.z, e.h, e.till⟩
theorem len1 {α : Type} (l : List α) (x : α) : (l ++ [x]).length = l.length + 1 := by simp
theorem part_any (w : World) (b : Nat) (e : EnD) (x : ByteArray) (hE : EnB w b e) (hll : e.l.length ≤ 1099511627776) (hzl : e.z.length ≤ 1099511627776) (hhl : e.h.length ≤ 1099511627776) (hx : x.size ≤ 67108864) (hb8 : 8 ≤ b) (hV : Vs w) :
    Calls Tryz.prog 91 #[.pointer (some ⟨b, 1, none⟩), .string x] w fun o w' => o = .returned (.bool (bP (ptOk e.k x))) ∧ (ptOk e.k x → EnB w' b (ptE e x)) ∧ Below b w w' := by
  obtain ⟨key, k, s, l, z, h, till⟩ := e
  obtain ⟨Al, cl, Az, cz, Ah, ch, hB, hO1, hO2, hO3, h1, h2, h3⟩ := hE
  simp only at hB hO1 hO2 hO3 h1 h2 h3 hll hzl hhl
  by_cases k1 : k = 1
  · subst k1
    obtain ⟨rfl, rfl, rfl⟩ := h1 (.inl rfl)
    obtain ⟨rfl, rfl, rfl⟩ := h2 (by decide)
    obtain ⟨rfl, rfl, rfl⟩ := h3 (by decide)
    exact (part_s w b key s till x hB hx hb8 hV).mono fun o w' ⟨q1, q2, q3⟩ => ⟨q1, fun q => ⟨none, 0, none, 0, none, 0, q2 q, OwR.nil .., OwR.nil .., OwR.nil .., fun _ => ⟨rfl, rfl, rfl⟩, fun _ => ⟨rfl, rfl, rfl⟩, fun _ => ⟨rfl, rfl, rfl⟩⟩, q3⟩
  by_cases k4 : k = 4
  · subst k4
    obtain ⟨rfl, rfl, rfl⟩ := h1 (.inr (.inl rfl))
    obtain ⟨rfl, rfl, rfl⟩ := h3 (by decide)
    have e2 : ptE ⟨key, 4, s, [], z, [], till⟩ x = ⟨key, 4, s, [], z ++ [(unhexS (cuA x 58), prN (cuB x 58))], [], till⟩ := by unfold ptE; simp only; rw [if_neg (by decide), if_pos trivial]
    rw [e2]
    refine (part_z w b key s till x Az cz z hB hO2 hzl hx hb8 hV).mono fun o w' ⟨A', c', q1, q2, q3⟩ => ⟨q1, fun q => ?_, q3⟩
    obtain ⟨q4, q5⟩ := q2 q
    exact ⟨none, 0, A', c', none, 0, by rw [show (⟨key, 4, s, [], z ++ [(unhexS (cuA x 58), prN (cuB x 58))], [], till⟩ : EnD).z.length = z.length + 1 from len1 ..]; exact q4, OwR.nil .., by rw [show (⟨key, 4, s, [], z ++ [(unhexS (cuA x 58), prN (cuB x 58))], [], till⟩ : EnD).z.length = z.length + 1 from len1 ..]; exact q5, OwR.nil .., fun _ => ⟨rfl, rfl, rfl⟩, fun q => absurd rfl q, fun _ => ⟨rfl, rfl, rfl⟩⟩
  by_cases k5 : k = 5
  · subst k5
    obtain ⟨rfl, rfl, rfl⟩ := h1 (.inr (.inr rfl))
    obtain ⟨rfl, rfl, rfl⟩ := h2 (by decide)
    have e2 : ptE ⟨key, 5, s, [], [], h, till⟩ x = ⟨key, 5, s, [], [], h ++ [(unhexS (cuA x 61), unhexS (cuB x 61))], till⟩ := by unfold ptE; simp only; rw [if_neg (by decide), if_neg (by decide), if_pos trivial]
    rw [e2]
    refine (part_h w b key s till x Ah ch h hB hO3 hhl hx hb8 hV).mono fun o w' ⟨A', c', q1, q2, q3⟩ => ⟨q1, fun q => ?_, q3⟩
    obtain ⟨q4, q5⟩ := q2 q
    exact ⟨none, 0, none, 0, A', c', by rw [show (⟨key, 5, s, [], [], h ++ [(unhexS (cuA x 61), unhexS (cuB x 61))], till⟩ : EnD).h.length = h.length + 1 from len1 ..]; exact q4, OwR.nil .., OwR.nil .., by rw [show (⟨key, 5, s, [], [], h ++ [(unhexS (cuA x 61), unhexS (cuB x 61))], till⟩ : EnD).h.length = h.length + 1 from len1 ..]; exact q5, fun _ => ⟨rfl, rfl, rfl⟩, fun _ => ⟨rfl, rfl, rfl⟩, fun q => absurd rfl q⟩
  · obtain ⟨rfl, rfl, rfl⟩ := h2 k4
    obtain ⟨rfl, rfl, rfl⟩ := h3 k5
    have e1 : ptOk k x = uhOk x := by unfold ptOk; rw [if_neg k4, if_neg k5]
    have e2 : ptE ⟨key, k, s, l, [], [], till⟩ x = ⟨key, k, s, l ++ [unhexS x], [], [], till⟩ := by unfold ptE; simp only; rw [if_neg k1, if_neg k4, if_neg k5]
    rw [show (⟨key, k, s, l, [], [], till⟩ : EnD).k = k from rfl, e1, e2]
    refine (part_l w b key s till x Al cl l k hB hO1 hll k1 k4 k5 hx hb8 hV).mono fun o w' ⟨A', c', q1, q2, q3⟩ => ⟨q1, fun q => ?_, q3⟩
    obtain ⟨q4, q5⟩ := q2 q
    exact ⟨A', c', none, 0, none, 0, by rw [show (⟨key, k, s, l ++ [unhexS x], [], [], till⟩ : EnD).l.length = l.length + 1 from len1 ..]; exact q4, by rw [show (⟨key, k, s, l ++ [unhexS x], [], [], till⟩ : EnD).l.length = l.length + 1 from len1 ..]; exact q5, OwR.nil .., OwR.nil .., fun q => by rcases q with q | q | q <;> contradiction, fun _ => ⟨rfl, rfl, rfl⟩, fun _ => ⟨rfl, rfl, rfl⟩⟩
theorem EnB.fr {w w1 : World} {b : Nat} {e : EnD} {ls : List Nat} (h : EnB w b e) (f : Fr ls w w1) (hl : ∀ i ∈ ls, i < b) : EnB w1 b e := by
  obtain ⟨Al, cl, Az, cz, Ah, ch, hB, hO1, hO2, hO3, h1, h2, h3⟩ := h
  have hn : ∀ {v : Value} {α : Type} {R : Rp α} {t : TypeId} {xs : List α}, OwR R NoZ w (b + 1) t v xs → ∀ i, v.ownBlock = some i → i ∉ ls := fun hO i hi hm => by have := (hO.lt i hi).1; have := hl i hm; omega
  exact ⟨Al, cl, Az, cz, Ah, ch, hB.fr f (fun hm => by have := hl b hm; omega), hO1.fr f (fun _ _ q => q) (hn hO1), hO2.fr f (fun _ _ q => q) (hn hO2), hO3.fr f (fun _ _ q => q) (hn hO3), h1, h2, h3⟩
theorem EnB.lt {w : World} {b : Nat} {e : EnD} (h : EnB w b e) : b < w.heap.size := by obtain ⟨_, _, _, _, _, _, hB, _⟩ := h; exact hB.lt
/-! ### A line's words; the entry that they make -/
def spl (s : ByteArray) : List ByteArray := Lib.splitB ⟨#[32]⟩ 0 (Lib.countB s ⟨#[32]⟩) s
theorem spl_len (s : ByteArray) : (spl s).length = Lib.countB s ⟨#[32]⟩ + 1 := Lib.splitB_all ⟨#[32]⟩ (by decide) 0 _ s rfl
theorem spl_le (s : ByteArray) : (spl s).length ≤ s.size + 1 := by rw [spl_len]; have := Lib.countB_le ⟨#[32]⟩ (by decide) s.size s (Nat.le_refl _); omega
theorem splitB_size (sep : ByteArray) : ∀ (k : Nat) (s : ByteArray), ∀ x ∈ Lib.splitB sep 0 k s, x.size ≤ s.size
  | 0, s, x, hx => by rw [List.mem_singleton.1 hx]; exact Nat.le_refl _
  | k + 1, s, x, hx => by
    unfold Lib.splitB at hx
    split at hx
    · rw [List.mem_singleton.1 hx]; exact Nat.le_refl _
    · rcases List.mem_cons.1 hx with rfl | hx
      · rw [ByteArray.size_extract]; omega
      · have := splitB_size sep k _ x hx
        rw [ByteArray.size_extract] at this; omega
theorem spl_size {s x : ByteArray} (h : x ∈ spl s) : x.size ≤ s.size := splitB_size _ _ _ x h
theorem sp_any (w : World) (s : ByteArray) (hs : s.size < 4294967281) (hV : Vs w) : Calls Tryz.prog 87 #[.string s, .string ⟨#[32]⟩] w fun e w' => ∃ b, e = .returned (.slice (some ⟨b, 0, none⟩) (spl s).length (spl s).length) ∧ SlR Rp.str (fun k => w.heap.size ≤ k ∧ k < w'.heap.size) w' (.slice (some ⟨b, 0, none⟩) (spl s).length (spl s).length) (spl s) ∧ Fr [] w w' := by
  obtain ⟨m, hm⟩ := hV.mx
  refine (Tryz.strings_Split s ⟨#[32]⟩ m w hs hm (by decide)).mono fun e w' ⟨h1, h2⟩ => ⟨w.heap.size, by rw [h1, spl_len], ?_, h2 ▸ Fr.alloc [] w _⟩
  subst h2
  have hB : Blk (w.alloc (.cells ((spl s).map Value.string).toArray 9)) w.heap.size ((spl s).map Value.string) 9 := heap_alloc_new w _
  have hO := OwR.mkS (base := w.heap.size) (l := spl s) hB (by rw [List.length_map]) (Nat.le_refl _) (by have := spl_le s; unfold maxLen; omega) (Nat.le_refl _) (by rw [List.take_of_length_le (by rw [List.length_map]; exact Nat.le_refl _)])
  exact hO.read (fun _ _ q => q.elim) fun b q h => ⟨q, h⟩
def kinds6 : List ByteArray := [⟨#[]⟩, ⟨#[115, 116, 114, 105, 110, 103]⟩, ⟨#[108, 105, 115, 116]⟩, ⟨#[115, 101, 116]⟩, ⟨#[122, 115, 101, 116]⟩, ⟨#[104, 97, 115, 104]⟩]
def kindI (x : ByteArray) : Int := Lib.idxOfS kinds6 x
theorem ki_any (w : World) (b : Nat) (x : ByteArray) (hB : Blk w b (kinds6.map Value.string) 9) : Calls Tryz.prog 88 #[.slice (some ⟨b, 0, none⟩) 6 6, .string x] w fun e w' => e = .returned (.int .i64 (kindI x)) ∧ w = w' :=
  (Tryz.slices_Index_string b 0 6 6 kinds6 x w (Nat.le_refl _) (by decide) (fun j hj => by
    rw [hB.cell, Nat.zero_add, List.getElem?_map, List.getElem?_eq_getElem hj, List.getD_eq_getElem?_getD, List.getElem?_eq_getElem hj]; rfl)).mono fun e w' ⟨h1, h2⟩ => ⟨h1, h2.symm⟩
theorem unhexS_len (x : ByteArray) : (unhexS x).size ≤ x.size := by
  unfold unhexS
  split
  · exact Nat.zero_le _
  · unfold uhS; rw [strI_size, List.length_map, List.length_range]; omega
theorem prN_i64 (x : ByteArray) : i64 (prN x) := by
  unfold prN
  split
  · rename_i h; exact h.choose_spec.1
  · unfold i64; omega
/-- What may be of an entry of n parts. -/
structure BdE (e : EnD) (n : Nat) : Prop where
  l : e.l.length ≤ n
  z : e.z.length ≤ n
  h : e.h.length ≤ n
  x : ∀ x ∈ e.z, x.1.size ≤ 67108864 ∧ i64 x.2
theorem BdE.step {e : EnD} {n : Nat} {x : ByteArray} (h : BdE e n) (hx : x.size ≤ 67108864) : BdE (ptE e x) (n + 1) := by
  obtain ⟨h1, h2, h3, h4⟩ := h
  unfold ptE
  split
  · exact ⟨by show e.l.length ≤ _; omega, by show e.z.length ≤ _; omega, by show e.h.length ≤ _; omega, h4⟩
  split
  · refine ⟨by show e.l.length ≤ _; omega, by show (e.z ++ [_]).length ≤ _; rw [len1]; omega, by show e.h.length ≤ _; omega, fun y hy => ?_⟩
    rcases List.mem_append.1 (show y ∈ e.z ++ [_] from hy) with hy | hy
    · exact h4 y hy
    · rw [List.mem_singleton.1 hy]; exact ⟨Nat.le_trans (unhexS_len _) (Nat.le_trans (cu_len x 58).1 hx), prN_i64 _⟩
  split
  · exact ⟨by show e.l.length ≤ _; omega, by show e.z.length ≤ _; omega, by show (e.h ++ [_]).length ≤ _; rw [len1]; omega, h4⟩
  · exact ⟨by show (e.l ++ [_]).length ≤ _; rw [len1]; omega, by show e.z.length ≤ _; omega, by show e.h.length ≤ _; omega, h4⟩
theorem ptE_k (e : EnD) (x : ByteArray) : (ptE e x).k = e.k ∧ (ptE e x).key = e.key ∧ (ptE e x).till = e.till := by
  unfold ptE
  split
  · exact ⟨rfl, rfl, rfl⟩
  split
  · exact ⟨rfl, rfl, rfl⟩
  split <;> exact ⟨rfl, rfl, rfl⟩
theorem fold_k : ∀ (xs : List ByteArray) (e : EnD), (xs.foldl ptE e).k = e.k ∧ (xs.foldl ptE e).key = e.key ∧ (xs.foldl ptE e).till = e.till
  | [], e => ⟨rfl, rfl, rfl⟩
  | x :: xs, e => by
    have h1 := fold_k xs (ptE e x)
    have h2 := ptE_k e x
    rw [List.foldl_cons]
    exact ⟨h1.1.trans h2.1, h1.2.1.trans h2.2.1, h1.2.2.trans h2.2.2⟩
theorem fold_bd : ∀ (xs : List ByteArray) (e : EnD) (n : Nat), BdE e n → (∀ x ∈ xs, x.size ≤ 67108864) → BdE (xs.foldl ptE e) (n + xs.length)
  | [], e, n, h, _ => h
  | x :: xs, e, n, h, hx => by
    have := fold_bd xs (ptE e x) (n + 1) (h.step (hx x (List.mem_cons_self ..))) fun y hy => hx y (List.mem_cons_of_mem _ hy)
    rw [List.foldl_cons, List.length_cons]
    rw [show n + (xs.length + 1) = n + 1 + xs.length by omega]; exact this
theorem fold_next {xs : List ByteArray} {i : Nat} (e : EnD) (h : i < xs.length) : (xs.take (i + 1)).foldl ptE e = ptE ((xs.take i).foldl ptE e) (at_ Rp.str xs (i : Int)) := by
  rw [List.take_succ_eq_append_getElem h, List.foldl_append, at_el Rp.str h]; rfl
end Go.Proofs.YtdebkbfnngkdlaaGreatDoor
end
