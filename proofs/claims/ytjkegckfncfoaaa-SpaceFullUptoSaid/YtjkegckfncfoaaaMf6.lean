/- Joined texts: Opn, Hn. -/
import Derived.Test.YtjkegckfncfoaaaRows
import Derived.Deep.Slices
import Derived.Lib.SmallJoins
import Derived.ProofKit
import Derived.ChangeSame
import Derived.Test.YtjkegckfncfoaaaProg
import Derived.Test.YtjkegckfncfoaaaMf5
section
namespace Go.Proofs.Ytjkegckfncfoaaa
open Go.V Go.Base Go.RowKit Go.WideShapes Go.ChangeShapes Go.Deep
set_option linter.unusedVariables false
section
variable {H : Type}
theorem bulk_pos (d : DataW H) : 1 ≤ Rows.uptoBulk d := by
  cases d with
  | lit l => cases l <;> simp [Rows.uptoBulk]
  | nil => simp [Rows.uptoBulk]
  | ptr d => simp [Rows.uptoBulk]
  | slice a b => simp [Rows.uptoBulk]
  | agg a => simp [Rows.uptoBulk]
  | iface t d => simp [Rows.uptoBulk]
  | map a => simp [Rows.uptoBulk]
  | held h => simp [Rows.uptoBulk]
theorem bulk_len : ∀ (l : List (DataW H)), l.length ≤ Rows.uptoBulkAll l
  | [] => by simp [Rows.uptoBulkAll]
  | d :: l => by
    have h1 := bulk_pos d
    have h2 := bulk_len l
    simp only [List.length_cons, Rows.uptoBulkAll]
    omega
theorem bulk_mem : ∀ {l : List (DataW H)} {d : DataW H}, d ∈ l → Rows.uptoBulk d ≤ Rows.uptoBulkAll l
  | e :: l, d, h => by
    simp only [Rows.uptoBulkAll]
    rcases List.mem_cons.1 h with rfl | h
    · omega
    · have := bulk_mem h; omega
end
def Opn {α : Type} {H : Type} (enc : TypeId × Value → H) (P : Program) (W : World) (t : TypeId) (R : Rp α) (K : α → Nat → Prop) : Prop :=
  ∀ (n : Nat) (cs : List Value) (x : DataW H × List MemPlace), DataW.trod enc P W 0 (fun _ => true) true n t cs = some x → (∀ p ∈ x.2, p.block < W.heap.size) → ∃ d : α, R.ok (fun b => b < W.heap.size) W d cs ∧ K d (Rows.uptoBulk x.1)
section
variable {α : Type} {R : Rp α} {K : α → Nat → Prop} {H : Type} {enc : TypeId × Value → H} {P : Program} {W : World} {t e : TypeId}
theorem opn_i {n : Nat} {cs : List Value} {x : DataW H × List MemPlace} (ht : P.underlying t = some (.int .i64)) (h : DataW.trod enc P W 0 (fun _ => true) true n t cs = some x) : ∃ n : Int, cs = [.int .i64 n] ∧ -9223372036854775808 ≤ n ∧ n ≤ 9223372036854775807 := by
  obtain ⟨n, q, _, w⟩ := DataW.trod_int ht h
  unfold Lit.wf at w
  have h1 : IntKind.i64.min = -9223372036854775808 := by decide
  have h2 : IntKind.i64.max = 9223372036854775807 := by decide
  simp [h1, h2] at w
  exact ⟨n, q, w.1, w.2⟩
theorem opn_w {n : Nat} {cs : List Value} {x : DataW H × List MemPlace} (ht : P.underlying t = some (.int .u64)) (h : DataW.trod enc P W 0 (fun _ => true) true n t cs = some x) : ∃ n : Nat, cs = [.int .u64 (n : Int)] ∧ n < 18446744073709551616 := by
  obtain ⟨n, q, _, w⟩ := DataW.trod_int ht h
  unfold Lit.wf at w
  have h1 : IntKind.u64.min = 0 := by decide
  have h2 : IntKind.u64.max = 18446744073709551615 := by decide
  simp [h1, h2] at w
  exact ⟨n.toNat, by rw [q, Int.toNat_of_nonneg w.1], by omega⟩
theorem opn_s {n : Nat} {cs : List Value} {x : DataW H × List MemPlace} (ht : P.underlying t = some .string) (h : DataW.trod enc P W 0 (fun _ => true) true n t cs = some x) : ∃ s : ByteArray, cs = [.string s] ∧ s.size ≤ Rows.uptoBulk x.1 := by
  obtain ⟨s, q, rfl, w⟩ := DataW.trod_string ht h
  exact ⟨s, q, by simp [Rows.uptoBulk]⟩
theorem Opn.str (ht : P.underlying t = some .string) : Opn enc P W t Rp.str fun s b => s.size ≤ b := fun n cs x h hp => by
  obtain ⟨s, rfl, h1⟩ := opn_s ht h
  exact ⟨s, rfl, h1⟩
/-- A slice of what can be opened. -/
theorem Opn.sl (ht : P.underlying t = some (.slice e)) (hc : P.cellsOf e = R.sz) (hpos : 0 < R.sz) (hK : ∀ d b b', b ≤ b' → K d b → K d b') (hel : Opn enc P W e R K) {n : Nat} {cs : List Value} {x : DataW H × List MemPlace} (hf : DataW.trod enc P W 0 (fun _ => true) true n t cs = some x) (hlt : ∀ p ∈ x.2, p.block < W.heap.size) :
    ∃ A c l, cs = [.slice A l.length c] ∧ SlR R (fun b => b < W.heap.size) W (.slice A l.length c) l ∧ l.length ≤ Rows.uptoBulk x.1 ∧ ∀ y ∈ l, K y (Rows.uptoBulk x.1) := by
  rcases open_slice ht hf with ⟨rfl, rfl⟩ | ⟨a, len, cap, m, k, D, Pl, rfl, _, hl, hm, hmm, rfl, hall⟩
  · exact ⟨none, 0, [], rfl, SlR.nil _ _ _, Nat.zero_le _, fun y hy => by simp at hy⟩
  · simp only [if_true] at hmm
    subst hmm
    have hone : ∀ i, i < m → ∃ (x : α) (cs : List Value), R.ok (fun b => b < W.heap.size) W x cs ∧ K x (Rows.uptoBulk (D i)) ∧ ∀ j u, cs[j]? = some u → W.cell? (a.add (i * R.sz + j)) = some u := fun i hi => by
      obtain ⟨cs', h1, h2⟩ := hall i hi
      obtain ⟨x, hx, hkx⟩ := hel k cs' _ h2 fun p hp => hlt p (List.mem_append_right _ (List.mem_flatMap.2 ⟨i, List.mem_range.2 hi, hp⟩))
      obtain ⟨_, hlen, hcell⟩ := World.cells?_some h1
      refine ⟨x, cs', hx, hkx, fun j u hj => ?_⟩
      have hjl : j < P.cellsOf e := by rw [← hlen]; exact (List.getElem?_eq_some_iff.1 hj).1
      have := hcell j hjl
      rw [hj, hc] at this
      rw [← this, add_add]
    have hex : ∀ q, q ≤ m → ∃ l : List α, l.length = q ∧ ∀ i x, l[i]? = some x → K x (Rows.uptoBulk (D i)) ∧ ∃ cs, R.ok (fun b => b < W.heap.size) W x cs ∧ ∀ j u, cs[j]? = some u → W.cell? (a.add (i * R.sz + j)) = some u := by
      intro q
      induction q with
      | zero => exact fun _ => ⟨[], rfl, fun i x h => by simp at h⟩
      | succ q ih =>
        intro hq
        obtain ⟨l, hll, hli⟩ := ih (by omega)
        obtain ⟨x, cs, h1, hk1, h2⟩ := hone q (by omega)
        refine ⟨l ++ [x], by simp [hll], fun i y hy => ?_⟩
        rcases Nat.lt_or_ge i l.length with hi | hi
        · rw [List.getElem?_append_left hi] at hy; exact hli i y hy
        · rw [List.getElem?_append_right hi] at hy
          have : i - l.length = 0 := by
            have := (List.getElem?_eq_some_iff.1 hy).1; simp at this; omega
          rw [this] at hy
          simp at hy; subst hy
          have hiq : i = q := by omega
          subst hiq
          exact ⟨hk1, cs, h1, h2⟩
    obtain ⟨l, hll, hli⟩ := hex len hl
    subst hll
    have hb : ∀ i, i < l.length → Rows.uptoBulk (D i) ≤ Rows.uptoBulkAll ((List.range l.length).map D) := fun i hi => bulk_mem (List.mem_map.2 ⟨i, List.mem_range.2 hi, rfl⟩)
    have hlb := bulk_len ((List.range l.length).map D)
    rw [List.length_map, List.length_range] at hlb
    have hbb : Rows.uptoBulkAll ((List.range l.length).map D) ≤ Rows.uptoBulk (DataW.slice ((List.range l.length).map D) ((List.range (m - l.length)).map fun j => D (l.length + j))) := by simp only [Rows.uptoBulk]; omega
    refine ⟨some a, m, l, rfl, ⟨_, _, rfl, hl, by unfold maxLen at hm; omega, fun i x hi => ?_⟩, Nat.le_trans hlb hbb, fun y hy => ?_⟩
    · obtain ⟨_, cs, h1, h2⟩ := hli i x hi
      have hin : i < l.length := (List.getElem?_eq_some_iff.1 hi).1
      obtain ⟨b, off, spot⟩ := a
      have hcl := R.len h1
      obtain ⟨u0, hu0⟩ : ∃ u, cs[0]? = some u := ⟨cs[0]'(by omega), List.getElem?_eq_getElem (by omega)⟩
      obtain ⟨_, cz, z1, z2⟩ := hli 0 _ (List.getElem?_eq_getElem (by omega))
      have hzl := R.len z1
      have hspot : spot = none := by simpa [Addr.add] using World.cell?_spot (z2 0 _ (List.getElem?_eq_getElem (by omega)))
      subst hspot
      have hbW : b < W.heap.size := by
        have hmem : MemPlace.cell b off ∈ MemPlace.row ⟨b, off, none⟩ (m * P.cellsOf e) := MemPlace.mem_row.2 ⟨0, by rw [hc]; exact Nat.mul_pos (by omega) hpos, by simp⟩
        exact hlt _ (List.mem_append_left _ hmem)
      refine ⟨b, off, cs, rfl, hbW, hbW, h1, fun j u hj => ?_⟩
      have := h2 j u hj
      rwa [show (⟨b, off, none⟩ : Addr).add (i * R.sz + j) = ⟨b, off + i * R.sz + j, none⟩ by unfold Addr.add; split <;> simp_all [Nat.add_assoc]] at this
    · obtain ⟨i, hi⟩ := List.mem_iff_getElem?.1 hy
      exact hK _ _ _ (Nat.le_trans (hb i (List.getElem?_eq_some_iff.1 hi).1) hbb) (hli i y hi).1
/-- A struct's parts. -/
theorem opn_st {fs : Array Field} (ht : P.underlying t = some (.struct fs)) {k : Nat} (hk : P.cellsOf t = k) {n : Nat} {cs : List Value} {x : DataW H × List MemPlace} (h : DataW.trod enc P W 0 (fun _ => true) true n t cs = some x) (hlt : ∀ p ∈ x.2, p.block < W.heap.size) :
    cs.length = k ∧ ∀ (i : Nat) (f : Field), fs[i]? = some f → ∃ m y, DataW.trod enc P W 0 (fun _ => true) true m f.type ((cs.drop f.offset).take (P.cellsOf f.type)) = some y ∧ Rows.uptoBulk y.1 ≤ Rows.uptoBulk x.1 ∧ ∀ p ∈ y.2, p.block < W.heap.size := by
  obtain ⟨xs, m, _, rfl, hl, hlen, hf⟩ := DataW.trod_struct ht h
  refine ⟨hl.trans hk, fun i f hi => ?_⟩
  have hil : i < xs.length := by
    have := (Array.getElem?_eq_some_iff.1 hi).1
    omega
  refine ⟨m, xs[i], (hf i f hi).trans (List.getElem?_eq_getElem hil), ?_, fun p hp => hlt p (List.mem_flatMap.2 ⟨xs[i], List.getElem_mem hil, hp⟩)⟩
  have := bulk_mem (l := xs.map (·.1)) (List.mem_map.2 ⟨xs[i], List.getElem_mem hil, rfl⟩)
  simp only [Rows.uptoBulk]
  omega
end
theorem okw_st {P : Program} {W : World} {r : Reach} {b : Nat} {t : TypeId} {v : Value} {fs : Array Field} (ht : P.underlying t = some (.struct fs)) (h : Value.okWide P W r b t v) : ∃ cs, v = .agg cs := by
  unfold Value.okWide at h
  rw [ht] at h
  obtain ⟨cs, h1, _⟩ := h
  exact ⟨cs, h1⟩
theorem list2 {β : Type} {cs : List β} (h : cs.length = 2) : ∃ a b, cs = [a, b] := by
  match cs, h with
  | [a, b], _ => exact ⟨a, b, rfl⟩
theorem list4 {β : Type} {cs : List β} (h : cs.length = 4) : ∃ a b c d, cs = [a, b, c, d] := by
  match cs, h with
  | [a, b, c, d], _ => exact ⟨a, b, c, d, rfl⟩
theorem list5 {β : Type} {cs : List β} (h : cs.length = 5) : ∃ a b c d e, cs = [a, b, c, d, e] := by
  match cs, h with
  | [a, b, c, d, e], _ => exact ⟨a, b, c, d, e, rfl⟩
theorem list7 {β : Type} {cs : List β} (h : cs.length = 7) : ∃ a b c d e f g, cs = [a, b, c, d, e, f, g] := by
  match cs, h with
  | [a, b, c, d, e, f, g], _ => exact ⟨a, b, c, d, e, f, g, rfl⟩
end Go.Proofs.Ytjkegckfncfoaaa
end
section
namespace Go.Proofs.Ytjkegckfncfoaaa
open Go.V Go.Base
open Go.RowKit (Below)
attribute [local irreducible] Act.put Act.eval
set_option linter.unusedVariables false
set_option linter.unusedSimpArgs false
open Go.WideShapes Go.ChangeShapes Go.Deep
/-! A value that is an argument. -/
def ScK (y : ByteArray × Int) (b : Nat) : Prop := y.1.size ≤ b ∧ -9223372036854775808 ≤ y.2 ∧ y.2 ≤ 9223372036854775807
def FdK (y : ByteArray × ByteArray) (b : Nat) : Prop := y.1.size ≤ b ∧ y.2.size ≤ b
def ValK (k : Int) (s : ByteArray) (l : List ByteArray) (z : List (ByteArray × Int)) (h : List (ByteArray × ByteArray)) (b : Nat) : Prop :=
  (-9223372036854775808 ≤ k ∧ k ≤ 9223372036854775807) ∧ s.size ≤ b ∧ (l.length ≤ b ∧ ∀ y ∈ l, y.size ≤ b) ∧ (z.length ≤ b ∧ ∀ y ∈ z, ScK y b) ∧ h.length ≤ b ∧ ∀ y ∈ h, FdK y b
theorem cells9 : Try.prog.cellsOf 9 = 1 := by kernel_rfl
theorem cells2 : Try.prog.cellsOf 2 = 1 := by kernel_rfl
theorem cells22 : Try.prog.cellsOf 22 = 1 := by kernel_rfl
theorem cells23 : Try.prog.cellsOf 23 = 1 := by kernel_rfl
theorem cells24 : Try.prog.cellsOf 24 = 1 := by kernel_rfl
theorem cells25 : Try.prog.cellsOf 25 = 1 := by kernel_rfl
theorem cells27 : Try.prog.cellsOf 27 = 5 := by kernel_rfl
theorem cells37 : Try.prog.cellsOf 37 = 2 := by kernel_rfl
theorem cells35 : Try.prog.cellsOf 35 = 2 := by kernel_rfl
section
variable {H : Type} {enc : TypeId × Value → H} {W : World}
theorem sc_el : Opn enc Try.prog W 37 scR ScK := fun n cs x h hp => by
  obtain ⟨hl, hf⟩ := opn_st Try.underlying37 cells37 h hp
  obtain ⟨c0, c1, rfl⟩ := list2 hl
  obtain ⟨_, y0, h0, b0, _⟩ := hf 0 _ rfl
  obtain ⟨_, y1, h1, b1, _⟩ := hf 1 _ rfl
  obtain ⟨s, q0, k0⟩ := opn_s Try.underlying9 h0
  obtain ⟨n, q1, k1⟩ := opn_i Try.underlying2 h1
  simp [cells9, cells2] at q0 q1
  subst q0; subst q1
  exact ⟨(s, n), rfl, Nat.le_trans k0 b0, k1⟩
theorem fd_el : Opn enc Try.prog W 35 fdR FdK := fun n cs x h hp => by
  obtain ⟨hl, hf⟩ := opn_st Try.underlying35 cells35 h hp
  obtain ⟨c0, c1, rfl⟩ := list2 hl
  obtain ⟨_, y0, h0, b0, _⟩ := hf 0 _ rfl
  obtain ⟨_, y1, h1, b1, _⟩ := hf 1 _ rfl
  obtain ⟨s, q0, k0⟩ := opn_s Try.underlying9 h0
  obtain ⟨n, q1, k1⟩ := opn_s Try.underlying9 h1
  simp [cells9] at q0 q1
  subst q0; subst q1
  exact ⟨(s, n), rfl, Nat.le_trans k0 b0, Nat.le_trans k1 b1⟩
theorem val_el {n : Nat} {cs : List Value} {x : DataW H × List MemPlace} (h : DataW.trod enc Try.prog W 0 (fun _ => true) true n 27 cs = some x) (hp : ∀ p ∈ x.2, p.block < W.heap.size) :
    ∃ k s Al cl l Az cz z Ah ch h', cs = [.int .i64 k, .string s, .slice Al l.length cl, .slice Az z.length cz, .slice Ah h'.length ch] ∧ SlR Rp.str (fun b => b < W.heap.size) W (.slice Al l.length cl) l ∧ SlR scR (fun b => b < W.heap.size) W (.slice Az z.length cz) z ∧ SlR fdR (fun b => b < W.heap.size) W (.slice Ah h'.length ch) h' ∧ ValK k s l z h' (Rows.uptoBulk x.1) := by
  obtain ⟨hl, hf⟩ := opn_st Try.underlying27 cells27 h hp
  obtain ⟨c0, c1, c2, c3, c4, rfl⟩ := list5 hl
  obtain ⟨_, y0, h0, b0, p0⟩ := hf 0 _ rfl
  obtain ⟨_, y1, h1, b1, p1⟩ := hf 1 _ rfl
  obtain ⟨_, y2, h2, b2, p2⟩ := hf 2 _ rfl
  obtain ⟨_, y3, h3, b3, p3⟩ := hf 3 _ rfl
  obtain ⟨_, y4, h4, b4, p4⟩ := hf 4 _ rfl
  obtain ⟨k, q0, k0⟩ := opn_i Try.underlying22 h0
  obtain ⟨s, q1, k1⟩ := opn_s Try.underlying9 h1
  obtain ⟨Al, cl, l, q2, s2, k2, m2⟩ := Opn.sl (R := Rp.str) (K := fun s b => s.size ≤ b) Try.underlying23 cells9 (by decide) (fun d b b' h q => Nat.le_trans q h) (Opn.str Try.underlying9) h2 p2
  obtain ⟨Az, cz, z, q3, s3, k3, m3⟩ := Opn.sl (R := scR) (K := ScK) Try.underlying24 cells37 (by decide) (fun d b b' h q => ⟨Nat.le_trans q.1 h, q.2⟩) sc_el h3 p3
  obtain ⟨Ah, ch, h', q4, s4, k4, m4⟩ := Opn.sl (R := fdR) (K := FdK) Try.underlying25 cells35 (by decide) (fun d b b' h q => ⟨Nat.le_trans q.1 h, Nat.le_trans q.2 h⟩) fd_el h4 p4
  simp [cells9, cells22, cells23, cells24, cells25] at q0 q1 q2 q3 q4
  subst q0; subst q1; subst q2; subst q3; subst q4
  exact ⟨k, s, Al, cl, l, Az, cz, z, Ah, ch, h', rfl, s2, s3, s4, k0, by omega, ⟨by omega, fun y hy => Nat.le_trans (m2 y hy) b2⟩, ⟨by omega, fun y hy => ⟨Nat.le_trans (m3 y hy).1 b3, (m3 y hy).2⟩⟩, by omega, fun y hy => ⟨Nat.le_trans (m4 y hy).1 b4, Nat.le_trans (m4 y hy).2 b4⟩⟩
end
end Go.Proofs.Ytjkegckfncfoaaa
end
