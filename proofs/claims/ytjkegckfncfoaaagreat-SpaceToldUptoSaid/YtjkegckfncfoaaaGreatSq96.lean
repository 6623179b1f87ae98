/- Joined texts: Sq, Sr, Ss, St, Da, Db, SlW, Dc, Dd, De, Ub, Uc, Ud, Ua, Ue, Uf, Ug, Nb0, Uh, Ui, Uj. -/
import Derived.Test.YtjkegckfncfoaaaGreatProg
import Derived.TacticsIn
import Derived.WalkKit
import Derived.Shelf.SlSortCmp.NoneTotal
import Derived.Test.YtjkegckfncfoaaaGreatSq95
section
namespace Go.Proofs.YtjkegckfncfoaaaGreat
open Go.V Go.Base
open Go.RowKit (Below)
attribute [local irreducible] Act.put Act.eval
set_option linter.unusedVariables false
set_option linter.unusedSimpArgs false
open Go.Shelf Go.RowKit Go.Lib Go.Sort
instance : Inhabited EntV := ⟨EntV.nil⟩
def encE (x : ByteArray × EntV) : List Value := [.string x.1, .int .i64 x.2.kind, .string x.2.s, .slice x.2.l.a x.2.l.n x.2.l.c, .slice x.2.z.a x.2.z.n x.2.z.c, .slice x.2.h.a x.2.h.n x.2.h.c, .int .i64 x.2.till]
set_option maxHeartbeats 1000000 in
theorem byKey43 (x y : ByteArray × EntV) (W : World) : Calls Tryz.prog 43 #[.agg (encE x).toArray, .agg (encE y).toArray] W fun e w' => e = .returned (.int .i64 (cmpS x.1 y.1)) ∧ ∃ q os', w' = grow (W.drewN q) os' := by
  show Calls Tryz.prog 43 #[.agg #[.string x.1, .int .i64 x.2.kind, .string x.2.s, .slice x.2.l.a x.2.l.n x.2.l.c, .slice x.2.z.a x.2.z.n x.2.z.c, .slice x.2.h.a x.2.h.n x.2.h.c, .int .i64 x.2.till], .agg #[.string y.1, .int .i64 y.2.kind, .string y.2.s, .slice y.2.l.a y.2.l.n y.2.l.c, .slice y.2.z.a y.2.z.n y.2.z.c, .slice y.2.h.a y.2.h.n y.2.h.c, .int .i64 y.2.till]] W _
  have hcon := fun W' => cmpS_eq W' x.1 y.1
  generalize cmpS x.1 y.1 = r at hcon ⊢
  go_enter Tryz.func43, Tryz.ntmps43
  go_wp2_with (go_at_call 44; refine (hcon _).mono ?_; rintro e w' ⟨rfl, rfl⟩)
  go_ret
  exact ⟨rfl, 0, _, by rw [alloc_eq_grow, alloc_eq_grow, grow_grow]; rfl⟩
theorem encE_len (x : ByteArray × EntV) : (encE x).length = 7 := rfl
theorem fm7 : ∀ (rs : List (ByteArray × EntV)) (t : Nat), t < rs.length * 7 → (rs.flatMap encE)[t]? = some ((encE (rs.getD (t / 7) default))[t % 7]!)
  | [], t, h => by simp at h
  | x :: rs, t, h => by
    rw [List.flatMap_cons]
    by_cases ht : t < 7
    · have h0 : t / 7 = 0 := by omega
      have h1 : t % 7 = t := by omega
      rw [List.getElem?_append_left (by rw [encE_len]; exact ht), h0, h1, List.getElem?_eq_getElem (by rw [encE_len]; exact ht)]
      show some (encE x)[t] = some ((encE x)[t]!)
      rw [getElem!_pos _ t (by rw [encE_len]; exact ht)]
      rfl
    · have h0 : t / 7 = (t - 7) / 7 + 1 := by omega
      have h1 : t % 7 = (t - 7) % 7 := by omega
      rw [List.getElem?_append_right (by rw [encE_len]; omega), encE_len, fm7 rs (t - 7) (by simp at h; omega), h0, h1]
      rfl
theorem fm7_len (rs : List (ByteArray × EntV)) : (rs.flatMap encE).length = rs.length * 7 := by
  induction rs with
  | nil => rfl
  | cons x rs ih => rw [List.flatMap_cons, List.length_append, ih, encE_len, List.length_cons]; omega
theorem flat7 (rs : List (ByteArray × EntV)) : (flatK encE 7 rs.toArray).toList = rs.flatMap encE := by
  apply List.ext_getElem?
  intro t
  by_cases ht : t < rs.length * 7
  · have hsz : t < (flatK encE 7 rs.toArray).size := by simpa using ht
    rw [fm7 rs t ht, Array.getElem?_toList, Array.getElem?_eq_getElem hsz]
    have h1 := get_flatK encE 7 rs.toArray t (by simpa using ht)
    rw [getElem!_pos _ t hsz] at h1
    rw [h1, getElem!_pos rs.toArray (t / 7) (by simp; omega)]
    simp only [List.getElem_toArray, List.getD_eq_getElem?_getD, List.getElem?_eq_getElem (show t / 7 < rs.length by omega), Option.getD_some]
  · rw [List.getElem?_eq_none (by simp; omega), List.getElem?_eq_none (by rw [fm7_len]; omega)]
theorem cells_ent {Z : Nat → Prop} {w : World} : ∀ {l : List (ByteArray × EntV)} {cs : List Value}, Cells entR Z w l cs ↔ cs = l.flatMap encE
  | [], cs => Iff.rfl
  | x :: l, cs => by
    constructor
    · rintro ⟨c, r, rfl, h1, h2⟩
      have h1' : c = encE x := h1
      rw [h1', cells_ent.1 h2, List.flatMap_cons]
    · rintro rfl
      exact ⟨encE x, l.flatMap encE, List.flatMap_cons, rfl, (cells_ent (Z := Z) (l := l)).2 rfl⟩
section
variable {w : World} {base g n c : Nat} {e : TypeId} {l : List (ByteArray × EntV)}
theorem openE (h : OwR entR NoZ w base e (.slice (some ⟨g, 0, none⟩) n c) l) : ∃ cur, Blk w g cur e ∧ cur.length = c * 7 ∧ n = l.length ∧ n ≤ c ∧ c ≤ maxLen ∧ base ≤ g ∧ cur.take (n * 7) = l.flatMap encE := by
  obtain ⟨cs, h1, h2, h3⟩ := h
  rcases h1.2 with ⟨he, _⟩ | ⟨g', cap, cur, he, hg, hh, hnc, hcm, hs, ht⟩
  · cases he
  · injection he with e1 e2 e3
    injection e1 with e1
    injection e1 with e1
    subst e1; subst e2; subst e3
    exact ⟨cur.toList, by simpa [Blk] using hh, by have hz7 : entR.sz = 7 := rfl; rw [hz7] at hs; simpa using hs, rfl, hnc, hcm, hg, by have hq := cells_ent.1 h2; rw [← hq]; exact ht⟩
theorem mkE {cur : List Value} (hB : Blk w g cur e) (hc : cur.length = c * 7) (hn : l.length ≤ c) (hcm : c ≤ maxLen) (hg : base ≤ g) (ht : cur.take (l.length * 7) = l.flatMap encE) : OwR entR NoZ w base e (.slice (some ⟨g, 0, none⟩) l.length c) l := by
  refine ⟨l.flatMap encE, ⟨fm7_len l, .inr ⟨g, c, cur.toArray, rfl, hg, hB, hn, hcm, by have hz7 : entR.sz = 7 := rfl; rw [hz7]; simpa using hc, by have hz7 : entR.sz = 7 := rfl; rw [hz7]; simpa using ht⟩⟩, cells_ent.2 rfl, fun b _ hz => hz⟩
theorem caseE {v : Value} (h : OwR entR NoZ w base e v l) : (v = .slice none 0 0 ∧ l = []) ∨ ∃ g c, v = .slice (some ⟨g, 0, none⟩) l.length c := by
  obtain ⟨cs, h1, h2, h3⟩ := h
  rcases h1.2 with ⟨he, hn⟩ | ⟨g', cap, cur, he, _⟩
  · exact .inl ⟨he, List.eq_nil_of_length_eq_zero hn⟩
  · exact .inr ⟨g', cap, he⟩
theorem swoE : SWO (ltOf fun x y : ByteArray × EntV => cmpS x.1 y.1) := by
  have hl : ∀ x y : ByteArray × EntV, ltOf (fun x y : ByteArray × EntV => cmpS x.1 y.1) x y = decide (slt x.1 y.1) := fun x y => by
    unfold ltOf
    exact decide_eq_decide.2 (cmpS_neg _ _)
  refine ⟨fun x => ?_, fun x y z h1 h2 => ?_, fun x y z h1 h2 => ?_⟩
  · rw [hl]; exact decide_eq_false (slt_irr _)
  · rw [hl] at *; exact decide_eq_true (slt_trans (of_decide_eq_true h1) (of_decide_eq_true h2))
  · rw [hl] at *
    refine decide_eq_false fun h => ?_
    rcases slt_tri x.1 y.1 with q | q | q
    · exact (of_decide_eq_false h1) q
    · rw [q] at h; exact (of_decide_eq_false h2) h
    · exact (of_decide_eq_false h2) (slt_trans q h)
def SrtE (l : List (ByteArray × EntV)) : Prop := ∀ i j (hj : j < l.length) (hi : i < j), ¬ slt l[j].1 (l[i]'(by omega)).1
theorem sortE_any (h : OwR entR NoZ w base 39 (.slice (some ⟨g, 0, none⟩) l.length c) l) (hl : l.length ≤ 1099511627776) :
    Calls Tryz.prog 42 #[.slice (some ⟨g, 0, none⟩) l.length c, .func (.func 43) #[] #[]] w (fun e w' => e = .returned (.tuple #[]) ∧ ∃ l', l'.Perm l ∧ SrtE l' ∧ OwR entR NoZ w' base 39 (.slice (some ⟨g, 0, none⟩) l'.length c) l' ∧ Fr [g] w w') := by
  obtain ⟨cur, hB, hcl, hn, hnc, hcm, hg, htk⟩ := openE h
  have hlt := hB.lt
  have hH : HoldsK encE 7 w g 0 l.toArray := by
    intro j hj
    have hj' : j < l.length * 7 := by simpa using hj
    refine ⟨?_, hB.frozen _⟩
    rw [Nat.zero_add, hB.cell]
    have h1 : (cur.take (l.length * 7))[j]? = (l.flatMap encE)[j]? := by rw [htk]
    rw [List.getElem?_take_of_lt hj'] at h1
    rw [h1, ← flat7, Array.getElem?_toList, getElem!_pos _ j hj, Array.getElem?_eq_getElem hj]
    rfl
  have hc := AnyQ.slices_SortFunc Tryz.laysSlF06_f42 7 Tryz.isAgg39 Tryz.sizeOf39 encE encE_len (fun x v hv => by simp [encE] at hv; rcases hv with rfl | rfl | rfl | rfl | rfl | rfl | rfl <;> rfl) (fun x y => cmpS x.1 y.1) swoE 43 #[] g 0 c l.toArray w (enters_of Tryz.func43 (by kernel_rfl) rfl) (fun _ _ _ _ x y => byKey43 x y _) hH hlt (by simp; omega)
  have hsz : l.toArray.size = l.length := rfl
  refine Calls.mono (show Calls Tryz.prog 42 #[.slice (some ⟨g, 0, none⟩) l.length c, .func (.func 43) #[] #[]] w _ from hc) ?_
  rintro e w' ⟨rfl, d', n, os, hp, hs, rfl⟩
  obtain ⟨l', rfl⟩ : ∃ l' : List (ByteArray × EntV), d' = l'.toArray := ⟨d'.toList, by simp⟩
  have hlen : l'.length = l.length := by have := hp.1; simpa using this
  have hperm : l'.Perm l := by
    have := hp.2.2
    rw [hsz] at this
    have e1 : (l'.toArray.extract 0 l.length).toList = l' := by rw [← hlen]; simp
    have e2 : (l.toArray.extract 0 l.length).toList = l := by simp
    rw [e1, e2] at this
    exact this
  have hw : sortWorldK encE 7 w g 0 n l'.toArray os = grow (putRow id (Sort.ahead w n) g 0 (flatK encE 7 l'.toArray)) os := rfl
  rw [hw]
  have hblk : (grow (putRow id (Sort.ahead w n) g 0 (flatK encE 7 l'.toArray)) os).heap[g]? = some (.cells (putCells id 0 (flatK encE 7 l'.toArray) cur.toArray) 39 (0, 0)) := by
    rw [heap_grow_old _ _ (by simp [putRow, mapBlock]; exact hlt)]
    simp only [putRow, mapBlock, Sort.ahead, Array.getElem?_modify, if_true]
    have : w.heap[g]? = some (.cells cur.toArray 39 (0, 0)) := hB
    rw [this]
    rfl
  refine ⟨rfl, l', hperm, ?_, mkE (cur := (putCells id 0 (flatK encE 7 l'.toArray) cur.toArray).toList) (by unfold Blk; rw [hblk]) (by simp [putCells, hcl]) (by omega) hcm hg ?_, ?_⟩
  · intro i j hj hi
    have := hs i j (Nat.zero_le _) hi (by rw [hsz]; omega)
    unfold ltOf at this
    rw [getElem!_pos l'.toArray j (by simpa using hj), getElem!_pos l'.toArray i (by simp; omega)] at this
    simp only [List.getElem_toArray] at this
    exact fun hq => (of_decide_eq_false this) ((cmpS_neg _ _).2 hq)
  · apply List.ext_getElem?
    intro j
    rw [List.getElem?_take]
    split
    · rename_i hj
      have hjc : j < cur.length := by
        have : l'.length * 7 ≤ c * 7 := Nat.mul_le_mul_right _ (by omega)
        omega
      have hjf : j < (flatK encE 7 l'.toArray).size := by simpa using hj
      rw [← flat7]
      simp only [putCells, Array.getElem?_toList, Array.getElem?_mapIdx, List.getElem?_toArray, List.getElem?_eq_getElem hjc, Option.map_some]
      rw [if_pos ⟨Nat.zero_le _, by rw [Nat.zero_add]; exact hjf⟩, Nat.sub_zero, getElem!_pos _ j hjf, Array.getElem?_eq_getElem hjf]
      rfl
    · rename_i hj
      rw [List.getElem?_eq_none (by rw [fm7_len]; omega)]
  · refine ⟨rfl, rfl, rfl, ?_, fun k hk hne => ?_⟩
    · simp [putRow, mapBlock, Sort.ahead]
    · rw [heap_grow_old _ _ (by simp [putRow, mapBlock, Sort.ahead]; exact hk)]
      simp only [putRow, mapBlock, Sort.ahead, Array.getElem?_modify]
      rw [if_neg (fun e => hne (by simp [e]))]
end
end Go.Proofs.YtjkegckfncfoaaaGreat
end
section
namespace Go.Proofs.YtjkegckfncfoaaaGreat
open Go.V Go.Base
open Go.RowKit (Below)
attribute [local irreducible] Act.put Act.eval
set_option linter.unusedVariables false
set_option linter.unusedSimpArgs false
set_option maxHeartbeats 4000000
set_option maxRecDepth 20000
/-! ### What is in a space's table -/
theorem vl_flat {seed : Nat} {k : ByteArray} : ∀ {a : List (List (ByteArray × EntV))} (m n : Nat), (∀ i, ∀ x ∈ a.getD i [], bkt seed n x.1 = m + i) → vl k a.flatten = if m ≤ bkt seed n k ∧ bkt seed n k < m + a.length then vl k (a.getD (bkt seed n k - m) []) else []
  | [], m, n, h => by rw [if_neg (by rintro ⟨h1, h2⟩; rw [List.length_nil] at h2; omega)]; rfl
  | x :: a, m, n, h => by
    have ih := vl_flat (seed := seed) (k := k) (a := a) (m + 1) n fun i y hy => by have := h (i + 1) y (by simpa using hy); omega
    rw [List.flatten_cons, vl_app, ih]
    by_cases he : bkt seed n k = m
    · rw [if_neg (by omega), List.append_nil, if_pos (by simp; omega), he, Nat.sub_self]; rfl
    · have hx : vl k x = [] := vl_none fun y hy e => he (by have := h 0 y (by simpa using hy); rw [e] at this; omega)
      rw [hx, List.nil_append]
      by_cases hc : m + 1 ≤ bkt seed n k ∧ bkt seed n k < m + 1 + a.length
      · rw [if_pos hc, if_pos (by simp; omega)]
        have h1 : bkt seed n k - m = (bkt seed n k - (m + 1)) + 1 := by omega
        rw [h1]; rfl
      · rw [if_neg hc, if_neg (by simp; omega)]
theorem va_flat {seed : Nat} {k : ByteArray} {a : List (List (ByteArray × EntV))} (h : placed seed a) : vl k a.flatten = va seed a k := by
  rw [vl_flat 0 a.length fun i x hx => by rw [h i x hx]; omega]
  unfold va
  split
  · rfl
  · rename_i hc
    rw [List.getD_eq_getElem?_getD, List.getElem?_eq_none (by omega)]; rfl
theorem vt_items {T : Tb EntV} (hw : T.Wf) (k : ByteArray) : vl k (T.a ++ T.b).flatten = vt T k := by
  rw [List.flatten_append, vl_app, va_flat hw.pa, va_flat hw.pb]; rfl
theorem vl_mem {k : ByteArray} {l : List (ByteArray × EntV)} {v : EntV} : v ∈ vl k l ↔ (k, v) ∈ l := by
  unfold vl
  rw [List.mem_filterMap]
  constructor
  · rintro ⟨x, hx, h⟩
    split at h
    · rename_i e; injection h with h; subst e; subst h; exact hx
    · cases h
  · exact fun h => ⟨(k, v), h, if_pos rfl⟩
theorem keys_nodup : ∀ {l : List (ByteArray × EntV)}, (∀ k, (vl k l).length ≤ 1) → (l.map (·.1)).Nodup
  | [], _ => List.nodup_nil
  | x :: l, h => by
    rw [List.map_cons, List.nodup_cons]
    refine ⟨fun hm => ?_, keys_nodup fun k => ?_⟩
    · obtain ⟨y, hy, he⟩ := List.mem_map.1 hm
      have h1 := h x.1
      rw [vl_cons, if_pos rfl] at h1
      have h2 : y.2 ∈ vl x.1 l := vl_mem.2 (by rw [← he]; exact hy)
      have := List.length_pos_of_mem h2
      simp at h1
      rw [h1] at h2
      simp at h2
    · have h1 := h k
      rw [vl_cons, List.length_append] at h1
      omega
section
variable {w : World} {H Vb : Nat → Prop} {sp t : Nat} {T : Tb EntV} {D : ByteArray → Option EnD} (hq : SpX w H Vb sp t T D)
include hq
theorem SpX.items_nodup : ((T.a ++ T.b).flatten.map (·.1)).Nodup := keys_nodup fun k => by rw [vt_items hq.hw]; exact hq.hw.un k
theorem SpX.item {x : ByteArray × EntV} (hx : x ∈ (T.a ++ T.b).flatten) : ∃ xd Al cl Az cz Ah ch, D xd.key = some xd ∧ okD xd ∧ x = (xd.key, ⟨xd.k, xd.s, ⟨Al, xd.l.length, cl⟩, ⟨Az, xd.z.length, cz⟩, ⟨Ah, xd.h.length, ch⟩, xd.till⟩) ∧
    SlR Rp.str Vb w (.slice Al xd.l.length cl) xd.l ∧ SlR scR Vb w (.slice Az xd.z.length cz) xd.z ∧ SlR fdR Vb w (.slice Ah xd.h.length ch) xd.h := by
  have hv : x.2 ∈ vt T x.1 := by rw [← vt_items hq.hw]; exact vl_mem.2 hx
  rcases hq.hE x.1 with ⟨h1, _⟩ | ⟨v, xd, h1, h2, h3, h4, h5, h6, h7, h8, h9, h10, h11, h12, h13⟩
  · rw [h1] at hv; simp at hv
  · rw [h1] at hv
    simp at hv
    obtain ⟨k, ⟨kd, s, ⟨Al, nl, cl⟩, ⟨Az, nz, cz⟩, ⟨Ah, nh, ch⟩, tl⟩⟩ := x
    subst hv
    dsimp only at h2 h3 h5 h6 h7 h8 h9 h10 h11 h12 h13
    subst h3; subst h5; subst h6; subst h7; subst h8; subst h9; subst h10
    exact ⟨xd, Al, cl, Az, cz, Ah, ch, h2, h4, rfl, h11, h12, h13⟩
theorem SpX.item_of {k : ByteArray} {xd : EnD} (hD : D k = some xd) : ∃ v, (k, v) ∈ (T.a ++ T.b).flatten ∧ v.till = xd.till := by
  rcases hq.hE k with ⟨_, h2⟩ | ⟨v, x, h1, h2, h3, h4, h5⟩
  · rw [hD] at h2; cases h2
  · rw [hD] at h2
    injection h2 with h2
    subst h2
    exact ⟨v, vl_mem.1 (by rw [vt_items hq.hw, h1]; exact List.mem_cons_self ..), h5.2.2.1⟩
end
/-! ### Rows of keys; of entries -/
def KeysOf (D : ByteArray → Option EnD) (p : Int → Bool) (l : List ByteArray) : Prop := Inc l ∧ ∀ k, k ∈ l ↔ ∃ x, D k = some x ∧ p x.till = true
theorem srtK_mem {l : List ByteArray} {k : ByteArray} : k ∈ srtK l ↔ k ∈ l := by
  unfold srtK sortS
  rw [List.mem_map]
  constructor
  · rintro ⟨a, ha, rfl⟩
    obtain ⟨b, hb, rfl⟩ := List.mem_map.1 ((List.mergeSort_perm _ _).mem_iff.1 ha)
    rw [ofL_toL]; exact hb
  · exact fun h => ⟨toL k, (List.mergeSort_perm _ _).mem_iff.2 (List.mem_map.2 ⟨k, h, rfl⟩), ofL_toL k⟩
theorem srtK_inc {l : List ByteArray} (h : l.Nodup) : Inc (srtK l) := by
  have hs : (sortS l).Pairwise (fun x y => x ≤ y) := by
    have := List.pairwise_mergeSort (le := fun x y : List UInt8 => decide (x ≤ y)) (fun a b c h1 h2 => by simp at *; exact List.le_trans h1 h2) (fun a b => by simp; exact List.le_total a b) (l.map toL)
    exact this.imp fun h => by simpa using h
  have hn : (sortS l).Nodup := (List.mergeSort_perm _ _).nodup_iff.2 (List.Pairwise.map toL (fun {a b} hne (e : toL a = toL b) => hne (toL_inj e)) h)
  unfold Inc srtK
  rw [List.pairwise_map]
  refine (hs.and hn).imp fun {a b} ⟨h1, h2⟩ => ?_
  rcases slt_tri (ofL a) (ofL b) with h | h | h
  · exact h
  · exact absurd (by rw [← toL_ofL a, ← toL_ofL b, h]) h2
  · rw [slt_iff, toL_ofL, toL_ofL] at h
    exact absurd h (List.not_lt.2 h1)
theorem keys_of {w : World} {H Vb : Nat → Prop} {sp t : Nat} {T : Tb EntV} {D : ByteArray → Option EnD} (hq : SpX w H Vb sp t T D) (p : Int → Bool) : KeysOf D p (srtK (keysP p (T.a ++ T.b).flatten)) := by
  refine ⟨srtK_inc (List.Nodup.sublist (List.Sublist.map _ (List.filter_sublist ..)) hq.items_nodup), fun k => ?_⟩
  rw [srtK_mem]
  unfold keysP
  rw [List.mem_map]
  constructor
  · rintro ⟨x, hx, rfl⟩
    obtain ⟨hm, hp⟩ := List.mem_filter.1 hx
    obtain ⟨xd, _, _, _, _, _, _, hD, _, rfl, _⟩ := hq.item hm
    exact ⟨xd, hD, hp⟩
  · rintro ⟨x, hD, hp⟩
    obtain ⟨v, hm, ht⟩ := hq.item_of hD
    exact ⟨(k, v), List.mem_filter.2 ⟨hm, by rw [ht]; exact hp⟩, rfl⟩
theorem info39 : (Tryz.prog.info? 39).map (fun i => (i.zero, i.size, i.bytes)) = some (some (.agg #[.string ⟨#[]⟩, .int .i64 0, .string ⟨#[]⟩, .slice none 0 0, .slice none 0 0, .slice none 0 0, .int .i64 0]), 7, 120) := by kernel_rfl
/-! ### Rows of entries, and their data -/
def All2 {α β : Type} (P : α → β → Prop) : List α → List β → Prop
  | [], [] => True
  | a :: l, b :: m => P a b ∧ All2 P l m
  | _, _ => False
section
variable {α β : Type} {P Q : α → β → Prop}
theorem All2.len : ∀ {l : List α} {m : List β}, All2 P l m → l.length = m.length
  | [], [], _ => rfl
  | a :: l, b :: m, h => by rw [List.length_cons, List.length_cons, All2.len h.2]
  | [], b :: m, h => h.elim
  | a :: l, [], h => h.elim
theorem All2.imp (f : ∀ a b, P a b → Q a b) : ∀ {l : List α} {m : List β}, All2 P l m → All2 Q l m
  | [], [], _ => trivial
  | a :: l, b :: m, h => ⟨f a b h.1, All2.imp f h.2⟩
  | [], b :: m, h => h.elim
  | a :: l, [], h => h.elim
theorem All2.app {l' : List α} {m' : List β} (h' : All2 P l' m') : ∀ {l : List α} {m : List β}, All2 P l m → All2 P (l ++ l') (m ++ m')
  | [], [], _ => h'
  | a :: l, b :: m, h => ⟨h.1, All2.app h' h.2⟩
  | [], b :: m, h => h.elim
  | a :: l, [], h => h.elim
theorem All2.get : ∀ {l : List α} {m : List β}, All2 P l m → ∀ {i : Nat} {b : β}, m[i]? = some b → ∃ a, l[i]? = some a ∧ P a b
  | [], [], _, i, b, h => by simp at h
  | a :: l, c :: m, h, 0, b, hb => by simp at hb; subst hb; exact ⟨a, rfl, h.1⟩
  | a :: l, c :: m, h, i + 1, b, hb => by simpa using All2.get h.2 (i := i) (by simpa using hb)
  | [], c :: m, h, _, _, _ => h.elim
  | a :: l, [], h, _, _, _ => h.elim
theorem All2.perm {l' l : List α} (hp : l'.Perm l) : ∀ {m : List β}, All2 P l m → ∃ m', m'.Perm m ∧ All2 P l' m' := by
  induction hp with
  | nil => exact fun {m} h => ⟨m, .refl _, h⟩
  | cons x _ ih =>
    intro m h
    cases m with
    | nil => exact h.elim
    | cons b m =>
      obtain ⟨m', h1, h2⟩ := ih h.2
      exact ⟨b :: m', h1.cons b, h.1, h2⟩
  | swap x y l =>
    intro m h
    match m, h with
    | b :: c :: m, h => exact ⟨c :: b :: m, .swap b c m, h.2.1, h.1, h.2.2⟩
    | [b], h => exact h.2.elim
    | [], h => exact h.elim
  | trans _ _ ih1 ih2 =>
    intro m h
    obtain ⟨m1, h1, h2⟩ := ih2 h
    obtain ⟨m2, h3, h4⟩ := ih1 h2
    exact ⟨m2, h3.trans h1, h4⟩
end
def AllE (Z : Nat → Prop) (w : World) (rs : List (ByteArray × EntV)) (xs : List EnD) : Prop := All2 (fun r x => r.1 = x.key ∧ EntIs Z w r.2 x) rs xs
section
variable {Z Z' : Nat → Prop} {w w1 : World} {rs : List (ByteArray × EntV)} {xs : List EnD} {nq N m : Nat} {v : Value}
theorem AllE.perm {rs' : List (ByteArray × EntV)} (hp : rs'.Perm rs) (h : AllE Z w rs xs) : ∃ xs', xs'.Perm xs ∧ AllE Z w rs' xs' := All2.perm hp h
theorem AllE.nil : AllE Z w [] [] := trivial
theorem AllE.fr {l : List Nat} (h : AllE Z w rs xs) (f : Fr l w w1) (hl : ∀ k ∈ l, ¬ Z k) : AllE Z w1 rs xs := All2.imp (fun a b q => ⟨q.1, q.2.frP (FrP.of f) fun k hz hm => hl k hm hz⟩) h
theorem AllE.fr0 (h : AllE Z w rs xs) (f : Fr [] w w1) : AllE Z w1 rs xs := h.fr f fun k hk => absurd hk (by simp)
theorem AllE.zone (h : AllE Z w rs xs) (hz : ∀ k, Z k → Z' k) : AllE Z' w rs xs := All2.imp (fun a b q => ⟨q.1, q.2.zone hz⟩) h
theorem AllE.raise (h : AllE (Zi nq N v) w rs xs) (hm : N ≤ m) : AllE (Zi nq m v) w rs xs := h.zone fun k q => ⟨q.1, Nat.lt_of_lt_of_le q.2.1 hm, q.2.2⟩
theorem AllE.add {Al Az Ah : Option Addr} {cl cz ch b1 b2 b3 : Nat} {x : EnD} (h : AllE (Zi nq N v) w rs xs) {v1 : Value} {N1 : Nat} (hz : ∀ k, Zi nq N v k → Zi nq N1 v1 k) (o1 : OwR Rp.str NoZ w b1 9 (.slice Al x.l.length cl) x.l) (o2 : OwR scR NoZ w b2 107 (.slice Az x.z.length cz) x.z) (o3 : OwR fdR NoZ w b3 110 (.slice Ah x.h.length ch) x.h)
    (hd : ∀ k, ((Value.slice Al x.l.length cl).ownBlock = some k ∨ (Value.slice Az x.z.length cz).ownBlock = some k ∨ (Value.slice Ah x.h.length ch).ownBlock = some k) → Zi nq N1 v1 k) :
    AllE (Zi nq N1 v1) w (rs ++ [(x.key, ⟨x.k, x.s, ⟨Al, x.l.length, cl⟩, ⟨Az, x.z.length, cz⟩, ⟨Ah, x.h.length, ch⟩, x.till⟩)]) (xs ++ [x]) :=
  have h1 : AllE (Zi nq N1 v1) w [(x.key, ⟨x.k, x.s, ⟨Al, x.l.length, cl⟩, ⟨Az, x.z.length, cz⟩, ⟨Ah, x.h.length, ch⟩, x.till⟩)] [x] := ⟨⟨rfl, rfl, rfl, rfl, rfl, rfl, rfl, own_zone o1 (fun _ _ _ _ q => q) fun b q => hd b (.inl q), own_zone o2 (fun _ _ _ _ q => q) fun b q => hd b (.inr (.inl q)), own_zone o3 (fun _ _ _ _ q => q) fun b q => hd b (.inr (.inr q))⟩, trivial⟩
  All2.app h1 (h.zone hz)
theorem encE_ok {r : ByteArray × EntV} {x : EnD} (h : r.1 = x.key) (q : EntIs Z w r.2 x) : enR.ok Z w x (encE r) := by
  obtain ⟨k, ⟨kd, s, ⟨Al, nl, cl⟩, ⟨Az, nz, cz⟩, ⟨Ah, nh, ch⟩, tl⟩⟩ := r
  obtain ⟨h1, h2, h3, h4, h5, h6, h7, h8, h9⟩ := q
  dsimp only at h h1 h2 h3 h4 h5 h6 h7 h8 h9
  subst h; subst h1; subst h2; subst h3; subst h4; subst h5; subst h6
  exact ⟨_, _, _, rfl, h7, h8, h9⟩
/-- A row of entries is a row of their data. -/
theorem AllE.row {Zr : Nat → Prop} {A : Option Addr} {c : Nat} (hS : SlR entR Zr w (.slice A rs.length c) rs) (h : AllE Z w rs xs) (hz : ∀ k, Z k → Z' k) (hr : ∀ k, Zr k → Z' k) : SlR enR Z' w (.slice A xs.length c) xs := by
  obtain ⟨A', c', e, l1, l2, l3⟩ := hS
  injection e with e1 e2 e3
  subst e1; subst e3
  have hl := All2.len h
  refine ⟨A, c, rfl, by omega, by omega, fun i x hi => ?_⟩
  obtain ⟨r, hr1, hk, he⟩ := All2.get h hi
  obtain ⟨g, o, cs, hA, hZ, hg, hok, hc⟩ := l3 i r hr1
  have hok' : cs = encE r := hok
  subst hok'
  exact ⟨g, o, encE r, hA, hr g hZ, hg, (encE_ok hk (he.zone hz)), hc⟩
end
/-! ### The image -/
def imgD (D : ByteArray → Option EnD) (l : List (ByteArray × EntV)) : List EnD := l.filterMap fun x => D x.1
theorem imgD_add {D : ByteArray → Option EnD} {l : List (ByteArray × EntV)} {x : ByteArray × EntV} {xd : EnD} (h : D x.1 = some xd) : imgD D (l ++ [x]) = imgD D l ++ [xd] := by unfold imgD; rw [List.filterMap_append]; simp [h]
def ImgL (D : ByteArray → Option EnD) (l : List EnD) : Prop := l.Pairwise (fun a b => slt a.key b.key) ∧ ∀ x, x ∈ l ↔ D x.key = some x
theorem all_keys {Z : Nat → Prop} {w : World} : ∀ {rs : List (ByteArray × EntV)} {xs : List EnD}, AllE Z w rs xs → xs.map (·.key) = rs.map (·.1)
  | [], [], _ => rfl
  | r :: rs, x :: xs, h => by rw [List.map_cons, List.map_cons, h.1.1, all_keys (rs := rs) (xs := xs) h.2]
  | [], _ :: _, h => h.elim
  | _ :: _, [], h => h.elim
theorem img_of {w w' : World} {H Vb Z : Nat → Prop} {sp t : Nat} {T : Tb EntV} {D : ByteArray → Option EnD} (hq : SpX w H Vb sp t T D) {rs' : List (ByteArray × EntV)} {xs' : List EnD} (hs : SrtE rs') (ha : AllE Z w' rs' xs') (hp : xs'.Perm (imgD D (T.a ++ T.b).flatten)) : ImgL D xs' := by
  have hk := all_keys ha
  have hkd : ∀ (l : List (ByteArray × EntV)), (∀ x ∈ l, x ∈ (T.a ++ T.b).flatten) → (imgD D l).map (·.key) = l.map (·.1) := by
    intro l
    induction l with
    | nil => exact fun _ => rfl
    | cons x l ih =>
      intro h
      obtain ⟨xd, _, _, _, _, _, _, hD, _, rfl, _⟩ := hq.item (h x (List.mem_cons_self ..))
      unfold imgD
      rw [List.filterMap_cons]
      simp only [hD]
      rw [List.map_cons, List.map_cons]
      exact congrArg _ (ih fun y hy => h y (List.mem_cons_of_mem _ hy))
  have hn : (xs'.map (·.key)).Nodup := by
    rw [(hp.map (·.key)).nodup_iff, hkd _ fun x hx => hx]
    exact hq.items_nodup
  refine ⟨?_, fun x => ?_⟩
  · rw [List.pairwise_iff_getElem]
    intro i j hi hj hij
    have hl := All2.len ha
    have h1 := hs i j (by omega) hij
    have e1 : ∀ i (hi : i < xs'.length), (xs'[i]).key = (rs'[i]'(by omega)).1 := fun i hi => by
      have : (xs'.map (·.key))[i]? = (rs'.map (·.1))[i]? := by rw [hk]
      rw [List.getElem?_map, List.getElem?_map, List.getElem?_eq_getElem hi, List.getElem?_eq_getElem (by omega)] at this
      simpa using this
    rw [← e1 i hi, ← e1 j hj] at h1
    rcases slt_tri (xs'[i]).key (xs'[j]).key with q | q | q
    · exact q
    · rw [List.nodup_iff_pairwise_ne, List.pairwise_map, List.pairwise_iff_getElem] at hn
      exact absurd q (hn i j hi hj hij)
    · exact absurd q h1
  · rw [hp.mem_iff]
    unfold imgD
    rw [List.mem_filterMap]
    constructor
    · rintro ⟨y, hy, hD⟩
      obtain ⟨xd, _, _, _, _, _, _, hD', _, rfl, _⟩ := hq.item hy
      dsimp only at hD
      rw [hD'] at hD
      injection hD with hD
      subst hD
      exact hD'
    · intro hD
      obtain ⟨v, hm, _⟩ := hq.item_of hD
      exact ⟨_, hm, hD⟩
/-- One image alone. -/
theorem img_one' {D : ByteArray → Option EnD} : ∀ {l m : List EnD}, l.Pairwise (fun a b => slt a.key b.key) → m.Pairwise (fun a b => slt a.key b.key) → (∀ x, x ∈ l ↔ x ∈ m) → l = m
  | [], [], _, _, _ => rfl
  | [], b :: m, _, _, h => absurd ((h b).2 (List.mem_cons_self ..)) (by simp)
  | a :: l, [], _, _, h => absurd ((h a).1 (List.mem_cons_self ..)) (by simp)
  | a :: l, b :: m, h1, h2, h => by
    rw [List.pairwise_cons] at h1 h2
    have hab : a = b := by
      rcases List.mem_cons.1 ((h a).1 (List.mem_cons_self ..)) with e | e
      · exact e
      · rcases List.mem_cons.1 ((h b).2 (List.mem_cons_self ..)) with e' | e'
        · exact e'.symm
        · exact absurd (h2.1 a e) (slt_asymm (h1.1 b e'))
    subst hab
    refine congrArg _ (img_one' (D := D) h1.2 h2.2 fun x => ?_)
    constructor
    · intro hx
      rcases List.mem_cons.1 ((h x).1 (List.mem_cons_of_mem _ hx)) with e | e
      · subst e; exact absurd (h1.1 x hx) (slt_irr _)
      · exact e
    · intro hx
      rcases List.mem_cons.1 ((h x).2 (List.mem_cons_of_mem _ hx)) with e | e
      · subst e; exact absurd (h2.1 x hx) (slt_irr _)
      · exact e
theorem ImgL.uniq {D : ByteArray → Option EnD} {l m : List EnD} (h1 : ImgL D l) (h2 : ImgL D m) : l = m := img_one' (D := D) h1.1 h2.1 fun x => (h1.2 x).trans (h2.2 x).symm
theorem sort_en {w : World} {base : Nat} {A : Option Addr} {c : Nat} {l : List (ByteArray × EntV)} (h : OwR entR NoZ w base 39 (.slice A l.length c) l) (hl : l.length ≤ 1099511627776) :
    Calls Tryz.prog 42 #[.slice A l.length c, .func (.func 43) #[] #[]] w (fun e w' => e = .returned (.tuple #[]) ∧ ∃ l', l'.Perm l ∧ SrtE l' ∧ OwR entR NoZ w' base 39 (.slice A l'.length c) l' ∧ Fr ((Value.slice A l.length c).ownBlock.toList) w w') := by
  rcases caseE h with ⟨he, rfl⟩ | ⟨g, c', he⟩
  · injection he with e1 e2 e3
    subst e1; subst e3
    refine (show Calls Tryz.prog 42 #[.slice none ([] : List (ByteArray × EntV)).length 0, .func (.func 43) #[] #[]] w _ from AnyF.slices_SortFunc_none Tryz.laysSlF06_f42 none 0 (.func (.func 43) #[] #[]) w).mono fun e w' ⟨h1, h2⟩ => ⟨h1, [], .refl _, fun i j hj => absurd hj (by simp), OwR.nil .., h2 ▸ Fr.refl _ _⟩
  · injection he with e1 e2 e3
    subst e1; subst e3
    refine (sortE_any h hl).mono fun e w' ⟨h1, l', h2, h3, h4, h5⟩ => ⟨h1, l', h2, h3, h4, h5.mono (by simp [Value.ownBlock])⟩
theorem image_any (w : World) (H Vb : Nat → Prop) (sp t : Nat) (T : Tb EntV) (D : ByteArray → Option EnD) (hq : SpX w H Vb sp t T D) : Calls Tryz.prog 14 #[.pointer (some ⟨sp, 0, none⟩)] w (fun e w' => ∃ A c rs xs nq, e = .returned (.slice A xs.length c) ∧ rs.length = xs.length ∧ OwR entR NoZ w' nq 39 (.slice A rs.length c) rs ∧ AllE (fun k => nq ≤ k ∧ (Value.slice A rs.length c).ownBlock ≠ some k) w' rs xs ∧ ImgL D xs ∧ w.heap.size ≤ nq ∧ Fr [] w w') := by
 have hF := Fr.refl [] w
 have hX := hq
 have hB := hq.hB
 have hspl := hB.lt
 have hX0 := hq.lt
 have hcn := hq.hT.1.cn
 have hM := hq.hM
 refine V.enM 29 Tryz.func14 fun a h1 => ?_
 refine V.sr h1 [] 2 2 [] fun a h4 => ?_
 refine V.seq fun K5 k6 => ?_
 refine V.sg fun K7 k8 => ?_
 refine V.run h4 [] 1 1 0 [(6, .pointer (some ⟨sp, 0, none⟩))] fun a h9 => ?_
 refine V.cl h9 (Go.Proofs.enters_of Tryz.func29 (by kernel_rfl) rfl) (isp_any w sp t hX.hB) ?_
 rintro _ w11 ⟨rfl, hF10⟩
 refine ⟨_, rfl, fun a h12 => ?_⟩
 have hsw11 := hF10.size
 have hX_13 := hX.fr0 hF10
 have hB_14 := hB.fr0 hF10
 have hF_15 := hF.new hF10
 refine V.re h12 [] 1 0 [(8, .bool false)] fun a h16 => k8 _ _ ?_
 refine V.cf h16 ?_
 refine V.skip ?_
 refine V.then_n (k6 _ _ ?_)
 refine V.sg fun K17 k18 => ?_
 refine V.go (V.mk [] trivial (by kernel_rfl) [.slice none 0 0] 22 (fun b => .pointer (some ⟨b, 0, none⟩)) (by kernel_rfl) ?_)
 intro w20 b19 heb19 hB21 hF22 hsb19
 have hX_23 := hX_13.fr0 hF22
 have hB_24 := hB_14.fr0 hF22
 have hF_25 := hF_15.new hF22
 refine V.pt h16 fun a h26 => ?_
 refine V.nt (k18 _ _ ?_)
 refine V.seq fun K27 k28 => ?_
 refine V.sg fun K29 k30 => ?_
 refine V.run h26 [(3, .b hB_24 0)] 4 9 11 [(12, .pointer (some ⟨t, 0, none⟩))] fun a h31 => ?_
 refine V.cl h31 (Go.Proofs.enters_of Tryz.func41 (by kernel_rfl) rfl) (all_any w20 (some ⟨t, 0, none⟩)) ?_
 rintro _ w35 ⟨b32, rfl, hB33, hleb32, hF34⟩
 refine ⟨_, rfl, fun a h36 => ?_⟩
 have hsw35 := hF34.size
 have hX_37 := hX_23.fr0 hF34
 have hF_39 := hF_25.new hF34
 have hB21_40 := hB21.fr0 hF34
 have hlthB33 := hB33.lt
 refine V.nt (k30 _ _ ?_)
 refine V.block ?_
 refine V.rngQ h36.sd h36.e (Go.Proofs.enters_of Tryz.func72 (by kernel_rfl) rfl) (KB := fun nq k => w35.heap.size + 2 ≤ k ∧ k < nq) (fun nq k hnq hk => by (try dsimp only at hk); omega) (all1_iterQ w35 (H) [] t (T) hX_37.hT (fun k hk => (hX_37.hH k hk).2.2) b32 hB33) (fun _ => rfl) (fun (nq : Nat) (pre : List (ByteArray × EntV)) W_ => ∃ (A : Option Addr), ∃ (c : Nat), ∃ (rs : List (ByteArray × EntV)), Blk W_ b19 [.slice A rs.length c] 22 ∧ OwR entR NoZ W_ nq 39 (.slice A rs.length c) rs ∧ AllE (Zi nq W_.heap.size (.slice A rs.length c)) W_ rs (imgD D pre) ∧ Fr [] w W_ ∧ (w35.heap.size + 2 ≤ nq) ∧ (rs.length = pre.length)) (fun _ _ _ _ => False) ?_ ?_ ?_ ?_ ?_ ?_
 ·
  rintro nq pre W W1 ⟨A, c, rs, hB3, hO, hAll, hFr, hnq0, hrp⟩ hf
  have := hB3.lt
  have := hFr.size
  exact ⟨A, c, rs, (by exact hB3.fr1 hf (by omega)), (by exact hO.frn hf (fun h => h) (by first | exact own_ne hO (by omega))), (by exact (hAll.fr hf (by intro k hk hz; simp only [List.mem_singleton] at hk; subst hk; have := hz.1; have := hz.2.1; omega)).raise (m := W1.heap.size) hf.size), (by exact hFr.own hf (by simp <;> omega)), hnq0, hrp⟩
 · rintro _ _ _ _ _ h _
   exact h.elim
 ·
  rintro W hf hszW
  have hF_43 := hF_39.new hf
  have hB21_44 := hB21_40.fr0 hf
  exact ⟨none, 0, [], hB21_44, (OwR.nil ..), AllE.nil, hF_43, hszW, rfl⟩
 ·
  rintro l nq pre x W0 W hl hnq hnqW ⟨A, c, rs, hB3, hO, hAll, hFr, hnq0, hrp⟩ hfr hsp hsz a1 hz1 htm
  subst hl
  obtain ⟨rest, hrest⟩ := id hsp
  have hrl := congrArg List.length hrest
  rw [hcn] at hrl
  simp only [List.length_append, List.length_singleton] at hrl
  obtain ⟨xd, Al, cl, Az, cz, Ah, ch, hDx, hokx, rfl, hSl, hSz, hSh⟩ := hq.item (x := x) (by rw [← hrest]; simp)
  have hbx := okD_bnd hokx
  have hOlt := hO.lt
  have hszfr := hfr.size
  have hlt46 := hB3.lt
  have hfs47 := hFr.size
  have hB3_48 := hB3.fr0 hfr
  have hO_49 := hO.fr0 hfr
  have hAll_50 := hAll.fr0 hfr
  have hFr_51 := hFr.new hfr
  have hK := KeptP.refl (fun k => k = w35.heap.size ∨ k = w35.heap.size + 1 ∨ (w35.heap.size + 2 ≤ k ∧ k < nq)) W
  have htm1 : a1.tmps = (a.tmps.setIfInBounds 14 (.string xd.key)).setIfInBounds 15 (.agg #[.int .i64 xd.k, .string xd.s, .slice Al xd.l.length cl, .slice Az xd.z.length cz, .slice Ah xd.h.length ch, .int .i64 xd.till]) := by simpa [encP] using htm
  have s14 : a1.eval (.tmp 14) = (.string xd.key) := par2_fst h36.sd rfl rfl htm1
  have hE := (En.nil hz1).add s14
  have s15 : a1.eval (.tmp 15) = (.agg #[.int .i64 xd.k, .string xd.s, .slice Al xd.l.length cl, .slice Az xd.z.length cz, .slice Ah xd.h.length ch, .int .i64 xd.till]) := par2_snd h36.sd rfl htm1
  replace hE := hE.add s15
  have s3_52 : a1.eval (.tmp 3) = (.pointer (some ⟨b19, 0, none⟩)) := par2_other htm1 rfl rfl h36.e
  replace hE := hE.add s3_52
  refine V.sr hE [] 1 0 [(4, .string xd.key)] fun a h55 => ?_
  refine V.rg ?_
  refine V.go (V.mk [] trivial (by kernel_rfl) [.int .i64 0, .string ⟨#[]⟩, .slice none 0 0, .slice none 0 0, .slice none 0 0, .int .i64 0] 79 (fun b => .pointer (some ⟨b, 0, none⟩)) (by kernel_rfl) ?_)
  intro w57 b56 heb56 hB58 hF59 hsb56
  have hB3_60 := hB3_48.fr0 hF59
  have hO_61 := hO_49.fr0 hF59
  have hAll_62 := hAll_50.fr0 hF59
  have hFr_63 := hFr_51.new hF59
  have hK_64 := hK.fr hF59 (by simp)
  refine V.pt h55 fun a h65 => ?_
  refine V.go (V.stn b56 0 (.agg #[.int .i64 xd.k, .string xd.s, .slice Al xd.l.length cl, .slice Az xd.z.length cz, .slice Ah xd.h.length ch, .int .i64 xd.till]) [.int .i64 xd.k, .string xd.s, .slice Al xd.l.length cl, .slice Az xd.z.length cz, .slice Ah xd.h.length ch, .int .i64 xd.till] h65.e h65.e rfl rfl (by kernel_rfl) hB58 (by simp) [.int .i64 xd.k, .string xd.s, .slice Al xd.l.length cl, .slice Az xd.z.length cz, .slice Ah xd.h.length ch, .int .i64 xd.till] rfl ?_)
  intro w66 hB67 hF68 hsw66
  have hB3_69 := hB3_60.fr1 hF68 (by omega)
  have hO_70 := hO_61.frn hF68 (fun h => h) (by first | exact own_ne hO_61 (by omega) | exact own_ne2 hO (by omega))
  have hAll_71 := hAll_62.fr hF68 (by intro k hk hz; simp only [List.mem_singleton] at hk; subst hk; have := hz.1; have := hz.2.1; omega)
  have hFr_72 := hFr_63.own hF68 (by simp <;> omega)
  have hK_73 := hK_64.fr hF68 (by intro k hk; simp only [List.mem_singleton] at hk; subst hk; intro h; (try dsimp only at h); omega)
  refine V.nil ?_
  refine ⟨hK_73, fun W2 hf2 => ?_⟩
  have hszf2 := hf2.size
  have hB3_74 := hB3_69.fr1 hf2 (by omega)
  have hO_75 := hO_70.frn hf2 (fun h => h) (by first | exact own_ne hO_70 (by omega) | exact own_ne2 hO (by omega))
  have hAll_76 := hAll_71.fr hf2 (by intro k hk hz; simp only [List.mem_singleton] at hk; subst hk; have := hz.1; have := hz.2.1; omega)
  have hFr_77 := hFr_72.own hf2 (by simp <;> omega)
  have hB67_78 := hB67.fr1 hf2 (by omega)
  have hK2 := KeptP.refl (fun k => k = w35.heap.size ∨ k = w35.heap.size + 1 ∨ (w35.heap.size + 2 ≤ k ∧ k < nq)) W2
  refine V.block ?_
  have hS79 := hSl.fr0 hFr_77
  have hS80 := hSz.fr0 hFr_77
  have hS81 := hSh.fr0 hFr_77
  refine V.pl [([0,1,2,3,5,6],some (4,[0,6])),([7],some (8,[0])),([],some (9,[])),([],some (10,[])),([],none)] fun w82 hF83 hsw82 => ?_
  have hB3_84 := hB3_74.fr0 hF83
  have hO_85 := hO_75.fr0 hF83
  have hAll_86 := hAll_76.fr0 hF83
  have hFr_87 := hFr_77.new hF83
  have hB67_88 := hB67_78.fr0 hF83
  have hK2_89 := hK2.fr hF83 (by simp)
  have hS79_90 := hS79.fr0 hF83
  have hS80_91 := hS80.fr0 hF83
  have hS81_92 := hS81.fr0 hF83
  refine V.pe h65 [(0, .b hB3_84 0), (2, .bs hB67_88 0 [.int .i64 xd.k, .string xd.s, .slice Al xd.l.length cl, .slice Az xd.z.length cz, .slice Ah xd.h.length ch]), (1, .b hB67_88 5)] 18 18 [(16, .slice A rs.length c), (17, .string xd.key), (19, .agg #[.int .i64 xd.k, .string xd.s, .slice Al xd.l.length cl, .slice Az xd.z.length cz, .slice Ah xd.h.length ch]), (21, .pointer (some ⟨b56, 5, none⟩)), (22, .int .i64 xd.till)] fun a h93 => ?_
  refine V.cl h93 (Go.Proofs.enters_of Tryz.func33 (by kernel_rfl) rfl) (copied_any w82 xd.k xd.s Al cl xd.l hS79_90.old Az cz xd.z hS80_91.old Ah ch xd.h hS81_92.old (by omega) (by omega) (by omega)) ?_
  rintro _ w108 ⟨A94, c95, A96, c97, A98, c99, rfl, hO100, hO101, hO102, hd104, hF103⟩
  refine ⟨_, rfl, fun a h109 => ?_⟩
  have hsw108 := hF103.size
  have hB3_110 := hB3_84.fr0 hF103
  have hO_111 := hO_85.fr0 hF103
  have hAll_112 := hAll_86.fr0 hF103
  have hFr_113 := hFr_87.new hF103
  have hB67_114 := hB67_88.fr0 hF103
  have hK2_115 := hK2_89.fr hF103 (by simp)
  have hl105 := hO100.lt
  have hl106 := hO101.lt
  have hl107 := hO102.lt
  refine V.eh ⟨(fun _ => held_blk (n := 1) (hx := (h93.e (v := (.pointer (some ⟨b19, 0, none⟩))))) hB3_84 hB3_110 (by kernel_rfl) rfl (by simp only [List.length]; omega)), (fun _ => held_blk (n := 1) (hx := (h93.e (v := (.pointer (some ⟨b56, 5, none⟩))))) hB67_88 hB67_114 (by kernel_rfl) rfl (by simp only [List.length]; omega))⟩ ?_
  refine V.pe h109 [] 1 0 [(23, .agg #[.string xd.key, .int .i64 xd.k, .string xd.s, .slice A94 xd.l.length c95, .slice A96 xd.z.length c97, .slice A98 xd.h.length c99, .int .i64 xd.till])] fun a h116 => ?_
  refine V.go (V.mk [(23, .agg #[.string xd.key, .int .i64 xd.k, .string xd.s, .slice A94 xd.l.length c95, .slice A96 xd.z.length c97, .slice A98 xd.h.length c99, .int .i64 xd.till])] ⟨h116.e, trivial⟩ (by kernel_rfl) [.string xd.key, .int .i64 xd.k, .string xd.s, .slice A94 xd.l.length c95, .slice A96 xd.z.length c97, .slice A98 xd.h.length c99, .int .i64 xd.till] 39 (fun b => .slice (some ⟨b, 0, none⟩) 1 1) (by kernel_rfl) ?_)
  intro w118 b117 heb117 hB119 hF120 hsb117
  have hB3_121 := hB3_110.fr0 hF120
  have hO_122 := hO_111.fr0 hF120
  have hAll_123 := hAll_112.fr0 hF120
  have hFr_124 := hFr_113.new hF120
  have hK2_126 := hK2_115.fr hF120 (by simp)
  have hO100_127 := hO100.fr0 hF120
  have hO101_128 := hO101.fr0 hF120
  have hO102_129 := hO102.fr0 hF120
  refine V.pt h116 fun a h130 => ?_
  refine V.eh (fun _ => held_blk (n := 1) (hx := (h116.e (v := (.pointer (some ⟨b19, 0, none⟩))))) hB3_110 hB3_121 (by kernel_rfl) rfl (by simp only [List.length]; omega)) ?_
  refine V.pe h130 [] 1 0 [] fun a h131 => ?_
  refine V.go (V.app (R := entR) (ys := ([(xd.key, ⟨xd.k, xd.s, ⟨A94, xd.l.length, c95⟩, ⟨A96, xd.z.length, c97⟩, ⟨A98, xd.h.length, c99⟩, xd.till⟩)])) (news := [.string xd.key, .int .i64 xd.k, .string xd.s, .slice A94 xd.l.length c95, .slice A96 xd.z.length c97, .slice A98 xd.h.length c99, .int .i64 xd.till]) (h131.e (v := (.slice A rs.length c))) ⟨b117, 0, none⟩ 1 1 (h131.e (v := (.slice (some ⟨b117, 0, none⟩) 1 1))) (by kernel_rfl) (info39) (by kernel_rfl) (by decide) hO_122 rfl ⟨_, [], rfl, rfl, rfl⟩ (blk_cells hB119 0 _ rfl) (by first | omega | (simp; omega)) (by decide) (by omega) ?_)
  intro A132 c133 w134 hO135z hF136 hatw134
  have hsw134 := hF136.size
  have hB3_137 := hB3_121.fr hF136 (by first | exact own_notin hO_122 (by omega) | exact own_notin2 hO (by omega))
  have hAll_138 := hAll_123.fr hF136 (by intro k hk hz; exact hz.2.2 (by simpa using hk))
  have hFr_139 := hFr_124.own hF136 (own_ge hO_122 (by omega))
  have hK2_141 := hK2_126.fr hF136 (by intro k hk; have hog := own_ge hO_122 (Nat.le_refl _) k hk; intro h; (try dsimp only at h); omega)
  have hO100_142 := hO100_127.fr hF136 (fun _ _ h => h) (fun b hb hm => by have hb1 := hl105 b hb; have hb2 := hO.lt b (by simpa using hm); omega)
  have hO101_143 := hO101_128.fr hF136 (fun _ _ h => h) (fun b hb hm => by have hb1 := hl106 b hb; have hb2 := hO.lt b (by simpa using hm); omega)
  have hO102_144 := hO102_129.fr hF136 (fun _ _ h => h) (fun b hb hm => by have hb1 := hl107 b hb; have hb2 := hO.lt b (by simpa using hm); omega)
  have hO135 := hO135z.zone (Z' := NoZ) (fun _ _ q => q.1) (fun _ _ q => q)
  refine V.pt h131 fun a h145 => ?_
  refine V.eh trivial ?_
  refine V.pe h145 [] 1 0 [] fun a h146 => ?_
  refine V.go (V.stn b19 0 (.slice A132 ((rs.length) + 1) c133) [.slice A132 ((rs.length) + 1) c133] h146.e h146.e rfl rfl (by kernel_rfl) hB3_137 (by simp) [.slice A132 ((rs.length) + 1) c133] rfl ?_)
  intro w147 hB148 hF149 hsw147
  have hAll_150 := hAll_138.fr hF149 (by intro k hk hz; simp only [List.mem_singleton] at hk; subst hk; have := hz.1; have := hz.2.1; omega)
  have hFr_151 := hFr_139.own hF149 (by simp <;> omega)
  have hK2_153 := hK2_141.fr hF149 (by intro k hk; simp only [List.mem_singleton] at hk; subst hk; intro h; (try dsimp only at h); omega)
  have hO100_154 := hO100_142.frn hF149 (fun h => h) (fun e => by have := hl105 _ e; omega)
  have hO101_155 := hO101_143.frn hF149 (fun h => h) (fun e => by have := hl106 _ e; omega)
  have hO102_156 := hO102_144.frn hF149 (fun h => h) (fun e => by have := hl107 _ e; omega)
  have hO135_157 := hO135.frn hF149 (fun h => h) (by first | exact own_ne hO135 (by omega) | exact own_ne2 hO135 (by omega))
  refine V.eh trivial ?_
  refine V.pz h146 [] 1 0 [] fun a h158 => ?_
  refine V.blk_n ?_
  have hdx := imgD_add (l := pre) (x := (xd.key, ⟨xd.k, xd.s, ⟨Al, xd.l.length, cl⟩, ⟨Az, xd.z.length, cz⟩, ⟨Ah, xd.h.length, ch⟩, xd.till⟩)) hDx
  have hv1 : ∀ k, (Value.slice A132 ((rs.length) + 1) c133).ownBlock = some k → (Value.slice A rs.length c).ownBlock = some k ∨ k = w118.heap.size := fun k hk => by rcases hatw134 with q | q; exact .inl (q ▸ hk); (rw [q] at hk; injection hk with hk; exact .inr hk.symm)
  have hadd := hAll_150.add (x := xd) (v1 := .slice A132 ((rs.length) + 1) c133) (N1 := w147.heap.size) (fun k hk => ⟨hk.1, by have := hk.2.1; omega, fun e => by rcases hv1 k e with q | q; exact hk.2.2 q; have := hk.2.1; omega⟩) hO100_154 hO101_155 hO102_156 (fun k hk => by have hkb : w82.heap.size ≤ k ∧ k < w118.heap.size := (by rcases hk with q | q | q; (have := hl105 k q; omega); (have := hl106 k q; omega); (have := hl107 k q; omega)); exact ⟨by omega, by omega, fun e => by rcases hv1 k e with q | q; (have := hOlt k q; omega); omega⟩)
  exact ⟨hK2_153, A132, c133, rs ++ [(xd.key, ⟨xd.k, xd.s, ⟨A94, xd.l.length, c95⟩, ⟨A96, xd.z.length, c97⟩, ⟨A98, xd.h.length, c99⟩, xd.till⟩)], (by rw [List.length_append]; exact hB148), (by rw [List.length_append]; exact hO135_157), (by rw [hdx, List.length_append]; exact hadd), hFr_151, hnq0, (by rw [List.length_append, List.length_append, hrp]; rfl)⟩
 ·
  rintro nq xs W hnq hS ⟨A, c, rs, hB3, hO, hAll, hFr, hnq0, hrp⟩ hD a2 hz2 htm2
  obtain ⟨pre, hprexs⟩ : ∃ pre, pre = xs := ⟨_, rfl⟩; subst hprexs
  have hE := En.nil hz2
  have hlt159 := hB3.lt
  have hfs160 := hFr.size
  have hDf : Df W (w35.heap.size) := hD
  have hDlt := (Array.getElem?_eq_some_iff.1 hD).1
  have s3_161 : a2.eval (.tmp 3) = (.pointer (some ⟨b19, 0, none⟩)) := par_tm htm2 h36.e
  replace hE := hE.add s3_161
  refine V.blk_n ?_
  refine V.then_n (k28 _ _ ?_)
  refine V.seq fun K162 k163 => ?_
  have hpl9 : pre.length = T.n := by rw [hS]; exact hcn
  refine V.rg ?_
  refine V.run hE [(0, .b hB3 0)] 1 1 0 [(26, .slice A rs.length c)] fun a h164 => ?_
  refine V.cl h164 (Go.Proofs.enters_of Tryz.func42 (by kernel_rfl) rfl) (sort_en (c := c) (l := rs) hO (by omega)) ?_
  rintro _ w173 ⟨rfl, rs165, hp167, hs168, hO169, hF171⟩
  refine ⟨_, rfl, fun a h174 => ?_⟩
  have hsw173 := hF171.size
  have hB3_175 := hB3.fr hF171 (by first | exact own_notin hO (by omega))
  have hAll_176 := hAll.fr hF171 (by intro k hk hz; exact hz.2.2 (by simpa using hk))
  have hFr_177 := hFr.own hF171 (own_ge hO (by omega))
  have hDf_178 := hDf.fr hF171 (own_notin hO (by omega))
  obtain ⟨xs166, hpx172, hA170⟩ := AllE.perm hp167 hAll_176
  refine V.nt (k163 _ _ ?_)
  refine V.sr h174 [(0, .b hB3_175 0)] 28 28 [(2, .slice A rs.length c)] fun a h181 => ?_
  refine V.ret ?_
  refine V.retM h181.sd hDf_178 (fun w182 hF183 => ?_)
  have hsw182 := hF183.size
  have hFr_185 := hFr_177.own hF183 (by simp <;> omega)
  have hO169_186 := hO169.frn hF183 (fun h => h) (by first | exact own_ne hO169 (by omega))
  have hA170_187 := hA170.fr hF183 (by intro k hk hz; simp only [List.mem_singleton] at hk; subst hk; have := hz.1; have := hz.2.1; omega)
  refine ⟨_, V.res1 rfl (h181.e (v := (.slice A rs.length c))), ?_⟩
  subst hS
  have hll := All2.len hA170_187
  have hpl := hp167.length_eq
  refine ⟨A, c, rs165, xs166, nq, ?_, ?_, hO169_186, (hA170_187.zone fun k q => ⟨q.1, by rw [hpl]; exact q.2.2⟩), img_of hq hs168 hA170_187 hpx172, by omega, hFr_185⟩
  · rw [← hll, hpl]
  · rw [← hll]
 · rintro _ _ _ _ _ _ h
   exact h.elim
/-! ### Entries by key -/
def dOf (l : List EnD) : ByteArray → Option EnD := fun k => l.find? fun x => decide (x.key = k)
theorem dOf_none {l : List EnD} {k : ByteArray} : dOf l k = none ↔ ∀ x ∈ l, x.key ≠ k := by
  unfold dOf
  rw [List.find?_eq_none]
  simp
theorem dOf_app (l m : List EnD) (k : ByteArray) : dOf (l ++ m) k = (dOf l k).or (dOf m k) := by unfold dOf; rw [List.find?_append]
theorem dOf_add {l : List EnD} {x : EnD} (h : dOf l x.key = none) : dOf (l ++ [x]) = updD (dOf l) x.key (some x) := by
  funext k
  rw [dOf_app]
  by_cases hk : k = x.key
  · subst hk; rw [updD_same, h]; simp [dOf]
  · rw [updD_other hk]
    have h1 : dOf [x] k = none := dOf_none.2 fun y hy => by simp at hy; subst hy; exact fun e => hk e.symm
    rw [h1]; simp
def Ris (l : List EnD) : Prop := l.Pairwise fun a b => slt a.key b.key
theorem Ris.take {l : List EnD} (h : Ris l) {i : Nat} (hi : i < l.length) : dOf (l.take i) (l[i]).key = none := dOf_none.2 fun y hy e => by
  obtain ⟨j, hj, he⟩ := List.getElem_of_mem hy
  rw [List.length_take] at hj
  have h1 := (List.pairwise_iff_getElem.1 h) j i (by omega) hi (by omega)
  rw [List.getElem_take] at he
  rw [he, e] at h1
  exact slt_irr _ h1
theorem at_enR {l : List EnD} {i : Nat} (hi : i < l.length) : at_ enR l (i : Int) = l[i] := by unfold at_; rw [Int.toNat_natCast, List.getD_eq_getElem?_getD, List.getElem?_eq_getElem hi]; rfl
theorem img_good {l : List EnD} (h : imgN l = 0) : l.length ≤ 65536 ∧ (∀ x ∈ l, okD x) ∧ Ris l := by
  have hl : ¬ l.length > 65536 := fun q => by rw [imgN_many q] at h; omega
  have hg : AllG (gE l) l.length := by
    rcases Classical.em (AllG (gE l) l.length) with q | q
    · exact q
    · rw [imgN_no hl q] at h; omega
  refine ⟨by omega, fun x hx => ?_, ?_⟩
  · obtain ⟨i, hi, he⟩ := List.getElem_of_mem hx
    have := (hg i hi).1
    rw [at_enR hi, he] at this
    exact this
  · have hinc : Inc (l.map (·.key)) := inc_of_adj fun i x y hx hy => by
      rw [List.getElem?_map] at hx hy
      obtain ⟨a, ha, rfl⟩ := Option.map_eq_some_iff.1 hx
      obtain ⟨b, hb, rfl⟩ := Option.map_eq_some_iff.1 hy
      obtain ⟨hi, he⟩ := List.getElem?_eq_some_iff.1 ha
      obtain ⟨hj, he'⟩ := List.getElem?_eq_some_iff.1 hb
      have := (hg (i + 1) hj).2 (by omega)
      rw [at_enR hj, show (((i + 1 : Nat) : Int) - 1) = (i : Int) by omega, at_enR hi, he, he'] at this
      exact this
    unfold Inc at hinc
    rw [List.pairwise_map] at hinc
    exact hinc
theorem dOf_next {l : List EnD} (h : Ris l) {i : Nat} (hi : i < l.length) : dOf (l.take (i + 1)) = updD (dOf (l.take i)) (at_ enR l (i : Int)).key (some (at_ enR l (i : Int))) := by
  rw [at_enR hi, ← dOf_add (h.take hi), List.take_succ_eq_append_getElem hi]
theorem load_bad (w : World) (Al : Option Addr) (cl : Nat) (l : List EnD) (hSl : SlR enR (fun k => k < w.heap.size) w (.slice Al l.length cl) l) (hbn : ∀ x ∈ l, bndE x) (hbad : ¬ imgN l = 0) : Calls Tryz.prog 15 #[.slice Al l.length cl] w (fun e w' => e = .returned (.tuple #[.pointer none, .int .i64 (imgN l)]) ∧ Fr [] w w') := by
 have hF := Fr.refl [] w
 refine V.en 35 Tryz.func15 fun a h1 => ?_
 refine V.sr h1 [] 2 3 [] fun a h4 => ?_
 refine V.seq fun K5 k6 => ?_
 refine V.sg fun K7 k8 => ?_
 refine V.run h4 [] 1 1 0 [(8, .slice Al l.length cl)] fun a h9 => ?_
 refine V.cl h9 (Go.Proofs.enters_of Tryz.func45 (by kernel_rfl) rfl) (check_any w Al cl l hSl.old hbn) ?_
 rintro _ w11 ⟨rfl, hF10⟩
 refine ⟨_, rfl, fun a h12 => ?_⟩
 have hsw11 := hF10.size
 have hF_13 := hF.new hF10
 refine V.re h12 [] 1 0 [(4, .int .i64 (imgN l))] fun a h15 => k8 _ _ ?_
 refine V.sr h15 [(1, .ne (imgN l) 0)] 10 10 [(11, .bool (decide (¬ (imgN l) = 0)))] fun a h18 => ?_
 refine V.cp h18 (¬ (imgN l) = 0) (fun ht19 => ?_) (fun ht19 => ?_)
 ·
  refine V.sr h18 [] 12 12 [(2, .pointer none), (3, .int .i64 (imgN l))] fun a h22 => ?_
  refine V.ret (V.then_r ?_)
  refine V.r2 h22 (.pointer none) (.int .i64 (imgN l)) ?_
  exact ⟨rfl, hF_13⟩
 · exact absurd hbad ht19
theorem load_ok (w : World) (Al : Option Addr) (cl : Nat) (l : List EnD) (hSl : SlR enR (fun k => k < w.heap.size) w (.slice Al l.length cl) l) (hbn : ∀ x ∈ l, bndE x) (hok : imgN l = 0) : Calls Tryz.prog 15 #[.slice Al l.length cl] w (fun e w' => ∃ sp, e = .returned (.tuple #[.pointer (some ⟨sp, 0, none⟩), .int .i64 0]) ∧ SpA w' w.heap.size [] [] sp l.length (dOf l) ∧ Fr [] w w') := by
 have hP := FrP.refl (fun _ => False) w
 have hgd := img_good hok
 have hlen0 := hSl.len_le
 refine V.en 35 Tryz.func15 fun a h1 => ?_
 refine V.sr h1 [] 2 3 [] fun a h4 => ?_
 refine V.seq fun K5 k6 => ?_
 refine V.sg fun K7 k8 => ?_
 refine V.run h4 [] 1 1 0 [(8, .slice Al l.length cl)] fun a h9 => ?_
 refine V.cl h9 (Go.Proofs.enters_of Tryz.func45 (by kernel_rfl) rfl) (check_any w Al cl l hSl.old hbn) ?_
 rintro _ w11 ⟨rfl, hF10⟩
 refine ⟨_, rfl, fun a h12 => ?_⟩
 have hsw11 := hF10.size
 have hP_13 := hP.tr0 hF10
 have hSl_14 := hSl.fr0 hF10
 refine V.re h12 [] 1 0 [(4, .int .i64 (imgN l))] fun a h15 => k8 _ _ ?_
 refine V.sr h15 [(1, .ne (imgN l) 0)] 10 10 [(11, .bool (decide (¬ (imgN l) = 0)))] fun a h18 => ?_
 refine V.cp h18 (¬ (imgN l) = 0) (fun ht19 => ?_) (fun ht19 => ?_)
 · exact absurd hok ht19
 ·
  refine V.skip ?_
  refine V.then_n (k6 _ _ ?_)
  refine V.sg fun K20 k21 => ?_
  refine V.cl h18 (Go.Proofs.enters_of Tryz.func26 (by kernel_rfl) rfl) (spnew_any w11) ?_
  rintro _ w32 ⟨sp22, t23, H24, rfl, hB25, hT26, hH27, hs28, hF29⟩
  refine ⟨_, rfl, fun a h33 => ?_⟩
  have hsw32 := hF29.size
  have hP_34 := hP_13.tr0 hF29
  have hSl_35 := hSl_14.fr0 hF29
  have hX30 : SpX w32 H24 (fun _ => False) sp22 t23 (newT 0) (dOf (l.take 0)) := ⟨hB25, hT26, (newT_ok (by omega)).2, newT_wf 0, fun k hk => ⟨fun q => q, (hH27 k hk).2.2, (hH27 k hk).2.1⟩, fun k hk => hk.elim, fun k => .inl ⟨by (show va 0 (List.replicate 4 []) k ++ va 0 [] k = []); rw [va_nil, va_nil0]; rfl, rfl⟩, CntD.nil, by show (0 : Nat) ≤ 65536; omega⟩
  have hlo31 : ∀ k, H24 k ∨ False ∨ k = sp22 → w.heap.size ≤ k := fun k hk => by (rcases hk with hk | hk | hk; (have := (hH27 k hk).1; omega); exact hk.elim; omega)
  refine V.re h33 [] 1 0 [(5, .pointer (some ⟨sp22, 0, none⟩))] fun a h36 => k21 _ _ ?_
  refine V.seq fun K37 k38 => ?_
  refine V.sr h36 [] 1 0 [(14, .slice Al l.length cl), (15, .int .i64 ((l.length : Nat) : Int)), (16, .int .i64 0)] fun a h41 => ?_
  refine V.block ?_
  refine V.loop4 (fun (i : Nat) (H : Nat → Prop) (Vb : Nat → Prop) (T : Tb EntV) a_ w_ => En 35 [] a_ [(5, .pointer (some ⟨sp22, 0, none⟩)), (14, .slice Al l.length cl), (15, .int .i64 ((l.length : Nat) : Int)), (16, .int .i64 (i : Int))] ∧ SpX w_ H Vb sp22 t23 T (dOf (l.take i)) ∧ FrP (fun _ => False) w w_ ∧ SlR enR (fun k => k < w.heap.size) w_ (.slice Al l.length cl) l ∧ (i ≤ l.length) ∧ (T.n = i) ∧ (∀ k, H k ∨ Vb k ∨ k = sp22 → w.heap.size ≤ k)) (fun (i : Nat) (H : Nat → Prop) (Vb : Nat → Prop) (T : Tb EntV) => l.length - i) 0 H24 (fun _ => False) (newT 0) ?_ ?_
  ·
   refine ⟨(h41.eq 16 (v := (.int .i64 0)) (u := (.int .i64 (0 : Int))) (V.int_eq (by omega))).only _, hX30, hP_34, hSl_35, (by omega), rfl, hlo31⟩
  ·
   rintro i H Vb T a42 w43 ⟨h44, hq_45, hP_46, hSl_47, hi, hTn, hlo⟩
   have hfs48 := hP_46.size
   have hq := hq_45
   have hX0 := hq.lt
   have hB := hq.hB
   have hltB9 := hB.lt
   have hT := hq.hT
   have hF9 := Fr.refl [] w43
   refine V.sr h44 [] 1 0 [(17, .bool (decide ((i : Int) < ((l.length : Nat) : Int))))] fun a h51 => ?_
   refine V.seq fun K52 k53 => ?_
   refine V.cp h51 ((i : Int) < ((l.length : Nat) : Int)) (fun ht54 => ?_) (fun ht54 => ?_)
   ·
    refine V.skip ?_
    refine V.then_n (k53 _ _ ?_)
    refine V.seq fun K55 k56 => ?_
    refine V.block ?_
    obtain ⟨g59, o60, hA61, hA61l, hA61z⟩ := hSl_47.addr (by omega)
    obtain ⟨cs62, hok63, hE64⟩ := hSl_47.els hA61 (i : Int) (by omega) (by omega)
    obtain ⟨Al65, cl66, Az67, cz68, Ah69, ch70, rfl, hS71, hS72, hS73⟩ := en_open hok63
    refine V.sg fun K57 k58 => ?_
    refine V.run h51 [(0, .ix g59 o60 l.length cl .i64 (i : Int) 7 hA61), (0, .ls ⟨g59, o60 + (i : Int).toNat * 7, none⟩ [.string ((at_ enR l (i : Int)).key), .int .i64 ((at_ enR l (i : Int)).k), .string ((at_ enR l (i : Int)).s), .slice Al65 ((at_ enR l (i : Int)).l.length) cl66, .slice Az67 ((at_ enR l (i : Int)).z.length) cz68, .slice Ah69 ((at_ enR l (i : Int)).h.length) ch70, .int .i64 ((at_ enR l (i : Int)).till)] (hE64.cells 0 _ rfl))] 2 18 18 [(19, .agg #[.string ((at_ enR l (i : Int)).key), .int .i64 ((at_ enR l (i : Int)).k), .string ((at_ enR l (i : Int)).s), .slice Al65 ((at_ enR l (i : Int)).l.length) cl66, .slice Az67 ((at_ enR l (i : Int)).z.length) cz68, .slice Ah69 ((at_ enR l (i : Int)).h.length) ch70, .int .i64 ((at_ enR l (i : Int)).till)])] fun a h78 => ?_
    refine V.go (V.mk [] trivial (by kernel_rfl) [.string ⟨#[]⟩, .int .i64 0, .string ⟨#[]⟩, .slice none 0 0, .slice none 0 0, .slice none 0 0, .int .i64 0] 39 (fun b => .pointer (some ⟨b, 0, none⟩)) (by kernel_rfl) ?_)
    intro w75 b74 heb74 hB76 hF77 hsb74
    have hP_79 := hP_46.tr0 hF77
    have hSl_80 := hSl_47.fr0 hF77
    have hB_81 := hB.fr0 hF77
    have hT_82 := hT.alloc hF77 heb74 (by omega)
    have hF9_83 := hF9.new hF77
    have hS71_84 := hS71.fr0 hF77
    have hS72_85 := hS72.fr0 hF77
    have hS73_86 := hS73.fr0 hF77
    refine V.pt h78 fun a h88 => ?_
    refine V.go (V.stn b74 0 (.agg #[.string ((at_ enR l (i : Int)).key), .int .i64 ((at_ enR l (i : Int)).k), .string ((at_ enR l (i : Int)).s), .slice Al65 ((at_ enR l (i : Int)).l.length) cl66, .slice Az67 ((at_ enR l (i : Int)).z.length) cz68, .slice Ah69 ((at_ enR l (i : Int)).h.length) ch70, .int .i64 ((at_ enR l (i : Int)).till)]) [.string ((at_ enR l (i : Int)).key), .int .i64 ((at_ enR l (i : Int)).k), .string ((at_ enR l (i : Int)).s), .slice Al65 ((at_ enR l (i : Int)).l.length) cl66, .slice Az67 ((at_ enR l (i : Int)).z.length) cz68, .slice Ah69 ((at_ enR l (i : Int)).h.length) ch70, .int .i64 ((at_ enR l (i : Int)).till)] h88.e h88.e rfl rfl (by kernel_rfl) hB76 (by simp) [.string ((at_ enR l (i : Int)).key), .int .i64 ((at_ enR l (i : Int)).k), .string ((at_ enR l (i : Int)).s), .slice Al65 ((at_ enR l (i : Int)).l.length) cl66, .slice Az67 ((at_ enR l (i : Int)).z.length) cz68, .slice Ah69 ((at_ enR l (i : Int)).h.length) ch70, .int .i64 ((at_ enR l (i : Int)).till)] rfl ?_)
    intro w89 hB90 hF91 hsw89
    have hP_92 := hP_79.tr1 hF91 (by first | exact .inl (by assumption) | exact .inr (by omega) | exact .inl (.inl rfl))
    have hSl_93 := hSl_80.fr hF91 (by simp <;> omega)
    have hB_94 := hB_81.fr1 hF91 (by omega)
    have hT_95 := hT_82.fr hF91 (by intro k hk; simp only [List.mem_singleton] at hk; subst hk; exact .inl (by first | simp | (rw [hav]; simp)))
    have hF9_96 := hF9_83.own hF91 (by simp <;> omega)
    have hS71_97 := hS71_84.fr hF91 (by simp <;> omega)
    have hS72_98 := hS72_85.fr hF91 (by simp <;> omega)
    have hS73_99 := hS73_86.fr hF91 (by simp <;> omega)
    refine V.nt (k58 _ _ ?_)
    have hokx := okD_bnd (hgd.2.1 _ (at_memE (l := l) (i := i) (by omega)))
    refine V.pl [([0,1,2,3,4,5,6,7,9,10],some (8,[3,5,10])),([11],some (12,[])),([],none)] fun w100 hF101 hsw100 => ?_
    have hP_102 := hP_92.tr0 hF101
    have hSl_103 := hSl_93.fr0 hF101
    have hB_104 := hB_94.fr0 hF101
    have hT_105 := hT_95.fr0 hF101
    have hF9_106 := hF9_96.new hF101
    have hS71_107 := hS71_97.fr0 hF101
    have hS72_108 := hS72_98.fr0 hF101
    have hS73_109 := hS73_99.fr0 hF101
    have hB90_110 := hB90.fr0 hF101
    refine V.pe h88 [(3, .b hB_104 0), (1, .b hB90_110 0), (1, .bs hB90_110 1 [.int .i64 ((at_ enR l (i : Int)).k), .string ((at_ enR l (i : Int)).s), .slice Al65 ((at_ enR l (i : Int)).l.length) cl66, .slice Az67 ((at_ enR l (i : Int)).z.length) cz68, .slice Ah69 ((at_ enR l (i : Int)).h.length) ch70]), (1, .b hB90_110 6)] 20 26 [(22, .pointer (some ⟨sp22, 0, none⟩)), (23, .pointer (some ⟨t23, 0, none⟩)), (24, .pointer (some ⟨b74, 0, none⟩)), (25, .string ((at_ enR l (i : Int)).key)), (27, .agg #[.int .i64 ((at_ enR l (i : Int)).k), .string ((at_ enR l (i : Int)).s), .slice Al65 ((at_ enR l (i : Int)).l.length) cl66, .slice Az67 ((at_ enR l (i : Int)).z.length) cz68, .slice Ah69 ((at_ enR l (i : Int)).h.length) ch70]), (29, .pointer (some ⟨b74, 6, none⟩)), (30, .int .i64 ((at_ enR l (i : Int)).till))] fun a h111 => ?_
    refine V.cl h111 (Go.Proofs.enters_of Tryz.func33 (by kernel_rfl) rfl) (copied_any w100 ((at_ enR l (i : Int)).k) ((at_ enR l (i : Int)).s) Al65 cl66 ((at_ enR l (i : Int)).l) hS71_107.old Az67 cz68 ((at_ enR l (i : Int)).z) hS72_108.old Ah69 ch70 ((at_ enR l (i : Int)).h) hS73_109.old (by omega) (by omega) (by omega)) ?_
    rintro _ w123 ⟨A112, c113, A114, c115, A116, c117, rfl, hO118, hO119, hO120, hd122, hF121⟩
    refine ⟨_, rfl, fun a h124 => ?_⟩
    have hsw123 := hF121.size
    have hP_125 := hP_102.tr0 hF121
    have hSl_126 := hSl_103.fr0 hF121
    have hB_127 := hB_104.fr0 hF121
    have hT_128 := hT_105.fr0 hF121
    have hF9_129 := hF9_106.new hF121
    have hB90_133 := hB90_110.fr0 hF121
    refine V.eh ⟨(fun _ => held_blk (n := 1) (hx := (h111.e (v := (.pointer (some ⟨sp22, 0, none⟩))))) hB_104 hB_127 (by kernel_rfl) rfl (by simp only [List.length]; omega)), (fun _ => held_blk (n := 1) (hx := (h111.e (v := (.pointer (some ⟨b74, 0, none⟩))))) hB90_110 hB90_133 (by kernel_rfl) rfl (by simp only [List.length]; omega)), (fun _ => held_blk (n := 1) (hx := (h111.e (v := (.pointer (some ⟨b74, 6, none⟩))))) hB90_110 hB90_133 (by kernel_rfl) rfl (by simp only [List.length]; omega))⟩ ?_
    refine V.pe h124 [] 1 0 [(31, .agg #[.int .i64 ((at_ enR l (i : Int)).k), .string ((at_ enR l (i : Int)).s), .slice A112 (((at_ enR l (i : Int)).l).length) c113, .slice A114 (((at_ enR l (i : Int)).z).length) c115, .slice A116 (((at_ enR l (i : Int)).h).length) c117, .int .i64 ((at_ enR l (i : Int)).till)])] fun a h134 => ?_
    refine V.cl h134 (Go.Proofs.enters_of Tryz.func46 (by kernel_rfl) rfl) (put_any w123 (H) (b74 :: []) t23 (T) hT_128 hq.hm ((at_ enR l (i : Int)).key) (by omega) ⟨((at_ enR l (i : Int)).k), ((at_ enR l (i : Int)).s), ⟨A112, ((at_ enR l (i : Int)).l).length, c113⟩, ⟨A114, ((at_ enR l (i : Int)).z).length, c115⟩, ⟨A116, ((at_ enR l (i : Int)).h).length, c117⟩, (at_ enR l (i : Int)).till⟩ (by omega)) ?_
    rintro _ w137 ⟨rfl, hT135, hF136⟩
    refine ⟨_, rfl, fun a h138 => ?_⟩
    have hsw137 := hF136.size
    have hP_139 := hP_125.trP hF136 (fun k hk => .inr (hlo _ (.inl hk.1)))
    have hSl_140 := hSl_126.frP hF136 (fun k hz hp => by have h1 := hlo _ (.inl hp.1); (try dsimp only at hz); omega)
    have hB_141 := hB_127.frP hF136 (by exact fun hp => by have h1 := hq.hH _ hp.1; first | exact h1.2.1 rfl | omega)
    have hO118_146 := hO118.frP hF136 (fun b hb hp => by have h1 := (hO118.lt b hb).1; have h2 := (hq.hH _ hp.1).2.2; omega)
    have hO119_147 := hO119.frP hF136 (fun b hb hp => by have h1 := (hO119.lt b hb).1; have h2 := (hq.hH _ hp.1).2.2; omega)
    have hO120_148 := hO120.frP hF136 (fun b hb hp => by have h1 := (hO120.lt b hb).1; have h2 := (hq.hH _ hp.1).2.2; omega)
    refine V.eh trivial ?_
    refine V.pz h138 [] 1 0 [] fun a h149 => ?_
    refine V.blk_n ?_
    refine V.then_n (k56 _ _ ?_)
    refine V.rr h149 [(0, .i ((i : Int) + 1))] 33 33 [(16, .int .i64 ((i : Int) + 1))] fun a h150 => ?_
    refine V.then_n ?_
    have hfs9 := hF9_129.size
    have hfs8 := hF136.size
    have hst := Ris.take hgd.2.2 (i := i) (by omega)
    rw [← at_enR (by omega)] at hst
    have hsp := sp_put (x := at_ enR l (i : Int)) hq (hgd.2.1 _ (at_memE (by omega))) (.inr (by omega)) hF9_129 hF136 hB_141 hT135 hO118 hO119 hO120 (by omega) (by omega) (by omega) hO118_146 hO119_147 hO120_148
    rw [← dOf_next hgd.2.2 (by omega)] at hsp
    have hn9 := putT_n' hq (at_ enR l (i : Int)).key ⟨((at_ enR l (i : Int)).k), ((at_ enR l (i : Int)).s), ⟨A112, ((at_ enR l (i : Int)).l).length, c113⟩, ⟨A114, ((at_ enR l (i : Int)).z).length, c115⟩, ⟨A116, ((at_ enR l (i : Int)).h).length, c117⟩, (at_ enR l (i : Int)).till⟩
    rw [if_pos hst] at hn9
    refine ⟨i + 1, (gr (H) w123 w137), (nwV Vb (.slice A112 (((at_ enR l (i : Int)).l).length) c113) (.slice A114 (((at_ enR l (i : Int)).z).length) c115) (.slice A116 (((at_ enR l (i : Int)).h).length) c117)), (putT T ((at_ enR l (i : Int)).key) ⟨((at_ enR l (i : Int)).k), ((at_ enR l (i : Int)).s), ⟨A112, ((at_ enR l (i : Int)).l).length, c113⟩, ⟨A114, ((at_ enR l (i : Int)).z).length, c115⟩, ⟨A116, ((at_ enR l (i : Int)).h).length, c117⟩, (at_ enR l (i : Int)).till⟩), by omega, ?_⟩
    refine ⟨(h150.eq 16 (v := (.int .i64 ((i : Int) + 1))) (u := (.int .i64 ((i + 1) : Int))) (V.int_eq (by omega))).only _, hsp, hP_139, hSl_140, (by omega), (by rw [hn9, hTn]), (fun k hk => by rcases hk with (hk | hk) | (q | q | q | q) | hk; exact hlo k (.inl hk); (have := hk.1; omega); exact hlo k (.inr (.inl q)); (have := (hO118.lt k q).1; omega); (have := (hO119.lt k q).1; omega); (have := (hO120.lt k q).1; omega); exact hlo k (.inr (.inr hk)))⟩
   ·
    refine V.exit (V.then_e (V.then_e (V.blk_hit ?_)))
    refine V.then_n (k38 _ _ ?_)
    refine V.sr h51 [] 34 34 [(2, .pointer (some ⟨sp22, 0, none⟩)), (3, .int .i64 0)] fun a h153 => ?_
    refine V.ret ?_
    refine V.r2 h153 (.pointer (some ⟨sp22, 0, none⟩)) (.int .i64 0) ?_
    have hii : i = l.length := by omega
    subst hii
    have hfin := hq
    rw [List.take_of_length_le (Nat.le_refl _)] at hfin
    exact ⟨_, rfl, ⟨_, hTn ▸ hfin.y0, fun k hk => ⟨hlo k hk, fun q => by rcases q with q | ⟨v, hv, _⟩; simp at q; simp at hv⟩, fun k q => by rcases q with q | ⟨v, hv, _⟩; simp at q; simp at hv⟩, hP_46.fr (fun k hk => hk.elim)⟩
end Go.Proofs.YtjkegckfncfoaaaGreat
end
section
namespace Go.V
open Go.Base Go.RowKit
set_option linter.unusedVariables false
section
variable {α : Type} {R : Rp α} {Z : Nat → Prop} {w : World} {xs ys : List α} {base : Nat} {e : TypeId} {v : Value} {A : Option Addr} {n m c : Nat}
variable {ro : Option Nat} {P : Program} {Q : Exit → Act → World → Prop} {a : Act} {ops : Array Oper} {rest : List Oper} {d : Option Tmp} {ty : TypeId} {pos : String} {aft : Array Edge} {gd : Option (Nat × Bool)}
theorem appS0 {t : TypeId} {s x : Operand} {z : Value} {bytes : Nat} (hs : a.eval s = v) (hx : a.eval x = .slice A m c) (ht : P.underlying t = some (.slice e))
    (hinfo : (P.info? e).map (fun i => (i.zero, i.size, i.bytes)) = some (some z, R.sz, bytes)) (hzs : z.cells.size = R.sz) (hsz : 0 < R.sz) (hown : OwR R NoZ w base e v []) (hS : SlR R Z w (.slice A m c) ys) (hz : ∀ x cs, R.ok Z w x cs → R.ok NoZ w x cs)
    (hbytes : ys.length * bytes ≤ 140737488355328) (hb0 : 0 < bytes) (hbase : base ≤ w.heap.size)
    (k : ∀ A' c' w1, OwR R NoZ w1 base e (.slice A' ys.length c') ys → Fr (v.ownBlock.toList) w w1 → L ro P ops Q rest (a.put d (.slice A' ys.length c')) w1) : St ro P ops Q rest ⟨d, .call ⟨.builtin .append, #[s, x], #[t, t]⟩, ty, pos, aft, gd⟩ a w := by
  refine appS hs hx ht hinfo hzs hsz hown hS hz (by simpa using hbytes) hb0 hbase fun A' c' w1 ho hf => ?_
  have hq := k A' c' w1
  simp only [List.nil_append, List.length_nil, Nat.zero_add] at ho hq ⊢
  exact hq ho hf
end
end Go.V
end
section
namespace Go.Proofs.YtjkegckfncfoaaaGreat
open Go.V Go.Base
open Go.RowKit (Below)
attribute [local irreducible] Act.put Act.eval
set_option linter.unusedVariables false
set_option linter.unusedSimpArgs false
set_option maxHeartbeats 4000000
set_option maxRecDepth 20000
/-- Entries' rows, their cells as they lie. -/
theorem ent_raw {Z : Nat → Prop} {w : World} {A : Option Addr} {n c : Nat} {l : List EnD} (h : SlR enR Z w (.slice A n c) l) : ∃ rs, rs.length = l.length ∧ SlR entR Z w (.slice A rs.length c) rs ∧ AllE Z w rs l := by
  obtain ⟨A', c', e, l1, l2, l3⟩ := h
  injection e with e1 e2 e3
  subst e1; subst e3
  have hone : ∀ i (hi : i < l.length), ∃ r : ByteArray × EntV, (r.1 = (l[i]).key ∧ EntIs Z w r.2 (l[i])) ∧ ∃ g o, A = some ⟨g, o, none⟩ ∧ Z g ∧ g < w.heap.size ∧ ∀ j u, (encE r)[j]? = some u → w.cell? ⟨g, o + i * 7 + j, none⟩ = some u := fun i hi => by
    obtain ⟨g, o, cs, hA, hZ, hg, hok, hc⟩ := l3 i _ (List.getElem?_eq_getElem hi)
    obtain ⟨Al, cl, Az, cz, Ah, ch, rfl, s1, s2, s3⟩ := en_open hok
    exact ⟨((l[i]).key, ⟨(l[i]).k, (l[i]).s, ⟨Al, _, cl⟩, ⟨Az, _, cz⟩, ⟨Ah, _, ch⟩, (l[i]).till⟩), ⟨rfl, rfl, rfl, rfl, rfl, rfl, rfl, s1, s2, s3⟩, g, o, hA, hZ, hg, hc⟩
  have hex : ∀ q, q ≤ l.length → ∃ rs : List (ByteArray × EntV), rs.length = q ∧ AllE Z w rs (l.take q) ∧ ∀ i x, rs[i]? = some x → ∃ g o, A = some ⟨g, o, none⟩ ∧ Z g ∧ g < w.heap.size ∧ ∀ j u, (encE x)[j]? = some u → w.cell? ⟨g, o + i * 7 + j, none⟩ = some u := by
    intro q
    induction q with
    | zero => exact fun _ => ⟨[], rfl, trivial, fun i x h => by simp at h⟩
    | succ q ih =>
      intro hq
      obtain ⟨rs, hl, ha, hi⟩ := ih (by omega)
      obtain ⟨r, hr, hc⟩ := hone q (by omega)
      refine ⟨rs ++ [r], by simp [hl], ?_, fun i x hx => ?_⟩
      · rw [List.take_succ_eq_append_getElem (by omega)]
        have h1 : AllE Z w [r] [l[q]] := ⟨hr, trivial⟩
        exact All2.app h1 ha
      · rcases Nat.lt_or_ge i rs.length with h | h
        · rw [List.getElem?_append_left h] at hx; exact hi i x hx
        · rw [List.getElem?_append_right h] at hx
          have h0 : i - rs.length = 0 := by have := (List.getElem?_eq_some_iff.1 hx).1; simp at this; omega
          rw [h0] at hx
          simp at hx; subst hx
          have hiq : i = q := by omega
          subst hiq
          exact hc
  obtain ⟨rs, hl, ha, hi⟩ := hex l.length (Nat.le_refl _)
  rw [List.take_of_length_le (Nat.le_refl _)] at ha
  refine ⟨rs, hl, ⟨A, c, rfl, by omega, by omega, fun i x hx => ?_⟩, ha⟩
  obtain ⟨g, o, hA, hZ, hg, hc⟩ := hi i x hx
  exact ⟨g, o, encE x, hA, hZ, hg, rfl, hc⟩
theorem rload_bad (w : World) (Al : Option Addr) (cl : Nat) (l : List EnD) (hSl : SlR enR (fun k => k < w.heap.size) w (.slice Al l.length cl) l) (hbad : ¬ imgN l = 0) : Calls Tryz.prog 27 #[.slice Al l.length cl] w (fun e w' => e = .returned (.tuple #[.pointer none, .int .i64 (imgN l)]) ∧ Fr [] w w') := by
 have hF := Fr.refl [] w
 refine V.en 15 Tryz.func27 fun a h1 => ?_
 refine V.sr h1 [] 2 3 [] fun a h4 => ?_
 refine V.sg fun K5 k6 => ?_
 refine V.run h4 [] 1 1 0 [(5, .slice Al l.length cl)] fun a h7 => ?_
 refine V.cl h7 (Go.Proofs.enters_of Tryz.func25 (by kernel_rfl) rfl) (rcheck_any w Al cl l hSl.old) ?_
 rintro _ w9 ⟨rfl, hF8⟩
 refine ⟨_, rfl, fun a h10 => ?_⟩
 have hsw9 := hF8.size
 have hF_11 := hF.new hF8
 refine V.re h10 [] 1 0 [(4, .int .i64 (imgN l))] fun a h13 => k6 _ _ ?_
 refine V.seq fun K14 k15 => ?_
 refine V.sr h13 [(1, .ne (imgN l) 0)] 7 7 [(8, .bool (decide (¬ (imgN l) = 0)))] fun a h18 => ?_
 refine V.cp h18 (¬ (imgN l) = 0) (fun ht19 => ?_) (fun ht19 => ?_)
 ·
  refine V.sr h18 [] 9 9 [(2, .pointer none), (3, .int .i64 (imgN l))] fun a h22 => ?_
  refine V.ret (V.then_r ?_)
  refine V.r2 h22 (.pointer none) (.int .i64 (imgN l)) ?_
  exact ⟨rfl, hF_11⟩
 · exact absurd hbad ht19
theorem rload_ok (w : World) (Al : Option Addr) (cl : Nat) (l : List EnD) (hSl : SlR enR (fun k => k < w.heap.size) w (.slice Al l.length cl) l) (hok : imgN l = 0) (rs : List (ByteArray × EntV)) (hR : SlR entR (fun k => k < w.heap.size) w (.slice Al rs.length cl) rs) (hrl : rs.length = l.length) : Calls Tryz.prog 27 #[.slice Al l.length cl] w (fun e w' => ∃ rb A c, e = .returned (.tuple #[.pointer (some ⟨rb, 0, none⟩), .int .i64 0]) ∧ Blk w' rb [.slice A rs.length c] 72 ∧ OwR entR NoZ w' w.heap.size 39 (.slice A rs.length c) rs ∧ w.heap.size ≤ rb ∧ rb < w'.heap.size ∧ Fr [] w w') := by
 have hF := Fr.refl [] w
 rw [hrl] at hR
 have hgd := img_good hok
 refine V.en 15 Tryz.func27 fun a h1 => ?_
 refine V.sr h1 [] 2 3 [] fun a h4 => ?_
 refine V.sg fun K5 k6 => ?_
 refine V.run h4 [] 1 1 0 [(5, .slice Al l.length cl)] fun a h7 => ?_
 refine V.cl h7 (Go.Proofs.enters_of Tryz.func25 (by kernel_rfl) rfl) (rcheck_any w Al cl l hSl.old) ?_
 rintro _ w9 ⟨rfl, hF8⟩
 refine ⟨_, rfl, fun a h10 => ?_⟩
 have hsw9 := hF8.size
 have hF_11 := hF.new hF8
 have hR_12 := hR.fr0 hF8
 refine V.re h10 [] 1 0 [(4, .int .i64 (imgN l))] fun a h14 => k6 _ _ ?_
 refine V.seq fun K15 k16 => ?_
 refine V.sr h14 [(1, .ne (imgN l) 0)] 7 7 [(8, .bool (decide (¬ (imgN l) = 0)))] fun a h19 => ?_
 refine V.cp h19 (¬ (imgN l) = 0) (fun ht20 => ?_) (fun ht20 => ?_)
 · exact absurd hok ht20
 ·
  refine V.skip ?_
  refine V.then_n (k16 _ _ ?_)
  refine V.seq fun K21 k22 => ?_
  refine V.rg ?_
  refine V.go (V.mk [] trivial (by kernel_rfl) [] 39 (fun b => .slice (some ⟨b, 0, none⟩) 0 0) (by kernel_rfl) ?_)
  intro w24 b23 heb23 hB25 hF26 hsb23
  have hF_27 := hF_11.new hF26
  have hR_28 := hR_12.fr0 hF26
  refine V.pt h19 fun a h30 => ?_
  have hO31 := OwR.empty (R := entR) (base := b23) hB25 (Nat.le_refl _)
  refine V.run h30 [] 1 1 0 [(11, .slice Al l.length cl)] fun a h37 => ?_
  refine V.go (V.appS0 (R := entR) (h37.e (v := (.slice (some ⟨b23, 0, none⟩) 0 0))) (h37.e (v := (.slice Al l.length cl))) (by kernel_rfl) info39 (by kernel_rfl) (by decide) hO31 hR_28 (fun _ _ h => h) (by omega) (by decide) (by omega) ?_)
  intro A32 c33 w34 hO35 hF36
  have hsw34 := hF36.size
  have hF_38 := hF_27.own hF36 (own_ge hO31 (by omega))
  have hl41 := hO35.lt
  refine V.pt h37 fun a h42 => ?_
  refine V.run h42 [] 1 1 0 [(13, .agg #[.slice A32 rs.length c33])] fun a h43 => ?_
  refine V.go (V.mk [(13, .agg #[.slice A32 rs.length c33])] ⟨h43.e, trivial⟩ (by kernel_rfl) [.slice A32 rs.length c33] 72 (fun b => .pointer (some ⟨b, 0, none⟩)) (by kernel_rfl) ?_)
  intro w45 b44 heb44 hB46 hF47 hsb44
  have hF_48 := hF_38.new hF47
  have hO35_51 := hO35.fr0 hF47
  refine V.pt h43 fun a h52 => ?_
  refine V.re h52 [] 1 0 [(2, .pointer (some ⟨b44, 0, none⟩)), (3, .int .i64 0)] fun a h53 => k22 _ _ ?_
  refine V.ret ?_
  refine V.r2 h53 (.pointer (some ⟨b44, 0, none⟩)) (.int .i64 0) ?_
  exact ⟨_, _, _, rfl, hB46, hO35_51.rebase (by omega), by omega, by omega, hF_48⟩
theorem same_eq (w : World) (Al : Option Addr) (cl : Nat) (l : List EnD) (hSl : SlR enR (fun k => k < w.heap.size) w (.slice Al l.length cl) l) (A2 : Option Addr) (c2 : Nat) (hS2 : SlR enR (fun k => k < w.heap.size) w (.slice A2 l.length c2) l) : Calls Tryz.prog 13 #[.slice Al l.length cl, .slice A2 l.length c2] w (fun e w' => e = .returned (.bool (true)) ∧ Fr [] w w') := by
 have hF := Fr.refl [] w
 have hlen0 := hSl.len_le
 refine V.en 55 Tryz.func13 fun a h1 => ?_
 refine V.sr h1 [] 4 4 [] fun a h4 => ?_
 refine V.seq fun K5 k6 => ?_
 refine V.sr h4 [(4, .q (.bool false) (V.t_nsame ((l.length : Nat) : Int)))] 6 9 [(10, .bool false)] fun a h9 => ?_
 refine V.cf h9 ?_
 refine V.skip ?_
 refine V.then_n (k6 _ _ ?_)
 refine V.seq fun K10 k11 => ?_
 refine V.sr h9 [] 1 0 [(5, .int .i64 0)] fun a h14 => ?_
 refine V.block ?_
 refine V.loop1 (fun (i : Nat) a_ w_ => En 55 [] a_ [(0, .slice Al l.length cl), (1, .slice A2 l.length c2), (5, .int .i64 (i : Int))] ∧ Fr [] w w_ ∧ SlR enR (fun k => k < w.heap.size) w_ (.slice Al l.length cl) l ∧ SlR enR (fun k => k < w.heap.size) w_ (.slice A2 l.length c2) l ∧ (i ≤ l.length)) (fun (i : Nat) => l.length - i) 0 ?_ ?_
 ·
  refine ⟨(h14.eq 5 (v := (.int .i64 0)) (u := (.int .i64 (0 : Int))) (V.int_eq (by omega))).only _, hF, hSl, hS2, (by omega)⟩
 ·
  rintro i a15 w16 ⟨h17, hF_18, hSl_19, hS2_20, hi⟩
  have hfs21 := hF_18.size
  refine V.seq fun K22 k23 => ?_
  refine V.sr h17 [] 11 13 [(14, .bool (decide ((i : Int) < ((l.length : Nat) : Int))))] fun a h26 => ?_
  refine V.cp h26 ((i : Int) < ((l.length : Nat) : Int)) (fun ht27 => ?_) (fun ht27 => ?_)
  ·
   refine V.skip ?_
   refine V.then_n (k23 _ _ ?_)
   refine V.seq fun K28 k29 => ?_
   refine V.block ?_
   refine V.seq fun K30 k31 => ?_
   refine V.pl [([0,1,2,3,4,5,6,7,8,9,10,11,12,13,14,15,16,17,18,19,20,21,22,23,24,25,26,27,28,29,30,31,32,33,34],some (35,[])),([36,37],none)] fun w32 hF33 hsw32 => ?_
   have hF_34 := hF_18.new hF33
   have hSl_35 := hSl_19.fr0 hF33
   have hS2_36 := hS2_20.fr0 hF33
   obtain ⟨g37, o38, hA39, hA39l, hA39z⟩ := hSl_35.addr (by omega)
   obtain ⟨cs40, hok41, hE42⟩ := hSl_35.els hA39 (i : Int) (by omega) (by omega)
   obtain ⟨Al43, cl44, Az45, cz46, Ah47, ch48, rfl, hS49, hS50, hS51⟩ := en_open hok41
   obtain ⟨g52, o53, hA54, hA54l, hA54z⟩ := hS2_36.addr (by omega)
   obtain ⟨cs55, hok56, hE57⟩ := hS2_36.els hA54 (i : Int) (by omega) (by omega)
   obtain ⟨Al58, cl59, Az60, cz61, Ah62, ch63, rfl, hS64, hS65, hS66⟩ := en_open hok56
   refine V.pe h26 [(2, .ix g37 o38 l.length cl .i64 (i : Int) 7 hA39), (1, .l ⟨g37, o38 + (i : Int).toNat * 7, none⟩ (.string ((at_ enR l (i : Int)).key)) (hE42.at 0 rfl)), (2, .ix g52 o53 l.length c2 .i64 (i : Int) 7 hA54), (1, .l ⟨g52, o53 + (i : Int).toNat * 7, none⟩ (.string ((at_ enR l (i : Int)).key)) (hE57.at 0 rfl)), (0, .q (.bool false) (V.t_snsame ((at_ enR l (i : Int)).key))), (3, .ix g37 o38 l.length cl .i64 (i : Int) 7 hA39), (1, .l ⟨g37, (o38 + (i : Int).toNat * 7) + 6, none⟩ (.int .i64 ((at_ enR l (i : Int)).till)) (hE42.at 6 rfl)), (2, .ix g52 o53 l.length c2 .i64 (i : Int) 7 hA54), (1, .l ⟨g52, (o53 + (i : Int).toNat * 7) + 6, none⟩ (.int .i64 ((at_ enR l (i : Int)).till)) (hE57.at 6 rfl)), (0, .q (.bool false) (V.t_nsame ((at_ enR l (i : Int)).till))), (4, .ix g37 o38 l.length cl .i64 (i : Int) 7 hA39), (1, .ls ⟨g37, (o38 + (i : Int).toNat * 7) + 1, none⟩ [.int .i64 ((at_ enR l (i : Int)).k), .string ((at_ enR l (i : Int)).s), .slice Al43 ((at_ enR l (i : Int)).l.length) cl44, .slice Az45 ((at_ enR l (i : Int)).z.length) cz46, .slice Ah47 ((at_ enR l (i : Int)).h.length) ch48] (hE42.cells 1 _ rfl)), (2, .ix g52 o53 l.length c2 .i64 (i : Int) 7 hA54), (1, .ls ⟨g52, (o53 + (i : Int).toNat * 7) + 1, none⟩ [.int .i64 ((at_ enR l (i : Int)).k), .string ((at_ enR l (i : Int)).s), .slice Al58 ((at_ enR l (i : Int)).l.length) cl59, .slice Az60 ((at_ enR l (i : Int)).z.length) cz61, .slice Ah62 ((at_ enR l (i : Int)).h.length) ch63] (hE57.cells 1 _ rfl))] 17 50 [(41, .bool false), (46, .agg #[.int .i64 ((at_ enR l (i : Int)).k), .string ((at_ enR l (i : Int)).s), .slice Al43 ((at_ enR l (i : Int)).l.length) cl44, .slice Az45 ((at_ enR l (i : Int)).z.length) cz46, .slice Ah47 ((at_ enR l (i : Int)).h.length) ch48]), (51, .agg #[.int .i64 ((at_ enR l (i : Int)).k), .string ((at_ enR l (i : Int)).s), .slice Al58 ((at_ enR l (i : Int)).l.length) cl59, .slice Az60 ((at_ enR l (i : Int)).z.length) cz61, .slice Ah62 ((at_ enR l (i : Int)).h.length) ch63])] fun a h67 => ?_
   refine V.clg h67 (Go.Proofs.enters_of Tryz.func40 (by kernel_rfl) rfl) (samev_any w32 ((at_ enR l (i : Int)).k) ((at_ enR l (i : Int)).s) Al43 cl44 ((at_ enR l (i : Int)).l) hS49.old Az45 cz46 ((at_ enR l (i : Int)).z) hS50.old Ah47 ch48 ((at_ enR l (i : Int)).h) hS51.old Al58 cl59 hS64.old Az60 cz61 hS65.old Ah62 ch63 hS66.old) ?_
   rintro _ w69 ⟨rfl, hF68⟩
   refine ⟨_, rfl, fun a h70 => ?_⟩
   have hsw69 := hF68.size
   have hF_71 := hF_34.new hF68
   have hSl_72 := hSl_35.fr0 hF68
   have hS2_73 := hS2_36.fr0 hF68
   refine V.eh trivial ?_
   refine V.pz h70 [] 53 53 [(54, .bool false)] fun a h82 => k31 _ _ ?_
   have h83 := h82.only [(0, .slice Al l.length cl), (1, .slice A2 l.length c2), (5, .int .i64 (i : Int)), (54, .bool false)]
   refine V.cf h83 ?_
   refine V.skip (V.blk_n ?_)
   refine V.then_n (k29 _ _ ?_)
   refine V.rr h83 [(1, .i ((i : Int) + 1))] 15 16 [(5, .int .i64 ((i : Int) + 1))] fun a h84 => ?_
   refine V.then_n ?_
   refine ⟨i + 1, by omega, ?_⟩
   refine ⟨(h84.eq 5 (v := (.int .i64 ((i : Int) + 1))) (u := (.int .i64 ((i + 1) : Int))) (V.int_eq (by omega))).only _, hF_71, hSl_72, hS2_73, (by omega)⟩
  ·
   refine V.exit (V.then_e (V.then_e (V.blk_hit ?_)))
   refine V.then_n (k11 _ _ ?_)
   refine V.sr h26 [] 1 0 [(4, .bool true)] fun a h87 => ?_
   refine V.ret ?_
   refine V.r1 h87 (.bool true) ?_
   exact ⟨rfl, hF_18⟩
theorem pick1_any (w : World) (v : EntV) : Calls Tryz.prog 35 #[.agg #[.int .i64 v.kind, .string v.s, .slice v.l.a v.l.n v.l.c, .slice v.z.a v.z.n v.z.c, .slice v.h.a v.h.n v.h.c, .int .i64 v.till]] w (fun e w' => e = .returned (.bool (true)) ∧ Fr [] w w') := by
 have hF := Fr.refl [] w
 refine V.en 3 Tryz.func35 fun a h1 => ?_
 refine V.sg fun K2 k3 => ?_
 refine V.go (V.mk [(0, .agg #[.int .i64 v.kind, .string v.s, .slice v.l.a v.l.n v.l.c, .slice v.z.a v.z.n v.z.c, .slice v.h.a v.h.n v.h.c, .int .i64 v.till])] ⟨h1.e, trivial⟩ (by kernel_rfl) [.int .i64 v.kind, .string v.s, .slice v.l.a v.l.n v.l.c, .slice v.z.a v.z.n v.z.c, .slice v.h.a v.h.n v.h.c, .int .i64 v.till] 79 (fun b => .pointer (some ⟨b, 0, none⟩)) (by kernel_rfl) ?_)
 intro w5 b4 heb4 hB6 hF7 hsb4
 have hF_8 := hF.new hF7
 refine V.pt h1 fun a h9 => ?_
 refine V.re h9 [] 2 2 [] fun a h10 => k3 _ _ ?_
 refine V.sr h10 [] 1 0 [(2, .bool true)] fun a h13 => ?_
 refine V.ret ?_
 refine V.r1 h13 (.bool true) ?_
 exact ⟨rfl, hF_8⟩
theorem skeys0_any (w : World) {H Vb : Nat → Prop} {sp t : Nat} {T : Tb EntV} {D : ByteArray → Option EnD} (hq : SpX w H Vb sp t T D) : Calls Tryz.prog 34 #[.pointer (some ⟨sp, 0, none⟩), .func (.func 35) #[] #[]] w (fun e w' => ∃ A c l, e = .returned (.slice A l.length c) ∧ OwR Rp.str NoZ w' w.heap.size 9 (.slice A l.length c) l ∧ KeysOf D (fun _ => true) l ∧ l.length ≤ 65536 ∧ Fr [] w w') :=
  (sorted0_any w H Vb sp t T D hq 35 (enters_of Tryz.func35 (by kernel_rfl) rfl) (fun _ => true) (fun W v _ => pick1_any W v)).mono fun e w' ⟨A, c, h1, h2, h3⟩ => ⟨A, c, _, h1, h2, keys_of hq _, by
    rw [srtK_len]
    have h4 := keysP_le (fun _ => true) (T.a ++ T.b).flatten
    have h5 := hq.hT.1.cn
    have h6 := hq.hM
    omega, h3⟩
/-- Is a key seen? The key at a draw's place and so many further, going round. -/
def SeenK (D : ByteArray → Option EnD) (role now : Int) (k : ByteArray) : Prop := ∃ x, D k = some x ∧ seenD role now x.till
def rotK (l : List ByteArray) (d j : Nat) : ByteArray := at_ Rp.str l (((d % l.length + j) % l.length : Nat) : Int)
def PickS (D : ByteArray → Option EnD) (role now : Int) (d : Nat) (l : List ByteArray) (k : ByteArray) (f : Bool) : Prop :=
  (∃ j, j < l.length ∧ (∀ j2, j2 < j → ¬ SeenK D role now (rotK l d j2)) ∧ SeenK D role now (rotK l d j) ∧ k = rotK l d j ∧ f = true) ∨ ((∀ j, j < l.length → ¬ SeenK D role now (rotK l d j)) ∧ k = ⟨#[]⟩ ∧ f = false)
theorem rot_next {d j n : Nat} (h : 0 < n) : ((((d % n + j) % n + 1) % n : Nat) : Int) = (((d % n + (j + 1)) % n : Nat) : Int) := by rw [Nat.mod_add_mod, Nat.add_assoc]
theorem at_str {l : List ByteArray} {i : Nat} (hi : i < l.length) : at_ Rp.str l (i : Int) = l[i] := by unfold at_; rw [Int.toNat_natCast, List.getD_eq_getElem?_getD, List.getElem?_eq_getElem hi]; rfl
section
variable {w : World} {H Vb : Nat → Prop} {sp t : Nat} {T : Tb EntV} {D : ByteArray → Option EnD} (hq : SpX w H Vb sp t T D) {l : List ByteArray} (hkl : KeysOf D (fun _ => true) l) {i : Nat} (hi : i < l.length)
include hq hkl hi
theorem key_in : ∃ x, D (at_ Rp.str l (i : Int)) = some x ∧ x.key = at_ Rp.str l (i : Int) ∧ okD x ∧ (lookT EntV.nil T (at_ Rp.str l (i : Int))).1.till = x.till := by
  obtain ⟨x, hD, _⟩ := (hkl.2 _).1 (show at_ Rp.str l (i : Int) ∈ l by rw [at_str hi]; exact List.getElem_mem hi)
  rcases hq.look (at_ Rp.str l (i : Int)) with ⟨_, h2⟩ | ⟨y, h1, h2, h3, h4, h5⟩
  · rw [hD] at h2; cases h2
  · rw [hD] at h2
    injection h2 with h2
    subst h2
    exact ⟨x, hD, h3, h4, h5.2.2.1⟩
theorem seen_key {role now : Int} : seenD role now (lookT EntV.nil T (at_ Rp.str l (i : Int))).1.till ↔ SeenK D role now (at_ Rp.str l (i : Int)) := by
  obtain ⟨x, hD, _, _, ht⟩ := key_in hq hkl hi
  rw [ht]
  refine ⟨fun h => ⟨x, hD, h⟩, fun ⟨y, hy, h⟩ => ?_⟩
  rw [hD] at hy
  injection hy with hy
  subst hy
  exact h
theorem keys_sz : (at_ Rp.str l (i : Int)).size ≤ 65536 := by
  obtain ⟨x, _, hk, hok, _⟩ := key_in hq hkl hi
  rw [← hk]
  exact (okD_bnd hok).1
end
theorem pickr_any (w : World) (H Vb : Nat → Prop) (sp t : Nat) (T : Tb EntV) (D : ByteArray → Option EnD) (hq : SpX w H Vb sp t T D) (now : Int) (dr : Nat) (role : Int) (Aa : Option Addr) (na ca : Nat) (hdr : dr < 18446744073709551616) (hr1 : ¬ role = 1) : Calls Tryz.prog 11 #[.pointer (some ⟨sp, 0, none⟩), .agg #[.int .i64 now, .int .u64 (dr : Int), .int .i64 role, .slice Aa na ca]] w (fun e w' => ∃ k f l, e = .returned (.tuple #[.string k, .bool f, .slice none 0 0]) ∧ KeysOf D (fun _ => true) l ∧ PickS D role now dr l k f ∧ Fr [] w w') := by
 have hF := Fr.refl [] w
 have hX := hq
 have hB := hq.hB
 have hspl := hB.lt
 have hX0 := hq.lt
 have hcn := hq.hT.1.cn
 have hM := hq.hM
 refine V.en 79 Tryz.func11 fun a h1 => ?_
 refine V.sg fun K2 k3 => ?_
 refine V.go (V.mk [(1, .agg #[.int .i64 now, .int .u64 (dr : Int), .int .i64 role, .slice Aa na ca])] ⟨h1.e, trivial⟩ (by kernel_rfl) [.int .i64 now, .int .u64 (dr : Int), .int .i64 role, .slice Aa na ca] 27 (fun b => .pointer (some ⟨b, 0, none⟩)) (by kernel_rfl) ?_)
 intro w5 b4 heb4 hB6 hF7 hsb4
 have hX_8 := hX.fr0 hF7
 have hB_9 := hB.fr0 hF7
 have hF_10 := hF.new hF7
 refine V.pt h1 fun a h11 => ?_
 refine V.re h11 [] 4 6 [] fun a h12 => k3 _ _ ?_
 refine V.sg fun K13 k14 => ?_
 refine V.run h12 [] 1 1 0 [(13, .pointer (some ⟨sp, 0, none⟩))] fun a h15 => ?_
 refine V.cl h15 (Go.Proofs.enters_of Tryz.func34 (by kernel_rfl) rfl) (skeys0_any w5 hX_8) ?_
 rintro _ w23 ⟨A16, c17, l18, rfl, hO19, hk20, hn22, hF21⟩
 refine ⟨_, rfl, fun a h24 => ?_⟩
 have hsw23 := hF21.size
 have hX_25 := hX_8.fr0 hF21
 have hB_26 := hB_9.fr0 hF21
 have hF_27 := hF_10.new hF21
 have hB6_28 := hB6.fr0 hF21
 refine V.re h24 [] 1 0 [(7, .slice A16 l18.length c17)] fun a h29 => k14 _ _ ?_
 refine V.sr h29 [] 1 0 [(8, .slice none 0 0)] fun a h32 => ?_
 refine V.seq fun K33 k34 => ?_
 refine V.seq fun K35 k36 => ?_
 have hkl := hk20
 refine V.rr h32 [(1, .b hB6_28 1)] 15 16 [(9, .int .u64 (dr : Int))] fun a h37 => ?_
 refine V.then_n (k36 _ _ ?_)
 refine V.block ?_
 refine V.loopR 1 ?_
 refine V.rnd ?_
 refine V.seq fun K38 k39 => ?_
 refine V.sr h37 [] 17 18 [(19, .bool (decide (((l18.length : Nat) : Int) > 0)))] fun a h42 => ?_
 refine V.cp h42 (((l18.length : Nat) : Int) > 0) (fun ht43 => ?_) (fun ht43 => ?_)
 ·
  refine V.skip ?_
  refine V.then_n (k39 _ _ ?_)
  refine V.seq fun K44 k45 => ?_
  refine V.block ?_
  refine V.seq fun K46 k47 => ?_
  have hdm := Nat.mod_lt dr (show 0 < l18.length by omega)
  refine V.rr h42 [(3, .q (.int .u64 ((l18.length : Nat) : Int)) (V.w_u64 (by omega) (by omega))), (0, .remN .u64 dr l18.length), (0, .q (.int .i64 ((dr % l18.length : Nat) : Int)) (V.w_i64 (by omega) (by omega)))] 22 27 [(10, .int .i64 ((dr % l18.length : Nat) : Int))] fun a h48 => ?_
  refine V.then_n (k47 _ _ ?_)
  refine V.seq fun K49 k50 => ?_
  refine V.sr h48 [] 28 28 [(29, .int .i64 ((l18.length : Nat) : Int)), (30, .int .i64 0)] fun a h53 => ?_
  refine V.block ?_
  refine V.loop1 (fun (j : Nat) a_ w_ => En 79 [] a_ [(0, .pointer (some ⟨sp, 0, none⟩)), (3, .pointer (some ⟨b4, 0, none⟩)), (7, .slice A16 l18.length c17), (8, .slice none 0 0), (9, .int .u64 (dr : Int)), (10, .int .i64 (((dr % l18.length + j) % l18.length : Nat) : Int)), (29, .int .i64 ((l18.length : Nat) : Int)), (30, .int .i64 (j : Int))] ∧ SpX w_ H Vb sp t T D ∧ Blk w_ sp [.pointer (some ⟨t, 0, none⟩)] 63 ∧ Fr [] w w_ ∧ Blk w_ b4 [.int .i64 now, .int .u64 (dr : Int), .int .i64 role, .slice Aa na ca] 27 ∧ OwR Rp.str NoZ w_ w5.heap.size 9 (.slice A16 l18.length c17) l18 ∧ (j ≤ l18.length) ∧ (∀ j2, j2 < j → ¬ SeenK D role now (rotK l18 dr j2))) (fun (j : Nat) => l18.length - j) 0 ?_ ?_
  ·
   refine ⟨((h53.eq 10 (v := (.int .i64 ((dr % l18.length : Nat) : Int))) (u := (.int .i64 (((dr % l18.length + 0) % l18.length : Nat) : Int))) (V.int_eq (by rw [Nat.add_zero, Nat.mod_mod]))).eq 30 (v := (.int .i64 0)) (u := (.int .i64 (0 : Int))) (V.int_eq (by omega))).only _, hX_25, hB_26, hF_27, hB6_28, hO19, (by omega), (fun j2 h => absurd h (by omega))⟩
  ·
   rintro j a54 w55 ⟨h56, hX_57, hB_58, hF_59, hB6_60, hO19_61, hj, hG⟩
   have hlt62 := hB_58.lt
   have hfs63 := hF_59.size
   have hlt64 := hB6_60.lt
   refine V.sr h56 [] 1 0 [(31, .bool (decide ((j : Int) < ((l18.length : Nat) : Int))))] fun a h67 => ?_
   refine V.seq fun K68 k69 => ?_
   refine V.cp h67 ((j : Int) < ((l18.length : Nat) : Int)) (fun ht70 => ?_) (fun ht70 => ?_)
   ·
    refine V.skip ?_
    refine V.then_n (k69 _ _ ?_)
    refine V.seq fun K71 k72 => ?_
    refine V.block ?_
    refine V.seq fun K73 k74 => ?_
    refine V.seq fun K75 k76 => ?_
    have hjm := Nat.mod_lt (dr % l18.length + j) (show 0 < l18.length by omega)
    have hks := keys_sz hq hkl hjm
    refine V.ql (.seg [0, 1, 2, 3, 4, 5, 6, 7] (.alt (.eff 8 [] (.seg [9, 10, 11] (.eff 12 [3, 7] (.eff 13 [] (.seg [14] .nil))))) (.eff 12 [3, 7] (.eff 8 [] (.seg [9, 10, 11] (.eff 13 [] (.seg [14] .nil))))))) fun w77 hF78 hsw77 => ?_
    have hX_79 := hX_57.fr0 hF78
    have hB_80 := hB_58.fr0 hF78
    have hF_81 := hF_59.new hF78
    have hB6_82 := hB6_60.fr0 hF78
    have hO19_83 := hO19_61.fr0 hF78
    have hS84 := hO19_83.is
    obtain ⟨g85, o86, hA87, hA87l, hA87z⟩ := hS84.addr (by omega)
    obtain ⟨cs88, hok89, hE90⟩ := hS84.els hA87 (((dr % l18.length + j) % l18.length : Nat) : Int) (by omega) (by omega)
    obtain rfl : cs88 = [.string (at_ Rp.str l18 (((dr % l18.length + j) % l18.length : Nat) : Int))] := hok89
    refine V.qs h67 [(3, .b hB_80 0), (2, .ix g85 o86 l18.length c17 .i64 (((dr % l18.length + j) % l18.length : Nat) : Int) 1 hA87), (0, .l ⟨g85, o86 + (((dr % l18.length + j) % l18.length : Nat) : Int).toNat * 1, none⟩ (.string (at_ Rp.str l18 (((dr % l18.length + j) % l18.length : Nat) : Int))) (hE90.at 0 rfl))] 33 38 [(35, .pointer (some ⟨sp, 0, none⟩)), (36, .pointer (some ⟨t, 0, none⟩)), (39, .pointer (some ⟨g85, o86 + (((dr % l18.length + j) % l18.length : Nat) : Int).toNat * 1, none⟩)), (40, .string (at_ Rp.str l18 (((dr % l18.length + j) % l18.length : Nat) : Int)))] fun a h91 => ?_
    refine V.qa ?_ ?_
    ·
     refine V.qe ?_
     refine V.cl h91 (Go.Proofs.enters_of Tryz.func37 (by kernel_rfl) rfl) (look_any w77 (H) [] t (T) hX_79.hT (at_ Rp.str l18 (((dr % l18.length + j) % l18.length : Nat) : Int)) (by omega)) ?_
     rintro _ w93 ⟨rfl, hF92⟩
     refine ⟨_, rfl, fun a h94 => ?_⟩
     have hsw93 := hF92.size
     have hX_95 := hX_79.fr0 hF92
     have hB_96 := hB_80.fr0 hF92
     have hF_97 := hF_81.new hF92
     have hB6_98 := hB6_82.fr0 hF92
     have hO19_99 := hO19_83.fr0 hF92
     have hE90_101 := hE90.fr0 hF92
     refine V.eh trivial ?_
     refine V.qs h94 [] 32 32 [(42, .agg #[.int .i64 (((lookT EntV.nil T (at_ Rp.str l18 (((dr % l18.length + j) % l18.length : Nat) : Int))).1).kind), .string (((lookT EntV.nil T (at_ Rp.str l18 (((dr % l18.length + j) % l18.length : Nat) : Int))).1).s), .slice (((lookT EntV.nil T (at_ Rp.str l18 (((dr % l18.length + j) % l18.length : Nat) : Int))).1).l.a) (((lookT EntV.nil T (at_ Rp.str l18 (((dr % l18.length + j) % l18.length : Nat) : Int))).1).l.n) (((lookT EntV.nil T (at_ Rp.str l18 (((dr % l18.length + j) % l18.length : Nat) : Int))).1).l.c), .slice (((lookT EntV.nil T (at_ Rp.str l18 (((dr % l18.length + j) % l18.length : Nat) : Int))).1).z.a) (((lookT EntV.nil T (at_ Rp.str l18 (((dr % l18.length + j) % l18.length : Nat) : Int))).1).z.n) (((lookT EntV.nil T (at_ Rp.str l18 (((dr % l18.length + j) % l18.length : Nat) : Int))).1).z.c), .slice (((lookT EntV.nil T (at_ Rp.str l18 (((dr % l18.length + j) % l18.length : Nat) : Int))).1).h.a) (((lookT EntV.nil T (at_ Rp.str l18 (((dr % l18.length + j) % l18.length : Nat) : Int))).1).h.n) (((lookT EntV.nil T (at_ Rp.str l18 (((dr % l18.length + j) % l18.length : Nat) : Int))).1).h.c), .int .i64 (((lookT EntV.nil T (at_ Rp.str l18 (((dr % l18.length + j) % l18.length : Nat) : Int))).1).till)]), (43, .bool ((lookT EntV.nil T (at_ Rp.str l18 (((dr % l18.length + j) % l18.length : Nat) : Int))).2))] fun a h102 => ?_
     refine V.qe ?_
     refine V.go (V.mk [] trivial (by kernel_rfl) [.int .i64 0, .string ⟨#[]⟩, .slice none 0 0, .slice none 0 0, .slice none 0 0, .int .i64 0] 79 (fun b => .pointer (some ⟨b, 0, none⟩)) (by kernel_rfl) ?_)
     intro w104 b103 heb103 hB105 hF106 hsb103
     have hX_107 := hX_95.fr0 hF106
     have hB_108 := hB_96.fr0 hF106
     have hF_109 := hF_97.new hF106
     have hB6_110 := hB6_98.fr0 hF106
     have hO19_111 := hO19_99.fr0 hF106
     have hE90_113 := hE90_101.fr0 hF106
     refine V.pt h102 fun a h114 => ?_
     refine V.eh ⟨(fun _ => held_blk (n := 1) (hx := (h102.e (v := (.pointer (some ⟨sp, 0, none⟩))))) hB_96 hB_108 (by kernel_rfl) rfl (by simp only [List.length]; omega)), (fun _ => held_els (m := 1) (f := 0) (hx := (h102.e (v := (.pointer (some ⟨g85, o86 + (((dr % l18.length + j) % l18.length : Nat) : Int).toNat * 1, none⟩))))) hE90_101 hE90_113 (by kernel_rfl) (by simp only [List.length]; omega))⟩ ?_
     refine V.qe ?_
     refine V.go (V.stn b103 0 (.agg #[.int .i64 (((lookT EntV.nil T (at_ Rp.str l18 (((dr % l18.length + j) % l18.length : Nat) : Int))).1).kind), .string (((lookT EntV.nil T (at_ Rp.str l18 (((dr % l18.length + j) % l18.length : Nat) : Int))).1).s), .slice (((lookT EntV.nil T (at_ Rp.str l18 (((dr % l18.length + j) % l18.length : Nat) : Int))).1).l.a) (((lookT EntV.nil T (at_ Rp.str l18 (((dr % l18.length + j) % l18.length : Nat) : Int))).1).l.n) (((lookT EntV.nil T (at_ Rp.str l18 (((dr % l18.length + j) % l18.length : Nat) : Int))).1).l.c), .slice (((lookT EntV.nil T (at_ Rp.str l18 (((dr % l18.length + j) % l18.length : Nat) : Int))).1).z.a) (((lookT EntV.nil T (at_ Rp.str l18 (((dr % l18.length + j) % l18.length : Nat) : Int))).1).z.n) (((lookT EntV.nil T (at_ Rp.str l18 (((dr % l18.length + j) % l18.length : Nat) : Int))).1).z.c), .slice (((lookT EntV.nil T (at_ Rp.str l18 (((dr % l18.length + j) % l18.length : Nat) : Int))).1).h.a) (((lookT EntV.nil T (at_ Rp.str l18 (((dr % l18.length + j) % l18.length : Nat) : Int))).1).h.n) (((lookT EntV.nil T (at_ Rp.str l18 (((dr % l18.length + j) % l18.length : Nat) : Int))).1).h.c), .int .i64 (((lookT EntV.nil T (at_ Rp.str l18 (((dr % l18.length + j) % l18.length : Nat) : Int))).1).till)]) [.int .i64 (((lookT EntV.nil T (at_ Rp.str l18 (((dr % l18.length + j) % l18.length : Nat) : Int))).1).kind), .string (((lookT EntV.nil T (at_ Rp.str l18 (((dr % l18.length + j) % l18.length : Nat) : Int))).1).s), .slice (((lookT EntV.nil T (at_ Rp.str l18 (((dr % l18.length + j) % l18.length : Nat) : Int))).1).l.a) (((lookT EntV.nil T (at_ Rp.str l18 (((dr % l18.length + j) % l18.length : Nat) : Int))).1).l.n) (((lookT EntV.nil T (at_ Rp.str l18 (((dr % l18.length + j) % l18.length : Nat) : Int))).1).l.c), .slice (((lookT EntV.nil T (at_ Rp.str l18 (((dr % l18.length + j) % l18.length : Nat) : Int))).1).z.a) (((lookT EntV.nil T (at_ Rp.str l18 (((dr % l18.length + j) % l18.length : Nat) : Int))).1).z.n) (((lookT EntV.nil T (at_ Rp.str l18 (((dr % l18.length + j) % l18.length : Nat) : Int))).1).z.c), .slice (((lookT EntV.nil T (at_ Rp.str l18 (((dr % l18.length + j) % l18.length : Nat) : Int))).1).h.a) (((lookT EntV.nil T (at_ Rp.str l18 (((dr % l18.length + j) % l18.length : Nat) : Int))).1).h.n) (((lookT EntV.nil T (at_ Rp.str l18 (((dr % l18.length + j) % l18.length : Nat) : Int))).1).h.c), .int .i64 (((lookT EntV.nil T (at_ Rp.str l18 (((dr % l18.length + j) % l18.length : Nat) : Int))).1).till)] h114.e h114.e rfl rfl (by kernel_rfl) hB105 (by simp) [.int .i64 (((lookT EntV.nil T (at_ Rp.str l18 (((dr % l18.length + j) % l18.length : Nat) : Int))).1).kind), .string (((lookT EntV.nil T (at_ Rp.str l18 (((dr % l18.length + j) % l18.length : Nat) : Int))).1).s), .slice (((lookT EntV.nil T (at_ Rp.str l18 (((dr % l18.length + j) % l18.length : Nat) : Int))).1).l.a) (((lookT EntV.nil T (at_ Rp.str l18 (((dr % l18.length + j) % l18.length : Nat) : Int))).1).l.n) (((lookT EntV.nil T (at_ Rp.str l18 (((dr % l18.length + j) % l18.length : Nat) : Int))).1).l.c), .slice (((lookT EntV.nil T (at_ Rp.str l18 (((dr % l18.length + j) % l18.length : Nat) : Int))).1).z.a) (((lookT EntV.nil T (at_ Rp.str l18 (((dr % l18.length + j) % l18.length : Nat) : Int))).1).z.n) (((lookT EntV.nil T (at_ Rp.str l18 (((dr % l18.length + j) % l18.length : Nat) : Int))).1).z.c), .slice (((lookT EntV.nil T (at_ Rp.str l18 (((dr % l18.length + j) % l18.length : Nat) : Int))).1).h.a) (((lookT EntV.nil T (at_ Rp.str l18 (((dr % l18.length + j) % l18.length : Nat) : Int))).1).h.n) (((lookT EntV.nil T (at_ Rp.str l18 (((dr % l18.length + j) % l18.length : Nat) : Int))).1).h.c), .int .i64 (((lookT EntV.nil T (at_ Rp.str l18 (((dr % l18.length + j) % l18.length : Nat) : Int))).1).till)] rfl ?_)
     intro w115 hB116 hF117 hsw115
     have hX_118 := hX_107.frl hF117 (by intro k hk; simp only [List.mem_singleton] at hk; subst hk; exact ⟨fun q => by have := hX0 _ (.inl q); omega, fun q => by have := hX0 _ (.inr (.inl q)); omega, fun q => by have := hX0 _ (.inr (.inr q)); omega⟩)
     have hB_119 := hB_108.fr1 hF117 (by omega)
     have hF_120 := hF_109.own hF117 (by simp <;> omega)
     have hB6_121 := hB6_110.fr1 hF117 (by omega)
     have hO19_122 := hO19_111.frn hF117 (fun h => h) (by first | exact own_ne hO19_111 (by omega) | exact own_ne2 hO19_61 (by omega))
     have hE90_123 := hE90_113.fr hF117 (by simp <;> omega)
     refine V.eh trivial ?_
     refine V.qs h114 [] 12 12 [] fun a h124 => ?_
     refine V.qn (k76 _ _ ?_)
     refine V.sg fun K125 k126 => ?_
     refine V.run h124 [(0, .bs hB6_121 0 [.int .i64 now, .int .u64 (dr : Int), .int .i64 role, .slice Aa na ca]), (0, .bs hB116 0 [.int .i64 (((lookT EntV.nil T (at_ Rp.str l18 (((dr % l18.length + j) % l18.length : Nat) : Int))).1).kind), .string (((lookT EntV.nil T (at_ Rp.str l18 (((dr % l18.length + j) % l18.length : Nat) : Int))).1).s), .slice (((lookT EntV.nil T (at_ Rp.str l18 (((dr % l18.length + j) % l18.length : Nat) : Int))).1).l.a) (((lookT EntV.nil T (at_ Rp.str l18 (((dr % l18.length + j) % l18.length : Nat) : Int))).1).l.n) (((lookT EntV.nil T (at_ Rp.str l18 (((dr % l18.length + j) % l18.length : Nat) : Int))).1).l.c), .slice (((lookT EntV.nil T (at_ Rp.str l18 (((dr % l18.length + j) % l18.length : Nat) : Int))).1).z.a) (((lookT EntV.nil T (at_ Rp.str l18 (((dr % l18.length + j) % l18.length : Nat) : Int))).1).z.n) (((lookT EntV.nil T (at_ Rp.str l18 (((dr % l18.length + j) % l18.length : Nat) : Int))).1).z.c), .slice (((lookT EntV.nil T (at_ Rp.str l18 (((dr % l18.length + j) % l18.length : Nat) : Int))).1).h.a) (((lookT EntV.nil T (at_ Rp.str l18 (((dr % l18.length + j) % l18.length : Nat) : Int))).1).h.n) (((lookT EntV.nil T (at_ Rp.str l18 (((dr % l18.length + j) % l18.length : Nat) : Int))).1).h.c), .int .i64 (((lookT EntV.nil T (at_ Rp.str l18 (((dr % l18.length + j) % l18.length : Nat) : Int))).1).till)])] 2 1 0 [(44, .agg #[.int .i64 now, .int .u64 (dr : Int), .int .i64 role, .slice Aa na ca]), (45, .agg #[.int .i64 (((lookT EntV.nil T (at_ Rp.str l18 (((dr % l18.length + j) % l18.length : Nat) : Int))).1).kind), .string (((lookT EntV.nil T (at_ Rp.str l18 (((dr % l18.length + j) % l18.length : Nat) : Int))).1).s), .slice (((lookT EntV.nil T (at_ Rp.str l18 (((dr % l18.length + j) % l18.length : Nat) : Int))).1).l.a) (((lookT EntV.nil T (at_ Rp.str l18 (((dr % l18.length + j) % l18.length : Nat) : Int))).1).l.n) (((lookT EntV.nil T (at_ Rp.str l18 (((dr % l18.length + j) % l18.length : Nat) : Int))).1).l.c), .slice (((lookT EntV.nil T (at_ Rp.str l18 (((dr % l18.length + j) % l18.length : Nat) : Int))).1).z.a) (((lookT EntV.nil T (at_ Rp.str l18 (((dr % l18.length + j) % l18.length : Nat) : Int))).1).z.n) (((lookT EntV.nil T (at_ Rp.str l18 (((dr % l18.length + j) % l18.length : Nat) : Int))).1).z.c), .slice (((lookT EntV.nil T (at_ Rp.str l18 (((dr % l18.length + j) % l18.length : Nat) : Int))).1).h.a) (((lookT EntV.nil T (at_ Rp.str l18 (((dr % l18.length + j) % l18.length : Nat) : Int))).1).h.n) (((lookT EntV.nil T (at_ Rp.str l18 (((dr % l18.length + j) % l18.length : Nat) : Int))).1).h.c), .int .i64 (((lookT EntV.nil T (at_ Rp.str l18 (((dr % l18.length + j) % l18.length : Nat) : Int))).1).till)])] fun a h127 => ?_
     refine V.cl h127 (Go.Proofs.enters_of Tryz.func31 (by kernel_rfl) rfl) (seen_any w115 now (dr : Int) role Aa na ca ((lookT EntV.nil T (at_ Rp.str l18 (((dr % l18.length + j) % l18.length : Nat) : Int))).1)) ?_
     rintro _ w129 ⟨rfl, hF128⟩
     refine ⟨_, rfl, fun a h130 => ?_⟩
     have hsw129 := hF128.size
     have hX_131 := hX_118.fr0 hF128
     have hB_132 := hB_119.fr0 hF128
     have hF_133 := hF_120.new hF128
     have hB6_134 := hB6_121.fr0 hF128
     have hO19_135 := hO19_122.fr0 hF128
     have hE90_136 := hE90_123.fr0 hF128
     refine V.nt (k126 _ _ ?_)
     refine V.cp h130 (seenD role now (((lookT EntV.nil T (at_ Rp.str l18 (((dr % l18.length + j) % l18.length : Nat) : Int))).1).till)) (fun ht138 => ?_) (fun ht138 => ?_)
     ·
      refine V.sr h130 [(2, .ix g85 o86 l18.length c17 .i64 (((dr % l18.length + j) % l18.length : Nat) : Int) 1 hA87), (0, .l ⟨g85, o86 + (((dr % l18.length + j) % l18.length : Nat) : Int).toNat * 1, none⟩ (.string (at_ Rp.str l18 (((dr % l18.length + j) % l18.length : Nat) : Int))) (hE90_136.at 0 rfl))] 47 51 [(4, .string (at_ Rp.str l18 (((dr % l18.length + j) % l18.length : Nat) : Int))), (5, .bool true), (6, .slice none 0 0)] fun a h141 => ?_
      refine V.ret (V.then_r (V.blk_r (V.then_r (V.then_r (V.blk_r (V.then_r (V.blk_r (V.then_r (V.then_r (V.blk_r (V.then_r ?_)))))))))))
      refine V.r3 h141 (.string (at_ Rp.str l18 (((dr % l18.length + j) % l18.length : Nat) : Int))) (.bool true) (.slice none 0 0) ?_
      exact ⟨_, _, l18, rfl, hkl, .inl ⟨j, by omega, hG, (seen_key hq hkl (i := (dr % l18.length + j) % l18.length) (Nat.mod_lt _ (by omega))).1 ht138, rfl, rfl⟩, hF_133⟩
     ·
      refine V.skip ?_
      refine V.then_n (k74 _ _ ?_)
      refine V.seq fun K142 k143 => ?_
      refine V.sr h130 [(1, .b hB6_134 2), (0, .eq role 1)] 52 53 [(54, .bool (decide (role = 1)))] fun a h146 => ?_
      refine V.cp h146 (role = 1) (fun ht147 => ?_) (fun ht147 => ?_)
      · exact absurd ht147 hr1
      ·
       refine V.skip ?_
       refine V.then_n (k143 _ _ ?_)
       refine V.rr h146 [(1, .q (.int .i64 (((dr % l18.length + j) % l18.length + 1 : Nat) : Int)) (w_addN (by omega))), (2, .remN .i64 ((dr % l18.length + j) % l18.length + 1) l18.length)] 55 59 [(10, .int .i64 ((((dr % l18.length + j) % l18.length + 1) % l18.length : Nat) : Int))] fun a h148 => ?_
       refine V.blk_n ?_
       refine V.then_n (k72 _ _ ?_)
       refine V.rr h148 [(0, .i ((j : Int) + 1))] 60 60 [(30, .int .i64 ((j : Int) + 1))] fun a h149 => ?_
       refine V.then_n ?_
       have hns : ¬ SeenK D role now (rotK l18 dr j) := fun q => ht138 ((seen_key hq hkl (i := (dr % l18.length + j) % l18.length) (Nat.mod_lt _ (by omega))).2 q)
       refine ⟨j + 1, by omega, ?_⟩
       refine ⟨((h149.eq 10 (v := (.int .i64 ((((dr % l18.length + j) % l18.length + 1) % l18.length : Nat) : Int))) (u := (.int .i64 (((dr % l18.length + (j + 1)) % l18.length : Nat) : Int))) (V.int_eq (rot_next (by omega)))).eq 30 (v := (.int .i64 ((j : Int) + 1))) (u := (.int .i64 ((j + 1) : Int))) (V.int_eq (by omega))).only _, hX_131, hB_132, hF_133, hB6_134, hO19_135, (by omega), (fun j2 h => by rcases Nat.lt_or_eq_of_le (Nat.lt_succ_iff.1 h) with q | q; exact hG j2 q; (subst q; exact hns))⟩
    ·
     refine V.qe ?_
     refine V.go (V.mk [] trivial (by kernel_rfl) [.int .i64 0, .string ⟨#[]⟩, .slice none 0 0, .slice none 0 0, .slice none 0 0, .int .i64 0] 79 (fun b => .pointer (some ⟨b, 0, none⟩)) (by kernel_rfl) ?_)
     intro w151 b150 heb150 hB152 hF153 hsb150
     have hX_154 := hX_79.fr0 hF153
     have hB_155 := hB_80.fr0 hF153
     have hF_156 := hF_81.new hF153
     have hB6_157 := hB6_82.fr0 hF153
     have hO19_158 := hO19_83.fr0 hF153
     have hE90_160 := hE90.fr0 hF153
     refine V.pt h91 fun a h161 => ?_
     refine V.eh ⟨(fun _ => held_blk (n := 1) (hx := (h91.e (v := (.pointer (some ⟨sp, 0, none⟩))))) hB_80 hB_155 (by kernel_rfl) rfl (by simp only [List.length]; omega)), (fun _ => held_els (m := 1) (f := 0) (hx := (h91.e (v := (.pointer (some ⟨g85, o86 + (((dr % l18.length + j) % l18.length : Nat) : Int).toNat * 1, none⟩))))) hE90 hE90_160 (by kernel_rfl) (by simp only [List.length]; omega))⟩ ?_
     refine V.qe ?_
     refine V.cl h161 (Go.Proofs.enters_of Tryz.func37 (by kernel_rfl) rfl) (look_any w151 (H) [] t (T) hX_154.hT (at_ Rp.str l18 (((dr % l18.length + j) % l18.length : Nat) : Int)) (by omega)) ?_
     rintro _ w163 ⟨rfl, hF162⟩
     refine ⟨_, rfl, fun a h164 => ?_⟩
     have hsw163 := hF162.size
     have hX_165 := hX_154.fr0 hF162
     have hB_166 := hB_155.fr0 hF162
     have hF_167 := hF_156.new hF162
     have hB6_168 := hB6_157.fr0 hF162
     have hO19_169 := hO19_158.fr0 hF162
     have hE90_171 := hE90_160.fr0 hF162
     have hB152_172 := hB152.fr0 hF162
     refine V.eh trivial ?_
     refine V.qs h164 [] 32 32 [(42, .agg #[.int .i64 (((lookT EntV.nil T (at_ Rp.str l18 (((dr % l18.length + j) % l18.length : Nat) : Int))).1).kind), .string (((lookT EntV.nil T (at_ Rp.str l18 (((dr % l18.length + j) % l18.length : Nat) : Int))).1).s), .slice (((lookT EntV.nil T (at_ Rp.str l18 (((dr % l18.length + j) % l18.length : Nat) : Int))).1).l.a) (((lookT EntV.nil T (at_ Rp.str l18 (((dr % l18.length + j) % l18.length : Nat) : Int))).1).l.n) (((lookT EntV.nil T (at_ Rp.str l18 (((dr % l18.length + j) % l18.length : Nat) : Int))).1).l.c), .slice (((lookT EntV.nil T (at_ Rp.str l18 (((dr % l18.length + j) % l18.length : Nat) : Int))).1).z.a) (((lookT EntV.nil T (at_ Rp.str l18 (((dr % l18.length + j) % l18.length : Nat) : Int))).1).z.n) (((lookT EntV.nil T (at_ Rp.str l18 (((dr % l18.length + j) % l18.length : Nat) : Int))).1).z.c), .slice (((lookT EntV.nil T (at_ Rp.str l18 (((dr % l18.length + j) % l18.length : Nat) : Int))).1).h.a) (((lookT EntV.nil T (at_ Rp.str l18 (((dr % l18.length + j) % l18.length : Nat) : Int))).1).h.n) (((lookT EntV.nil T (at_ Rp.str l18 (((dr % l18.length + j) % l18.length : Nat) : Int))).1).h.c), .int .i64 (((lookT EntV.nil T (at_ Rp.str l18 (((dr % l18.length + j) % l18.length : Nat) : Int))).1).till)]), (43, .bool ((lookT EntV.nil T (at_ Rp.str l18 (((dr % l18.length + j) % l18.length : Nat) : Int))).2))] fun a h173 => ?_
     refine V.qe ?_
     refine V.go (V.stn b150 0 (.agg #[.int .i64 (((lookT EntV.nil T (at_ Rp.str l18 (((dr % l18.length + j) % l18.length : Nat) : Int))).1).kind), .string (((lookT EntV.nil T (at_ Rp.str l18 (((dr % l18.length + j) % l18.length : Nat) : Int))).1).s), .slice (((lookT EntV.nil T (at_ Rp.str l18 (((dr % l18.length + j) % l18.length : Nat) : Int))).1).l.a) (((lookT EntV.nil T (at_ Rp.str l18 (((dr % l18.length + j) % l18.length : Nat) : Int))).1).l.n) (((lookT EntV.nil T (at_ Rp.str l18 (((dr % l18.length + j) % l18.length : Nat) : Int))).1).l.c), .slice (((lookT EntV.nil T (at_ Rp.str l18 (((dr % l18.length + j) % l18.length : Nat) : Int))).1).z.a) (((lookT EntV.nil T (at_ Rp.str l18 (((dr % l18.length + j) % l18.length : Nat) : Int))).1).z.n) (((lookT EntV.nil T (at_ Rp.str l18 (((dr % l18.length + j) % l18.length : Nat) : Int))).1).z.c), .slice (((lookT EntV.nil T (at_ Rp.str l18 (((dr % l18.length + j) % l18.length : Nat) : Int))).1).h.a) (((lookT EntV.nil T (at_ Rp.str l18 (((dr % l18.length + j) % l18.length : Nat) : Int))).1).h.n) (((lookT EntV.nil T (at_ Rp.str l18 (((dr % l18.length + j) % l18.length : Nat) : Int))).1).h.c), .int .i64 (((lookT EntV.nil T (at_ Rp.str l18 (((dr % l18.length + j) % l18.length : Nat) : Int))).1).till)]) [.int .i64 (((lookT EntV.nil T (at_ Rp.str l18 (((dr % l18.length + j) % l18.length : Nat) : Int))).1).kind), .string (((lookT EntV.nil T (at_ Rp.str l18 (((dr % l18.length + j) % l18.length : Nat) : Int))).1).s), .slice (((lookT EntV.nil T (at_ Rp.str l18 (((dr % l18.length + j) % l18.length : Nat) : Int))).1).l.a) (((lookT EntV.nil T (at_ Rp.str l18 (((dr % l18.length + j) % l18.length : Nat) : Int))).1).l.n) (((lookT EntV.nil T (at_ Rp.str l18 (((dr % l18.length + j) % l18.length : Nat) : Int))).1).l.c), .slice (((lookT EntV.nil T (at_ Rp.str l18 (((dr % l18.length + j) % l18.length : Nat) : Int))).1).z.a) (((lookT EntV.nil T (at_ Rp.str l18 (((dr % l18.length + j) % l18.length : Nat) : Int))).1).z.n) (((lookT EntV.nil T (at_ Rp.str l18 (((dr % l18.length + j) % l18.length : Nat) : Int))).1).z.c), .slice (((lookT EntV.nil T (at_ Rp.str l18 (((dr % l18.length + j) % l18.length : Nat) : Int))).1).h.a) (((lookT EntV.nil T (at_ Rp.str l18 (((dr % l18.length + j) % l18.length : Nat) : Int))).1).h.n) (((lookT EntV.nil T (at_ Rp.str l18 (((dr % l18.length + j) % l18.length : Nat) : Int))).1).h.c), .int .i64 (((lookT EntV.nil T (at_ Rp.str l18 (((dr % l18.length + j) % l18.length : Nat) : Int))).1).till)] h173.e h173.e rfl rfl (by kernel_rfl) hB152_172 (by simp) [.int .i64 (((lookT EntV.nil T (at_ Rp.str l18 (((dr % l18.length + j) % l18.length : Nat) : Int))).1).kind), .string (((lookT EntV.nil T (at_ Rp.str l18 (((dr % l18.length + j) % l18.length : Nat) : Int))).1).s), .slice (((lookT EntV.nil T (at_ Rp.str l18 (((dr % l18.length + j) % l18.length : Nat) : Int))).1).l.a) (((lookT EntV.nil T (at_ Rp.str l18 (((dr % l18.length + j) % l18.length : Nat) : Int))).1).l.n) (((lookT EntV.nil T (at_ Rp.str l18 (((dr % l18.length + j) % l18.length : Nat) : Int))).1).l.c), .slice (((lookT EntV.nil T (at_ Rp.str l18 (((dr % l18.length + j) % l18.length : Nat) : Int))).1).z.a) (((lookT EntV.nil T (at_ Rp.str l18 (((dr % l18.length + j) % l18.length : Nat) : Int))).1).z.n) (((lookT EntV.nil T (at_ Rp.str l18 (((dr % l18.length + j) % l18.length : Nat) : Int))).1).z.c), .slice (((lookT EntV.nil T (at_ Rp.str l18 (((dr % l18.length + j) % l18.length : Nat) : Int))).1).h.a) (((lookT EntV.nil T (at_ Rp.str l18 (((dr % l18.length + j) % l18.length : Nat) : Int))).1).h.n) (((lookT EntV.nil T (at_ Rp.str l18 (((dr % l18.length + j) % l18.length : Nat) : Int))).1).h.c), .int .i64 (((lookT EntV.nil T (at_ Rp.str l18 (((dr % l18.length + j) % l18.length : Nat) : Int))).1).till)] rfl ?_)
     intro w174 hB175 hF176 hsw174
     have hX_177 := hX_165.frl hF176 (by intro k hk; simp only [List.mem_singleton] at hk; subst hk; exact ⟨fun q => by have := hX0 _ (.inl q); omega, fun q => by have := hX0 _ (.inr (.inl q)); omega, fun q => by have := hX0 _ (.inr (.inr q)); omega⟩)
     have hB_178 := hB_166.fr1 hF176 (by omega)
     have hF_179 := hF_167.own hF176 (by simp <;> omega)
     have hB6_180 := hB6_168.fr1 hF176 (by omega)
     have hO19_181 := hO19_169.frn hF176 (fun h => h) (by first | exact own_ne hO19_169 (by omega) | exact own_ne2 hO19_61 (by omega))
     have hE90_182 := hE90_171.fr hF176 (by simp <;> omega)
     refine V.eh trivial ?_
     refine V.qs h173 [] 12 12 [] fun a h183 => ?_
     refine V.qn (k76 _ _ ?_)
     refine V.sg fun K184 k185 => ?_
     refine V.run h183 [(0, .bs hB6_180 0 [.int .i64 now, .int .u64 (dr : Int), .int .i64 role, .slice Aa na ca]), (0, .bs hB175 0 [.int .i64 (((lookT EntV.nil T (at_ Rp.str l18 (((dr % l18.length + j) % l18.length : Nat) : Int))).1).kind), .string (((lookT EntV.nil T (at_ Rp.str l18 (((dr % l18.length + j) % l18.length : Nat) : Int))).1).s), .slice (((lookT EntV.nil T (at_ Rp.str l18 (((dr % l18.length + j) % l18.length : Nat) : Int))).1).l.a) (((lookT EntV.nil T (at_ Rp.str l18 (((dr % l18.length + j) % l18.length : Nat) : Int))).1).l.n) (((lookT EntV.nil T (at_ Rp.str l18 (((dr % l18.length + j) % l18.length : Nat) : Int))).1).l.c), .slice (((lookT EntV.nil T (at_ Rp.str l18 (((dr % l18.length + j) % l18.length : Nat) : Int))).1).z.a) (((lookT EntV.nil T (at_ Rp.str l18 (((dr % l18.length + j) % l18.length : Nat) : Int))).1).z.n) (((lookT EntV.nil T (at_ Rp.str l18 (((dr % l18.length + j) % l18.length : Nat) : Int))).1).z.c), .slice (((lookT EntV.nil T (at_ Rp.str l18 (((dr % l18.length + j) % l18.length : Nat) : Int))).1).h.a) (((lookT EntV.nil T (at_ Rp.str l18 (((dr % l18.length + j) % l18.length : Nat) : Int))).1).h.n) (((lookT EntV.nil T (at_ Rp.str l18 (((dr % l18.length + j) % l18.length : Nat) : Int))).1).h.c), .int .i64 (((lookT EntV.nil T (at_ Rp.str l18 (((dr % l18.length + j) % l18.length : Nat) : Int))).1).till)])] 2 1 0 [(44, .agg #[.int .i64 now, .int .u64 (dr : Int), .int .i64 role, .slice Aa na ca]), (45, .agg #[.int .i64 (((lookT EntV.nil T (at_ Rp.str l18 (((dr % l18.length + j) % l18.length : Nat) : Int))).1).kind), .string (((lookT EntV.nil T (at_ Rp.str l18 (((dr % l18.length + j) % l18.length : Nat) : Int))).1).s), .slice (((lookT EntV.nil T (at_ Rp.str l18 (((dr % l18.length + j) % l18.length : Nat) : Int))).1).l.a) (((lookT EntV.nil T (at_ Rp.str l18 (((dr % l18.length + j) % l18.length : Nat) : Int))).1).l.n) (((lookT EntV.nil T (at_ Rp.str l18 (((dr % l18.length + j) % l18.length : Nat) : Int))).1).l.c), .slice (((lookT EntV.nil T (at_ Rp.str l18 (((dr % l18.length + j) % l18.length : Nat) : Int))).1).z.a) (((lookT EntV.nil T (at_ Rp.str l18 (((dr % l18.length + j) % l18.length : Nat) : Int))).1).z.n) (((lookT EntV.nil T (at_ Rp.str l18 (((dr % l18.length + j) % l18.length : Nat) : Int))).1).z.c), .slice (((lookT EntV.nil T (at_ Rp.str l18 (((dr % l18.length + j) % l18.length : Nat) : Int))).1).h.a) (((lookT EntV.nil T (at_ Rp.str l18 (((dr % l18.length + j) % l18.length : Nat) : Int))).1).h.n) (((lookT EntV.nil T (at_ Rp.str l18 (((dr % l18.length + j) % l18.length : Nat) : Int))).1).h.c), .int .i64 (((lookT EntV.nil T (at_ Rp.str l18 (((dr % l18.length + j) % l18.length : Nat) : Int))).1).till)])] fun a h186 => ?_
     refine V.cl h186 (Go.Proofs.enters_of Tryz.func31 (by kernel_rfl) rfl) (seen_any w174 now (dr : Int) role Aa na ca ((lookT EntV.nil T (at_ Rp.str l18 (((dr % l18.length + j) % l18.length : Nat) : Int))).1)) ?_
     rintro _ w188 ⟨rfl, hF187⟩
     refine ⟨_, rfl, fun a h189 => ?_⟩
     have hsw188 := hF187.size
     have hX_190 := hX_177.fr0 hF187
     have hB_191 := hB_178.fr0 hF187
     have hF_192 := hF_179.new hF187
     have hB6_193 := hB6_180.fr0 hF187
     have hO19_194 := hO19_181.fr0 hF187
     have hE90_195 := hE90_182.fr0 hF187
     refine V.nt (k185 _ _ ?_)
     refine V.cp h189 (seenD role now (((lookT EntV.nil T (at_ Rp.str l18 (((dr % l18.length + j) % l18.length : Nat) : Int))).1).till)) (fun ht197 => ?_) (fun ht197 => ?_)
     ·
      refine V.sr h189 [(2, .ix g85 o86 l18.length c17 .i64 (((dr % l18.length + j) % l18.length : Nat) : Int) 1 hA87), (0, .l ⟨g85, o86 + (((dr % l18.length + j) % l18.length : Nat) : Int).toNat * 1, none⟩ (.string (at_ Rp.str l18 (((dr % l18.length + j) % l18.length : Nat) : Int))) (hE90_195.at 0 rfl))] 47 51 [(4, .string (at_ Rp.str l18 (((dr % l18.length + j) % l18.length : Nat) : Int))), (5, .bool true), (6, .slice none 0 0)] fun a h200 => ?_
      refine V.ret (V.then_r (V.blk_r (V.then_r (V.then_r (V.blk_r (V.then_r (V.blk_r (V.then_r (V.then_r (V.blk_r (V.then_r ?_)))))))))))
      refine V.r3 h200 (.string (at_ Rp.str l18 (((dr % l18.length + j) % l18.length : Nat) : Int))) (.bool true) (.slice none 0 0) ?_
      exact ⟨_, _, l18, rfl, hkl, .inl ⟨j, by omega, hG, (seen_key hq hkl (i := (dr % l18.length + j) % l18.length) (Nat.mod_lt _ (by omega))).1 ht197, rfl, rfl⟩, hF_192⟩
     ·
      refine V.skip ?_
      refine V.then_n (k74 _ _ ?_)
      refine V.seq fun K201 k202 => ?_
      refine V.sr h189 [(1, .b hB6_193 2), (0, .eq role 1)] 52 53 [(54, .bool (decide (role = 1)))] fun a h205 => ?_
      refine V.cp h205 (role = 1) (fun ht206 => ?_) (fun ht206 => ?_)
      · exact absurd ht206 hr1
      ·
       refine V.skip ?_
       refine V.then_n (k202 _ _ ?_)
       refine V.rr h205 [(1, .q (.int .i64 (((dr % l18.length + j) % l18.length + 1 : Nat) : Int)) (w_addN (by omega))), (2, .remN .i64 ((dr % l18.length + j) % l18.length + 1) l18.length)] 55 59 [(10, .int .i64 ((((dr % l18.length + j) % l18.length + 1) % l18.length : Nat) : Int))] fun a h207 => ?_
       refine V.blk_n ?_
       refine V.then_n (k72 _ _ ?_)
       refine V.rr h207 [(0, .i ((j : Int) + 1))] 60 60 [(30, .int .i64 ((j : Int) + 1))] fun a h208 => ?_
       refine V.then_n ?_
       have hns : ¬ SeenK D role now (rotK l18 dr j) := fun q => ht197 ((seen_key hq hkl (i := (dr % l18.length + j) % l18.length) (Nat.mod_lt _ (by omega))).2 q)
       refine ⟨j + 1, by omega, ?_⟩
       refine ⟨((h208.eq 10 (v := (.int .i64 ((((dr % l18.length + j) % l18.length + 1) % l18.length : Nat) : Int))) (u := (.int .i64 (((dr % l18.length + (j + 1)) % l18.length : Nat) : Int))) (V.int_eq (rot_next (by omega)))).eq 30 (v := (.int .i64 ((j : Int) + 1))) (u := (.int .i64 ((j + 1) : Int))) (V.int_eq (by omega))).only _, hX_190, hB_191, hF_192, hB6_193, hO19_194, (by omega), (fun j2 h => by rcases Nat.lt_or_eq_of_le (Nat.lt_succ_iff.1 h) with q | q; exact hG j2 q; (subst q; exact hns))⟩
   ·
    refine V.exit (V.then_e (V.then_e (V.blk_hit ?_)))
    refine V.then_n (k50 _ _ ?_)
    refine V.seq fun K209 k210 => ?_
    refine V.sr h67 [(1, .b hB6_60 2), (0, .ne role 1)] 61 62 [(63, .bool (decide (¬ role = 1)))] fun a h213 => ?_
    refine V.cp h213 (¬ role = 1) (fun ht214 => ?_) (fun ht214 => ?_)
    ·
     refine V.sr h213 [] 1 0 [(4, .string ⟨#[]⟩), (5, .bool false), (6, .slice none 0 0)] fun a h217 => ?_
     refine V.ret (V.then_r (V.blk_r (V.then_r (V.then_r (V.blk_r (V.then_r ?_))))))
     refine V.r3 h217 (.string ⟨#[]⟩) (.bool false) (.slice none 0 0) ?_
     exact ⟨_, _, l18, rfl, hkl, .inr ⟨fun j2 hj2 => hG j2 (by omega), rfl, rfl⟩, hF_59⟩
    · exact absurd hr1 ht214
 ·
  refine V.exit (V.then_e (V.then_e (V.blk_hit ?_)))
  refine V.then_n (k34 _ _ ?_)
  refine V.sr h42 [] 78 78 [(4, .string ⟨#[]⟩), (5, .bool false), (6, .slice none 0 0)] fun a h220 => ?_
  refine V.ret ?_
  refine V.r3 h220 (.string ⟨#[]⟩) (.bool false) (.slice none 0 0) ?_
  exact ⟨_, _, l18, rfl, hkl, .inr ⟨fun j hj => absurd hj (by omega), rfl, rfl⟩, hF_27⟩
/-! ### Sorts that keep what is alike in order: that they only change places -/
theorem swp_perm {xs : List ByteArray} {i k : Nat} {x y : ByteArray} (hi : i < xs.length) (hk : k < xs.length) (hx : xs[k]? = some x) (hy : xs[i]? = some y) : ((xs.set i x).set k y).Perm xs := by
  classical
  letI : BEq ByteArray := instBEqOfDecidableEq
  have hxk : xs[k] = x := by rw [List.getElem?_eq_getElem hk] at hx; injection hx
  have hyi : xs[i] = y := by rw [List.getElem?_eq_getElem hi] at hy; injection hy
  rw [List.perm_iff_count]
  intro a
  rw [List.count_set (by rw [List.length_set]; exact hk), List.count_set hi, List.getElem_set]
  by_cases hik : i = k
  · subst hik
    obtain rfl : x = y := hxk.symm.trans hyi
    rw [if_pos rfl, hxk]
    have : x == a → 0 < xs.count a := fun h => List.count_pos_iff.2 (by have := eq_of_beq h; subst this; rw [← hxk]; exact List.getElem_mem hi)
    split <;> simp_all <;> omega
  · rw [if_neg hik, hxk, hyi]
    have h1 : x == a → 0 < xs.count a := fun h => List.count_pos_iff.2 (by have := eq_of_beq h; subst this; rw [← hxk]; exact List.getElem_mem hk)
    have h2 : y == a → 0 < xs.count a := fun h => List.count_pos_iff.2 (by have := eq_of_beq h; subst this; rw [← hyi]; exact List.getElem_mem hi)
    rcases Bool.eq_false_or_eq_true (x == a) with e1 | e1 <;> rcases Bool.eq_false_or_eq_true (y == a) with e2 | e2
    · have := h1 e1; simp only [e1, e2, if_true]; omega
    · have := h1 e1; simp only [e1, e2, if_true, Bool.false_eq_true, if_false]; omega
    · have := h2 e2; simp only [e1, e2, if_true, Bool.false_eq_true, if_false]; omega
    · simp only [e1, e2, Bool.false_eq_true, if_false]; omega
theorem at_is {xs : List ByteArray} {i : Int} {k : Nat} (h : i = (k : Int)) (hk : k < xs.length) : xs[k]? = some (at_ Rp.str xs i) := by
  subst h
  exact at_some Rp.str (xs := xs) (i := (k : Int)) (by omega) (by omega)
theorem at_memI {l : List ByteArray} {i : Int} (h0 : 0 ≤ i) (h1 : i < l.length) : at_ Rp.str l i ∈ l := List.mem_of_getElem? (at_some Rp.str h0 h1)
theorem w_nat {x : Int} {n : Nat} (h : x = (n : Int)) (hn : n ≤ 9223372036854775807) : Value.int .i64 (IntKind.i64.wrap x) = .int .i64 ((n : Nat) : Int) := by
  subst h; exact w_i64 (by omega) (by omega)
theorem swapR_any (w : World) (base g c : Nat) (l xs : List ByteArray) (hx : xs.Perm l) (hO : OwR Rp.str NoZ w base 9 (.slice (some ⟨g, 0, none⟩) l.length c) xs) (hlL : l.length ≤ 1099511627776) (pf : Nat) (u : Value) (lo hi m : Nat) (ha : lo + m ≤ l.length) (hb : hi + m ≤ l.length) : Calls Tryz.prog 163 #[.slice (some ⟨g, 0, none⟩) l.length c, .int .i64 ((lo : Nat) : Int), .int .i64 ((hi : Nat) : Int), .int .i64 ((m : Nat) : Int), .func (.func pf) #[] #[u]] w (fun e w' => e = .returned (.tuple #[]) ∧ ∃ xs', xs'.Perm l ∧ OwR Rp.str NoZ w' base 9 (.slice (some ⟨g, 0, none⟩) l.length c) xs' ∧ Fr [g] w w') := by
 have hF := Fr.refl [g] w
 have hxl := hx.length_eq
 have hlen0 := hO.len_le
 have hltg := hO.lt g rfl
 have hcap := hO.cap
 refine V.en 38 Tryz.func163 fun a h1 => ?_
 refine V.sr h1 [] 1 0 [(10, .int .i64 0)] fun a h4 => ?_
 refine V.block ?_
 refine V.loop2 (fun (i : Nat) (ys : List ByteArray) a_ w_ => En 38 [] a_ [(0, .slice (some ⟨g, 0, none⟩) l.length c), (1, .int .i64 ((lo : Nat) : Int)), (2, .int .i64 ((hi : Nat) : Int)), (3, .int .i64 ((m : Nat) : Int)), (10, .int .i64 ((i : Nat) : Int))] ∧ OwR Rp.str NoZ w_ base 9 (.slice (some ⟨g, 0, none⟩) l.length c) ys ∧ Fr [g] w w_ ∧ (i ≤ m) ∧ (ys.Perm l)) (fun (i : Nat) (ys : List ByteArray) => m - i) 0 xs ?_ ?_
 ·
  refine ⟨(h4.eq 10 (v := (.int .i64 0)) (u := (.int .i64 ((0 : Nat) : Int))) (rfl)).only _, hO, hF, (by omega), hx⟩
 ·
  rintro i ys a5 w6 ⟨h7, hO_8, hF_9, hi1, hy⟩
  have hfs10 := hF_9.size
  have hyl := hy.length_eq
  refine V.seq fun K11 k12 => ?_
  refine V.sr h7 [] 11 12 [(13, .bool (decide (((i : Nat) : Int) < ((m : Nat) : Int))))] fun a h15 => ?_
  refine V.cp h15 (((i : Nat) : Int) < ((m : Nat) : Int)) (fun ht16 => ?_) (fun ht16 => ?_)
  ·
   refine V.skip ?_
   refine V.then_n (k12 _ _ ?_)
   refine V.seq fun K17 k18 => ?_
   refine V.block ?_
   refine V.pl [([0,1,2,3,4,5,6,7,8,9,10,11,12,13,14,15,16,17,18,19,20],some (21,[])),([22],some (23,[])),([],none)] fun w19 hF20 hsw19 => ?_
   have hO_21 := hO_8.fr0 hF20
   have hF_22 := hF_9.trans hF20 (by simp <;> omega)
   have hS26 := hO_21.is
   obtain ⟨cs23, hok24, hE25⟩ := hS26.els rfl (((hi : Nat) : Int) + ((i : Nat) : Int)) (by omega) (by omega)
   obtain rfl : cs23 = [.string (at_ Rp.str ys (((hi : Nat) : Int) + ((i : Nat) : Int)))] := hok24
   obtain ⟨cs27, hok28, hE29⟩ := hS26.els rfl (((lo : Nat) : Int) + ((i : Nat) : Int)) (by omega) (by omega)
   obtain rfl : cs27 = [.string (at_ Rp.str ys (((lo : Nat) : Int) + ((i : Nat) : Int)))] := hok28
   refine V.pe h15 [(3, .i (((lo : Nat) : Int) + ((i : Nat) : Int))), (3, .i (((hi : Nat) : Int) + ((i : Nat) : Int))), (3, .i (((hi : Nat) : Int) + ((i : Nat) : Int))), (0, .ix g 0 l.length c .i64 (((hi : Nat) : Int) + ((i : Nat) : Int)) 1 rfl), (0, .l ⟨g, 0 + (((hi : Nat) : Int) + ((i : Nat) : Int)).toNat * 1, none⟩ (.string (at_ Rp.str ys (((hi : Nat) : Int) + ((i : Nat) : Int)))) (hE25.at 0 rfl)), (3, .i (((lo : Nat) : Int) + ((i : Nat) : Int))), (0, .ix g 0 l.length c .i64 (((lo : Nat) : Int) + ((i : Nat) : Int)) 1 rfl), (0, .l ⟨g, 0 + (((lo : Nat) : Int) + ((i : Nat) : Int)).toNat * 1, none⟩ (.string (at_ Rp.str ys (((lo : Nat) : Int) + ((i : Nat) : Int)))) (hE29.at 0 rfl)), (0, .ix g 0 l.length c .i64 (((lo : Nat) : Int) + ((i : Nat) : Int)) 1 rfl)] 16 34 [(20, .slice (some ⟨g, 0, none⟩) l.length c), (23, .int .i64 (((hi : Nat) : Int) + ((i : Nat) : Int))), (29, .string (at_ Rp.str ys (((hi : Nat) : Int) + ((i : Nat) : Int)))), (35, .string (at_ Rp.str ys (((lo : Nat) : Int) + ((i : Nat) : Int)))), (36, .pointer (some ⟨g, 0 + (((lo : Nat) : Int) + ((i : Nat) : Int)).toNat * 1, none⟩))] fun a h30 => ?_
   refine V.go (V.sto ((((lo : Nat) : Int) + ((i : Nat) : Int)).toNat) (at_ Rp.str ys (((hi : Nat) : Int) + ((i : Nat) : Int))) hO_21 (h30.e (v := (.pointer (some ⟨g, 0 + (((lo : Nat) : Int) + ((i : Nat) : Int)).toNat * 1, none⟩)))) (h30.e (v := (.string (at_ Rp.str ys (((hi : Nat) : Int) + ((i : Nat) : Int)))))) (by kernel_rfl) (by first | omega | (simp only [List.length_set]; omega)) ?_)
   intro w31 hO32 hF33 hsw31
   have hF_34 := hF_22.trans hF33 (by simp <;> omega)
   refine V.eh trivial ?_
   refine V.pe h30 [(0, .ix g 0 l.length c .i64 (((hi : Nat) : Int) + ((i : Nat) : Int)) 1 rfl)] 1 0 [(37, .pointer (some ⟨g, 0 + (((hi : Nat) : Int) + ((i : Nat) : Int)).toNat * 1, none⟩))] fun a h35 => ?_
   refine V.go (V.sto ((((hi : Nat) : Int) + ((i : Nat) : Int)).toNat) (at_ Rp.str ys (((lo : Nat) : Int) + ((i : Nat) : Int))) hO32 (h35.e (v := (.pointer (some ⟨g, 0 + (((hi : Nat) : Int) + ((i : Nat) : Int)).toNat * 1, none⟩)))) (h35.e (v := (.string (at_ Rp.str ys (((lo : Nat) : Int) + ((i : Nat) : Int)))))) (by kernel_rfl) (by first | omega | (simp only [List.length_set]; omega)) ?_)
   intro w36 hO37 hF38 hsw36
   have hF_39 := hF_34.trans hF38 (by simp <;> omega)
   refine V.eh trivial ?_
   refine V.pz h35 [] 1 0 [] fun a h40 => ?_
   refine V.blk_n ?_
   refine V.then_n (k18 _ _ ?_)
   refine V.rr h40 [(1, .i (((i : Nat) : Int) + 1))] 14 15 [(10, .int .i64 (((i : Nat) : Int) + 1))] fun a h41 => ?_
   refine V.then_n ?_
   refine ⟨i + 1, (ys.set ((((lo : Nat) : Int) + ((i : Nat) : Int)).toNat) (at_ Rp.str ys (((hi : Nat) : Int) + ((i : Nat) : Int)))).set ((((hi : Nat) : Int) + ((i : Nat) : Int)).toNat) (at_ Rp.str ys (((lo : Nat) : Int) + ((i : Nat) : Int))), by omega, ?_⟩
   refine ⟨(h41.eq 10 (v := (.int .i64 (((i : Nat) : Int) + 1))) (u := (.int .i64 (((i + 1) : Nat) : Int))) (V.int_eq (by omega))).only _, hO37, hF_39, (by omega), ((swp_perm (by omega) (by omega) (at_is (by omega) (by omega)) (at_is (by omega) (by omega))).trans hy)⟩
  ·
   refine V.exit (V.then_e (V.then_e (V.blk_hit ?_)))
   refine V.e0 h15 ?_
   exact ⟨rfl, _, hy, hO_8, hF_9⟩
theorem ins_any (w : World) (base g c : Nat) (l xs : List ByteArray) (hx : xs.Perm l) (hO : OwR Rp.str NoZ w base 9 (.slice (some ⟨g, 0, none⟩) l.length c) xs) (hlL : l.length ≤ 1099511627776) (pf : Nat) (u : Value) (he : ∀ args w, (callFunc pf args).run Tryz.prog w = .ok (.enter pf args) w) (hp : ∀ w1, Fr [g] w w1 → ∀ x ∈ l, ∀ y ∈ l, Calls Tryz.prog pf #[.string x, .string y, u] w1 (fun e w' => ∃ n : Int, e = .returned (.int .i64 n) ∧ Fr [] w1 w')) (lo hi : Nat) (ha : lo ≤ hi) (hb : hi ≤ l.length) : Calls Tryz.prog 116 #[.slice (some ⟨g, 0, none⟩) l.length c, .int .i64 ((lo : Nat) : Int), .int .i64 ((hi : Nat) : Int), .func (.func pf) #[] #[u]] w (fun e w' => e = .returned (.tuple #[]) ∧ ∃ xs', xs'.Perm l ∧ OwR Rp.str NoZ w' base 9 (.slice (some ⟨g, 0, none⟩) l.length c) xs' ∧ Fr [g] w w') := by
 have hF := Fr.refl [g] w
 have hxl := hx.length_eq
 have hlen0 := hO.len_le
 have hltg := hO.lt g rfl
 have hcap := hO.cap
 refine V.en 53 Tryz.func116 fun a h1 => ?_
 refine V.sr h1 [(1, .i (((lo : Nat) : Int) + 1))] 10 11 [(8, .int .i64 (((lo : Nat) : Int) + 1))] fun a h4 => ?_
 refine V.block ?_
 refine V.loop2 (fun (i : Nat) (ys : List ByteArray) a_ w_ => En 53 [] a_ [(0, .slice (some ⟨g, 0, none⟩) l.length c), (1, .int .i64 ((lo : Nat) : Int)), (2, .int .i64 ((hi : Nat) : Int)), (3, .func (.func pf) #[] #[u]), (8, .int .i64 ((i : Nat) : Int))] ∧ OwR Rp.str NoZ w_ base 9 (.slice (some ⟨g, 0, none⟩) l.length c) ys ∧ Fr [g] w w_ ∧ (lo < i) ∧ (ys.Perm l)) (fun (i : Nat) (ys : List ByteArray) => hi - i) (lo + 1) xs ?_ ?_
 ·
  refine ⟨(h4.eq 8 (v := (.int .i64 (((lo : Nat) : Int) + 1))) (u := (.int .i64 (((lo + 1) : Nat) : Int))) (V.int_eq (by omega))).only _, hO, hF, (by omega), hx⟩
 ·
  rintro i ys a5 w6 ⟨h7, hO_8, hF_9, hi1, hy⟩
  have hfs10 := hF_9.size
  refine V.seq fun K11 k12 => ?_
  refine V.sr h7 [] 12 13 [(14, .bool (decide (((i : Nat) : Int) < ((hi : Nat) : Int))))] fun a h15 => ?_
  refine V.cp h15 (((i : Nat) : Int) < ((hi : Nat) : Int)) (fun ht16 => ?_) (fun ht16 => ?_)
  ·
   refine V.skip ?_
   refine V.then_n (k12 _ _ ?_)
   refine V.seq fun K17 k18 => ?_
   refine V.block ?_
   refine V.sr h15 [] 17 17 [(9, .int .i64 ((i : Nat) : Int))] fun a h21 => ?_
   refine V.block ?_
   refine V.loop2 (fun (j : Nat) (zs : List ByteArray) a_ w_ => En 53 [] a_ [(0, .slice (some ⟨g, 0, none⟩) l.length c), (1, .int .i64 ((lo : Nat) : Int)), (2, .int .i64 ((hi : Nat) : Int)), (3, .func (.func pf) #[] #[u]), (8, .int .i64 ((i : Nat) : Int)), (9, .int .i64 ((j : Nat) : Int))] ∧ OwR Rp.str NoZ w_ base 9 (.slice (some ⟨g, 0, none⟩) l.length c) zs ∧ Fr [g] w w_ ∧ (lo ≤ j ∧ j ≤ i) ∧ (zs.Perm l)) (fun (j : Nat) (zs : List ByteArray) => j) i ys ?_ ?_
   ·
    refine ⟨(h21.eq 9 (v := (.int .i64 ((i : Nat) : Int))) (u := (.int .i64 ((i : Nat) : Int))) (rfl)).only _, hO_8, hF_9, (by omega), hy⟩
   ·
    rintro j zs a22 w23 ⟨h24, hO_25, hF_26, hj, hz⟩
    have hfs27 := hF_26.size
    have hzl := hz.length_eq
    refine V.seq fun K28 k29 => ?_
    refine V.seq fun K30 k31 => ?_
    refine V.pl [([0,1,2,3,4,5,6,7,8,9,10,11,12,13],some (14,[])),([15,16],none)] fun w32 hF33 hsw32 => ?_
    have hO_34 := hO_25.fr0 hF33
    have hF_35 := hF_26.trans hF33 (by simp <;> omega)
    refine V.pe0 ?_
    refine V.run h24 [] 4 20 20 [(18, .int .i64 ((j : Nat) : Int)), (19, .int .i64 ((lo : Nat) : Int)), (21, .bool (decide (((j : Nat) : Int) > ((lo : Nat) : Int))))] fun a h36 => ?_
    by_cases hg37 : ((j : Nat) : Int) > ((lo : Nat) : Int)
    ·
     have h38 := h36.kt 21 hg37
     have hS42 := hO_34.is
     obtain ⟨cs39, hok40, hE41⟩ := hS42.els rfl ((j : Nat) : Int) (by omega) (by omega)
     obtain rfl : cs39 = [.string (at_ Rp.str zs ((j : Nat) : Int))] := hok40
     obtain ⟨cs43, hok44, hE45⟩ := hS42.els rfl (((j : Nat) : Int) - 1) (by omega) (by omega)
     obtain rfl : cs43 = [.string (at_ Rp.str zs (((j : Nat) : Int) - 1))] := hok44
     refine V.se h38 [(3, .ix g 0 l.length c .i64 ((j : Nat) : Int) 1 rfl), (0, .l ⟨g, 0 + ((j : Nat) : Int).toNat * 1, none⟩ (.string (at_ Rp.str zs ((j : Nat) : Int))) (hE41.at 0 rfl)), (2, .i (((j : Nat) : Int) - 1)), (0, .ix g 0 l.length c .i64 (((j : Nat) : Int) - 1) 1 rfl), (0, .l ⟨g, 0 + (((j : Nat) : Int) - 1).toNat * 1, none⟩ (.string (at_ Rp.str zs (((j : Nat) : Int) - 1))) (hE45.at 0 rfl))] 23 30 [(22, .func (.func pf) #[] #[u]), (26, .string (at_ Rp.str zs ((j : Nat) : Int))), (28, .int .i64 ((j : Nat) : Int)), (31, .string (at_ Rp.str zs (((j : Nat) : Int) - 1)))] fun a h46 => ?_
     refine V.clg h46 he (hp w32 hF_35 (at_ Rp.str zs ((j : Nat) : Int)) (hz.mem_iff.1 (at_memI (by omega) (by omega))) (at_ Rp.str zs (((j : Nat) : Int) - 1)) (hz.mem_iff.1 (at_memI (by omega) (by omega)))) ?_
     rintro _ w49 ⟨n47, rfl, hF48⟩
     refine ⟨_, rfl, fun a h50 => ?_⟩
     have hsw49 := hF48.size
     have hO_51 := hO_34.fr0 hF48
     have hF_52 := hF_35.trans hF48 (by simp <;> omega)
     have hE41_54 := hE41.fr0 hF48
     have hE45_55 := hE45.fr0 hF48
     refine V.eh trivial ?_
     refine V.pz h50 [] 33 33 [(34, .bool (decide (n47 < 0)))] fun a h56 => k31 _ _ ?_
     refine V.cp h56 (n47 < 0) (fun ht57 => ?_) (fun ht57 => ?_)
     ·
      refine V.skip ?_
      refine V.then_n (k29 _ _ ?_)
      refine V.seq fun K58 k59 => ?_
      refine V.block ?_
      refine V.pl [([0,1,2,3,4,5,6,7,8,9,10,11,12,13,14],some (15,[])),([16],some (17,[])),([],none)] fun w60 hF61 hsw60 => ?_
      have hO_62 := hO_51.fr0 hF61
      have hF_63 := hF_52.trans hF61 (by simp <;> omega)
      have hE41_65 := hE41_54.fr0 hF61
      have hE45_66 := hE45_55.fr0 hF61
      refine V.pe h56 [(4, .i (((j : Nat) : Int) - 1)), (2, .i (((j : Nat) : Int) - 1)), (0, .ix g 0 l.length c .i64 (((j : Nat) : Int) - 1) 1 rfl), (0, .l ⟨g, 0 + (((j : Nat) : Int) - 1).toNat * 1, none⟩ (.string (at_ Rp.str zs (((j : Nat) : Int) - 1))) (hE45_66.at 0 rfl)), (2, .ix g 0 l.length c .i64 ((j : Nat) : Int) 1 rfl), (0, .l ⟨g, 0 + ((j : Nat) : Int).toNat * 1, none⟩ (.string (at_ Rp.str zs ((j : Nat) : Int))) (hE41_65.at 0 rfl)), (0, .ix g 0 l.length c .i64 ((j : Nat) : Int) 1 rfl)] 37 49 [(39, .slice (some ⟨g, 0, none⟩) l.length c), (41, .int .i64 (((j : Nat) : Int) - 1)), (46, .string (at_ Rp.str zs (((j : Nat) : Int) - 1))), (50, .string (at_ Rp.str zs ((j : Nat) : Int))), (51, .pointer (some ⟨g, 0 + ((j : Nat) : Int).toNat * 1, none⟩))] fun a h67 => ?_
      refine V.go (V.sto (((j : Nat) : Int).toNat) (at_ Rp.str zs (((j : Nat) : Int) - 1)) hO_62 (h67.e (v := (.pointer (some ⟨g, 0 + ((j : Nat) : Int).toNat * 1, none⟩)))) (h67.e (v := (.string (at_ Rp.str zs (((j : Nat) : Int) - 1))))) (by kernel_rfl) (by first | omega | (simp only [List.length_set]; omega)) ?_)
      intro w68 hO69 hF70 hsw68
      have hF_71 := hF_63.trans hF70 (by simp <;> omega)
      refine V.eh trivial ?_
      refine V.pe h67 [(0, .ix g 0 l.length c .i64 (((j : Nat) : Int) - 1) 1 rfl)] 1 0 [(52, .pointer (some ⟨g, 0 + (((j : Nat) : Int) - 1).toNat * 1, none⟩))] fun a h72 => ?_
      refine V.go (V.sto ((((j : Nat) : Int) - 1).toNat) (at_ Rp.str zs ((j : Nat) : Int)) hO69 (h72.e (v := (.pointer (some ⟨g, 0 + (((j : Nat) : Int) - 1).toNat * 1, none⟩)))) (h72.e (v := (.string (at_ Rp.str zs ((j : Nat) : Int))))) (by kernel_rfl) (by first | omega | (simp only [List.length_set]; omega)) ?_)
      intro w73 hO74 hF75 hsw73
      have hF_76 := hF_71.trans hF75 (by simp <;> omega)
      refine V.eh trivial ?_
      refine V.pz h72 [] 1 0 [] fun a h77 => ?_
      refine V.blk_n ?_
      refine V.then_n (k59 _ _ ?_)
      refine V.rr h77 [(1, .i (((j : Nat) : Int) - 1))] 35 36 [(9, .int .i64 (((j : Nat) : Int) - 1))] fun a h78 => ?_
      refine V.then_n ?_
      refine ⟨j - 1, (zs.set j (at_ Rp.str zs (((j : Nat) : Int) - 1))).set ((((j : Nat) : Int) - 1).toNat) (at_ Rp.str zs ((j : Nat) : Int)), by omega, ?_⟩
      refine ⟨(h78.eq 9 (v := (.int .i64 (((j : Nat) : Int) - 1))) (u := (.int .i64 (((j - 1) : Nat) : Int))) (V.int_eq (by omega))).only _, hO74, hF_76, (by omega), ((swp_perm (by omega) (by omega) (at_is (by omega) (by omega)) (at_is (by omega) (by omega))).trans hz)⟩
     ·
      refine V.exit (V.then_e (V.then_e (V.blk_hit (V.blk_n ?_))))
      refine V.then_n (k18 _ _ ?_)
      refine V.rr h56 [(1, .i (((i : Nat) : Int) + 1))] 15 16 [(8, .int .i64 (((i : Nat) : Int) + 1))] fun a h79 => ?_
      refine V.then_n ?_
      refine ⟨i + 1, zs, by omega, ?_⟩
      refine ⟨(h79.eq 8 (v := (.int .i64 (((i : Nat) : Int) + 1))) (u := (.int .i64 (((i + 1) : Nat) : Int))) (V.int_eq (by omega))).only _, hO_51, hF_52, (by omega), hz⟩
    ·
     have h80 := h36.kf 21 hg37
     refine V.se h80 [] 23 30 [(22, undef), (26, undef), (28, undef), (31, undef)] fun a h81 => ?_
     refine V.run h81 [] 1 1 0 [(32, undef)] fun a h82 => ?_
     refine V.eh trivial ?_
     refine V.pz h82 [] 33 33 [(34, .bool false)] fun a h83 => k31 _ _ ?_
     refine V.cf h83 ?_
     refine V.exit (V.then_e (V.then_e (V.blk_hit (V.blk_n ?_))))
     refine V.then_n (k18 _ _ ?_)
     refine V.rr h83 [(1, .i (((i : Nat) : Int) + 1))] 15 16 [(8, .int .i64 (((i : Nat) : Int) + 1))] fun a h84 => ?_
     refine V.then_n ?_
     refine ⟨i + 1, zs, by omega, ?_⟩
     refine ⟨(h84.eq 8 (v := (.int .i64 (((i : Nat) : Int) + 1))) (u := (.int .i64 (((i + 1) : Nat) : Int))) (V.int_eq (by omega))).only _, hO_34, hF_35, (by omega), hz⟩
  ·
   refine V.exit (V.then_e (V.then_e (V.blk_hit ?_)))
   refine V.e0 h15 ?_
   exact ⟨rfl, _, hy, hO_8, hF_9⟩
theorem rot_any (w : World) (base g c : Nat) (l xs : List ByteArray) (hx : xs.Perm l) (hO : OwR Rp.str NoZ w base 9 (.slice (some ⟨g, 0, none⟩) l.length c) xs) (hlL : l.length ≤ 1099511627776) (pf : Nat) (u : Value) (lo mid hi : Nat) (h1 : lo < mid) (h2 : mid < hi) (h3 : hi ≤ l.length) : Calls Tryz.prog 151 #[.slice (some ⟨g, 0, none⟩) l.length c, .int .i64 ((lo : Nat) : Int), .int .i64 ((mid : Nat) : Int), .int .i64 ((hi : Nat) : Int), .func (.func pf) #[] #[u]] w (fun e w' => e = .returned (.tuple #[]) ∧ ∃ xs', xs'.Perm l ∧ OwR Rp.str NoZ w' base 9 (.slice (some ⟨g, 0, none⟩) l.length c) xs' ∧ Fr [g] w w') := by
 have hF := Fr.refl [g] w
 have hxl := hx.length_eq
 have hlen0 := hO.len_le
 have hltg := hO.lt g rfl
 have hcap := hO.cap
 refine V.en 58 Tryz.func151 fun a h1 => ?_
 refine V.seq fun K2 k3 => ?_
 refine V.rr h1 [(2, .q (.int .i64 ((mid - lo : Nat) : Int)) (w_nat (x := ((mid : Nat) : Int) - ((lo : Nat) : Int)) (n := mid - lo) (by omega) (by omega)))] 12 14 [(10, .int .i64 ((mid - lo : Nat) : Int))] fun a h4 => ?_
 refine V.then_n (k3 _ _ ?_)
 refine V.sr h4 [(2, .q (.int .i64 ((hi - mid : Nat) : Int)) (w_nat (x := ((hi : Nat) : Int) - ((mid : Nat) : Int)) (n := hi - mid) (by omega) (by omega)))] 15 17 [(11, .int .i64 ((hi - mid : Nat) : Int))] fun a h7 => ?_
 refine V.seq fun K8 k9 => ?_
 refine V.block ?_
 refine V.loop3 (fun (i : Nat) (j : Nat) (ys : List ByteArray) a_ w_ => En 58 [] a_ [(0, .slice (some ⟨g, 0, none⟩) l.length c), (2, .int .i64 ((mid : Nat) : Int)), (4, .func (.func pf) #[] #[u]), (10, .int .i64 ((i : Nat) : Int)), (11, .int .i64 ((j : Nat) : Int))] ∧ OwR Rp.str NoZ w_ base 9 (.slice (some ⟨g, 0, none⟩) l.length c) ys ∧ Fr [g] w w_ ∧ (0 < i ∧ 0 < j ∧ lo + i ≤ mid ∧ mid + j ≤ hi) ∧ (ys.Perm l)) (fun (i : Nat) (j : Nat) (ys : List ByteArray) => i + j) (mid - lo) (hi - mid) xs ?_ ?_
 ·
  refine ⟨((h7.eq 10 (v := (.int .i64 ((mid - lo : Nat) : Int))) (u := (.int .i64 (((mid - lo) : Nat) : Int))) (V.int_eq (by omega))).eq 11 (v := (.int .i64 ((hi - mid : Nat) : Int))) (u := (.int .i64 (((hi - mid) : Nat) : Int))) (V.int_eq (by omega))).only _, hO, hF, (by omega), hx⟩
 ·
  rintro i j ys a10 w11 ⟨h12, hO_13, hF_14, hij, hy⟩
  have hfs15 := hF_14.size
  have hyl := hy.length_eq
  refine V.seq fun K16 k17 => ?_
  refine V.sr h12 [(2, .ne ((i : Nat) : Int) ((j : Nat) : Int))] 18 19 [(20, .bool (decide (¬ ((i : Nat) : Int) = ((j : Nat) : Int))))] fun a h20 => ?_
  refine V.cp h20 (¬ ((i : Nat) : Int) = ((j : Nat) : Int)) (fun ht21 => ?_) (fun ht21 => ?_)
  ·
   refine V.skip ?_
   refine V.then_n (k17 _ _ ?_)
   refine V.block ?_
   refine V.sr h20 [] 21 22 [(23, .bool (decide (((i : Nat) : Int) > ((j : Nat) : Int))))] fun a h24 => ?_
   refine V.cp h24 (((i : Nat) : Int) > ((j : Nat) : Int)) (fun ht25 => ?_) (fun ht25 => ?_)
   ·
    refine V.sg fun K26 k27 => ?_
    refine V.run h24 [(3, .q (.int .i64 ((mid - i : Nat) : Int)) (w_nat (x := ((mid : Nat) : Int) - ((i : Nat) : Int)) (n := mid - i) (by omega) (by omega)))] 7 25 26 [(24, .slice (some ⟨g, 0, none⟩) l.length c), (27, .int .i64 ((mid - i : Nat) : Int)), (28, .int .i64 ((mid : Nat) : Int)), (29, .int .i64 ((j : Nat) : Int)), (30, .func (.func pf) #[] #[u])] fun a h28 => ?_
    refine V.cl h28 (Go.Proofs.enters_of Tryz.func163 (by kernel_rfl) rfl) (swapR_any w11 base g c l ys hy hO_13 hlL pf u (mid - i) mid j (by omega) (by omega)) ?_
    rintro _ w33 ⟨rfl, xs29, hx30, hO31, hF32⟩
    refine ⟨_, rfl, fun a h34 => ?_⟩
    have hsw33 := hF32.size
    have hF_35 := hF_14.trans hF32 (by simp <;> omega)
    refine V.nt (k27 _ _ ?_)
    refine V.rr h34 [(2, .q (.int .i64 ((i - j : Nat) : Int)) (w_nat (x := ((i : Nat) : Int) - ((j : Nat) : Int)) (n := i - j) (by omega) (by omega)))] 32 34 [(10, .int .i64 ((i - j : Nat) : Int))] fun a h36 => ?_
    refine V.blk_n (V.then_n ?_)
    refine ⟨i - j, j, xs29, by omega, ?_⟩
    refine ⟨((h36.eq 10 (v := (.int .i64 ((i - j : Nat) : Int))) (u := (.int .i64 (((i - j) : Nat) : Int))) (V.int_eq (by omega))).eq 11 (v := (.int .i64 ((j : Nat) : Int))) (u := (.int .i64 ((j : Nat) : Int))) (V.int_eq (by omega))).only _, hO31, hF_35, (by omega), hx30⟩
   ·
    refine V.sg fun K37 k38 => ?_
    refine V.run h24 [(3, .q (.int .i64 ((mid - i : Nat) : Int)) (w_nat (x := ((mid : Nat) : Int) - ((i : Nat) : Int)) (n := mid - i) (by omega) (by omega))), (2, .q (.int .i64 ((mid + j : Nat) : Int)) (w_nat (x := ((mid : Nat) : Int) + ((j : Nat) : Int)) (n := mid + j) (by omega) (by omega))), (1, .q (.int .i64 ((mid + j - i : Nat) : Int)) (w_nat (x := ((mid + j : Nat) : Int) - ((i : Nat) : Int)) (n := mid + j - i) (by omega) (by omega)))] 11 36 42 [(35, .slice (some ⟨g, 0, none⟩) l.length c), (38, .int .i64 ((mid - i : Nat) : Int)), (43, .int .i64 ((mid + j - i : Nat) : Int)), (44, .int .i64 ((i : Nat) : Int)), (45, .func (.func pf) #[] #[u])] fun a h39 => ?_
    refine V.cl h39 (Go.Proofs.enters_of Tryz.func163 (by kernel_rfl) rfl) (swapR_any w11 base g c l ys hy hO_13 hlL pf u (mid - i) (mid + j - i) i (by omega) (by omega)) ?_
    rintro _ w44 ⟨rfl, xs40, hx41, hO42, hF43⟩
    refine ⟨_, rfl, fun a h45 => ?_⟩
    have hsw44 := hF43.size
    have hF_46 := hF_14.trans hF43 (by simp <;> omega)
    refine V.nt (k38 _ _ ?_)
    refine V.rr h45 [(2, .q (.int .i64 ((j - i : Nat) : Int)) (w_nat (x := ((j : Nat) : Int) - ((i : Nat) : Int)) (n := j - i) (by omega) (by omega)))] 47 49 [(11, .int .i64 ((j - i : Nat) : Int))] fun a h47 => ?_
    refine V.blk_n (V.then_n ?_)
    refine ⟨i, j - i, xs40, by omega, ?_⟩
    refine ⟨((h47.eq 10 (v := (.int .i64 ((i : Nat) : Int))) (u := (.int .i64 ((i : Nat) : Int))) (V.int_eq (by omega))).eq 11 (v := (.int .i64 ((j - i : Nat) : Int))) (u := (.int .i64 (((j - i) : Nat) : Int))) (V.int_eq (by omega))).only _, hO42, hF_46, (by omega), hx41⟩
  ·
   refine V.exit (V.then_e (V.then_e (V.blk_hit ?_)))
   refine V.then_n (k9 _ _ ?_)
   refine V.rg ?_
   refine V.run h20 [(3, .q (.int .i64 ((mid - i : Nat) : Int)) (w_nat (x := ((mid : Nat) : Int) - ((i : Nat) : Int)) (n := mid - i) (by omega) (by omega)))] 7 51 52 [(50, .slice (some ⟨g, 0, none⟩) l.length c), (53, .int .i64 ((mid - i : Nat) : Int)), (54, .int .i64 ((mid : Nat) : Int)), (55, .int .i64 ((i : Nat) : Int)), (56, .func (.func pf) #[] #[u])] fun a h48 => ?_
   refine V.cl h48 (Go.Proofs.enters_of Tryz.func163 (by kernel_rfl) rfl) (swapR_any w11 base g c l ys hy hO_13 hlL pf u (mid - i) mid i (by omega) (by omega)) ?_
   rintro _ w53 ⟨rfl, xs49, hx50, hO51, hF52⟩
   refine ⟨_, rfl, fun a h54 => ?_⟩
   have hsw53 := hF52.size
   have hF_55 := hF_14.trans hF52 (by simp <;> omega)
   refine V.nil ?_
   refine V.e0 h54 ?_
   exact ⟨rfl, _, hx50, hO51, hF_55⟩
theorem sym_ih (w : World) (base g c : Nat) (l xs : List ByteArray) (hx : xs.Perm l) (hO : OwR Rp.str NoZ w base 9 (.slice (some ⟨g, 0, none⟩) l.length c) xs) (hlL : l.length ≤ 1099511627776) (pf : Nat) (u : Value) (he : ∀ args w, (callFunc pf args).run Tryz.prog w = .ok (.enter pf args) w) (hp : ∀ w1, Fr [g] w w1 → ∀ x ∈ l, ∀ y ∈ l, Calls Tryz.prog pf #[.string x, .string y, u] w1 (fun e w' => ∃ n : Int, e = .returned (.int .i64 n) ∧ Fr [] w1 w')) (lo mid hi : Nat) (h1 : lo < mid) (h2 : mid < hi) (h3 : hi ≤ l.length) (IH : ∀ (w1 : World) (ys : List ByteArray) (lo1 mid1 hi1 : Nat), Fr [g] w w1 → ys.Perm l → OwR Rp.str NoZ w1 base 9 (.slice (some ⟨g, 0, none⟩) l.length c) ys → lo1 < mid1 → mid1 < hi1 → hi1 ≤ l.length → hi1 - lo1 < hi - lo → Calls Tryz.prog 117 #[(.slice (some ⟨g, 0, none⟩) l.length c), .int .i64 (lo1 : Int), .int .i64 (mid1 : Int), .int .i64 (hi1 : Int), (.func (.func pf) #[] #[u])] w1 (fun e w' => e = .returned (.tuple #[]) ∧ ∃ xs', xs'.Perm l ∧ OwR Rp.str NoZ w' base 9 (.slice (some ⟨g, 0, none⟩) l.length c) xs' ∧ Fr [g] w1 w')) : Calls Tryz.prog 117 #[.slice (some ⟨g, 0, none⟩) l.length c, .int .i64 ((lo : Nat) : Int), .int .i64 ((mid : Nat) : Int), .int .i64 ((hi : Nat) : Int), .func (.func pf) #[] #[u]] w (fun e w' => e = .returned (.tuple #[]) ∧ ∃ xs', xs'.Perm l ∧ OwR Rp.str NoZ w' base 9 (.slice (some ⟨g, 0, none⟩) l.length c) xs' ∧ Fr [g] w w') := by
 have hF := Fr.refl [g] w
 have hxl := hx.length_eq
 have hlen0 := hO.len_le
 have hltg := hO.lt g rfl
 have hcap := hO.cap
 refine V.en 220 Tryz.func117 fun a h1 => ?_
 refine V.seq fun K2 k3 => ?_
 refine V.seq fun K4 k5 => ?_
 refine V.rr h1 [(2, .i (((mid : Nat) : Int) - ((lo : Nat) : Int))), (0, .eq (((mid : Nat) : Int) - ((lo : Nat) : Int)) 1)] 25 27 [(28, .bool (decide ((((mid : Nat) : Int) - ((lo : Nat) : Int)) = 1)))] fun a h6 => ?_
 refine V.then_n (k5 _ _ ?_)
 refine V.cp h6 ((((mid : Nat) : Int) - ((lo : Nat) : Int)) = 1) (fun ht7 => ?_) (fun ht7 => ?_)
 ·
  refine V.sr h6 [] 29 29 [(10, .int .i64 ((mid : Nat) : Int))] fun a h10 => ?_
  refine V.sr h10 [] 30 30 [(11, .int .i64 ((hi : Nat) : Int))] fun a h13 => ?_
  refine V.seq fun K14 k15 => ?_
  refine V.block ?_
  refine V.loop3 (fun (i : Nat) (j : Nat) (yi : List ByteArray) a_ w_ => En 220 [] a_ [(0, .slice (some ⟨g, 0, none⟩) l.length c), (1, .int .i64 ((lo : Nat) : Int)), (2, .int .i64 ((mid : Nat) : Int)), (3, .int .i64 ((hi : Nat) : Int)), (4, .func (.func pf) #[] #[u]), (10, .int .i64 ((i : Nat) : Int)), (11, .int .i64 ((j : Nat) : Int))] ∧ OwR Rp.str NoZ w_ base 9 (.slice (some ⟨g, 0, none⟩) l.length c) yi ∧ Fr [g] w w_ ∧ (mid ≤ i ∧ i ≤ j ∧ j ≤ hi) ∧ (yi.Perm l)) (fun (i : Nat) (j : Nat) (yi : List ByteArray) => j - i) mid hi xs ?_ ?_
  ·
   refine ⟨((h13.eq 10 (v := (.int .i64 ((mid : Nat) : Int))) (u := (.int .i64 ((mid : Nat) : Int))) (V.int_eq (by omega))).eq 11 (v := (.int .i64 ((hi : Nat) : Int))) (u := (.int .i64 ((hi : Nat) : Int))) (V.int_eq (by omega))).only _, hO, hF, (by omega), hx⟩
  ·
   rintro i j yi a16 w17 ⟨h18, hO_19, hF_20, hij, hyi⟩
   have hfs21 := hF_20.size
   have hyil := hyi.length_eq
   refine V.seq fun K22 k23 => ?_
   refine V.sr h18 [] 31 32 [(33, .bool (decide (((i : Nat) : Int) < ((j : Nat) : Int))))] fun a h26 => ?_
   refine V.cp h26 (((i : Nat) : Int) < ((j : Nat) : Int)) (fun ht27 => ?_) (fun ht27 => ?_)
   ·
    refine V.skip ?_
    refine V.then_n (k23 _ _ ?_)
    refine V.block ?_
    refine V.sr h26 [(2, .i (((i : Nat) : Int) + ((j : Nat) : Int))), (0, .q (.int .u64 ((i + j : Nat) : Int)) (w_toU (by omega))), (0, .q (.int .u64 (((i + j) / 2 : Nat) : Int)) (w_shr1 (i + j))), (0, .q (.int .i64 (((i + j) / 2 : Nat) : Int)) (w_toI (by omega)))] 34 39 [(12, .int .i64 (((i + j) / 2 : Nat) : Int))] fun a h30 => ?_
    refine V.seq fun K31 k32 => ?_
    refine V.pl [([0,1,2,3,4,5,6,7,8],some (9,[])),([10],none)] fun w33 hF34 hsw33 => ?_
    have hO_35 := hO_19.fr0 hF34
    have hF_36 := hF_20.trans hF34 (by simp <;> omega)
    have hS40 := hO_35.is
    obtain ⟨cs37, hok38, hE39⟩ := hS40.els rfl (((i + j) / 2 : Nat) : Int) (by omega) (by omega)
    obtain rfl : cs37 = [.string (at_ Rp.str yi (((i + j) / 2 : Nat) : Int))] := hok38
    obtain ⟨cs41, hok42, hE43⟩ := hS40.els rfl ((lo : Nat) : Int) (by omega) (by omega)
    obtain rfl : cs41 = [.string (at_ Rp.str yi ((lo : Nat) : Int))] := hok42
    refine V.pe h30 [(3, .ix g 0 l.length c .i64 (((i + j) / 2 : Nat) : Int) 1 rfl), (0, .l ⟨g, 0 + (((i + j) / 2 : Nat) : Int).toNat * 1, none⟩ (.string (at_ Rp.str yi (((i + j) / 2 : Nat) : Int))) (hE39.at 0 rfl)), (2, .ix g 0 l.length c .i64 ((lo : Nat) : Int) 1 rfl), (0, .l ⟨g, 0 + ((lo : Nat) : Int).toNat * 1, none⟩ (.string (at_ Rp.str yi ((lo : Nat) : Int))) (hE43.at 0 rfl))] 41 47 [(40, .func (.func pf) #[] #[u]), (44, .string (at_ Rp.str yi (((i + j) / 2 : Nat) : Int))), (48, .string (at_ Rp.str yi ((lo : Nat) : Int)))] fun a h44 => ?_
    refine V.cl h44 he (hp w33 hF_36 (at_ Rp.str yi (((i + j) / 2 : Nat) : Int)) (hyi.mem_iff.1 (at_memI (by omega) (by omega))) (at_ Rp.str yi ((lo : Nat) : Int)) (hyi.mem_iff.1 (at_memI (by omega) (by omega)))) ?_
    rintro _ w47 ⟨n45, rfl, hF46⟩
    refine ⟨_, rfl, fun a h48 => ?_⟩
    have hsw47 := hF46.size
    have hO_49 := hO_35.fr0 hF46
    have hF_50 := hF_36.trans hF46 (by simp <;> omega)
    refine V.eh trivial ?_
    refine V.pz h48 [] 1 0 [(50, .bool (decide (n45 < 0)))] fun a h54 => k32 _ _ ?_
    refine V.cp h54 (n45 < 0) (fun ht55 => ?_) (fun ht55 => ?_)
    ·
     refine V.rr h54 [(1, .q (.int .i64 (((i + j) / 2 + 1 : Nat) : Int)) (w_nat (x := (((i + j) / 2 : Nat) : Int) + 1) (n := (i + j) / 2 + 1) (by omega) (by omega)))] 51 52 [(10, .int .i64 (((i + j) / 2 + 1 : Nat) : Int))] fun a h56 => ?_
     refine V.blk_n (V.then_n ?_)
     refine ⟨(i + j) / 2 + 1, j, yi, by omega, ?_⟩
     refine ⟨((h56.eq 10 (v := (.int .i64 (((i + j) / 2 + 1 : Nat) : Int))) (u := (.int .i64 ((((i + j) / 2 + 1) : Nat) : Int))) (V.int_eq (by omega))).eq 11 (v := (.int .i64 ((j : Nat) : Int))) (u := (.int .i64 ((j : Nat) : Int))) (V.int_eq (by omega))).only _, hO_49, hF_50, (by omega), hyi⟩
    ·
     refine V.rr h54 [] 53 53 [(11, .int .i64 (((i + j) / 2 : Nat) : Int))] fun a h57 => ?_
     refine V.blk_n (V.then_n ?_)
     refine ⟨i, (i + j) / 2, yi, by omega, ?_⟩
     refine ⟨((h57.eq 10 (v := (.int .i64 ((i : Nat) : Int))) (u := (.int .i64 ((i : Nat) : Int))) (V.int_eq (by omega))).eq 11 (v := (.int .i64 (((i + j) / 2 : Nat) : Int))) (u := (.int .i64 ((((i + j) / 2) : Nat) : Int))) (V.int_eq (by omega))).only _, hO_49, hF_50, (by omega), hyi⟩
   ·
    refine V.exit (V.then_e (V.then_e (V.blk_hit ?_)))
    refine V.then_n (k15 _ _ ?_)
    refine V.seq fun K58 k59 => ?_
    refine V.sr h26 [] 54 54 [(13, .int .i64 ((lo : Nat) : Int))] fun a h62 => ?_
    refine V.block ?_
    refine V.loop2 (fun (k : Nat) (yk : List ByteArray) a_ w_ => En 220 [] a_ [(0, .slice (some ⟨g, 0, none⟩) l.length c), (1, .int .i64 ((lo : Nat) : Int)), (2, .int .i64 ((mid : Nat) : Int)), (3, .int .i64 ((hi : Nat) : Int)), (4, .func (.func pf) #[] #[u]), (10, .int .i64 ((i : Nat) : Int)), (13, .int .i64 ((k : Nat) : Int))] ∧ OwR Rp.str NoZ w_ base 9 (.slice (some ⟨g, 0, none⟩) l.length c) yk ∧ Fr [g] w w_ ∧ (lo ≤ k) ∧ (yk.Perm l)) (fun (k : Nat) (yk : List ByteArray) => i - 1 - k) lo yi ?_ ?_
    ·
     refine ⟨(h62.eq 13 (v := (.int .i64 ((lo : Nat) : Int))) (u := (.int .i64 ((lo : Nat) : Int))) (V.int_eq (by omega))).only _, hO_19, hF_20, (by omega), hyi⟩
    ·
     rintro k yk a63 w64 ⟨h65, hO_66, hF_67, hk, hyk⟩
     have hfs68 := hF_67.size
     have hykl := hyk.length_eq
     refine V.seq fun K69 k70 => ?_
     refine V.sr h65 [(2, .i (((i : Nat) : Int) - 1))] 55 57 [(58, .bool (decide (((k : Nat) : Int) < (((i : Nat) : Int) - 1))))] fun a h73 => ?_
     refine V.cp h73 (((k : Nat) : Int) < (((i : Nat) : Int) - 1)) (fun ht74 => ?_) (fun ht74 => ?_)
     ·
      refine V.skip ?_
      refine V.then_n (k70 _ _ ?_)
      refine V.seq fun K75 k76 => ?_
      refine V.block ?_
      refine V.pl [([0,1,2,3,4,5,6,7,8,9,10,11,12,13,14],some (15,[])),([16],some (17,[])),([],none)] fun w77 hF78 hsw77 => ?_
      have hO_79 := hO_66.fr0 hF78
      have hF_80 := hF_67.trans hF78 (by simp <;> omega)
      have hS84 := hO_79.is
      obtain ⟨cs81, hok82, hE83⟩ := hS84.els rfl (((k : Nat) : Int) + 1) (by omega) (by omega)
      obtain rfl : cs81 = [.string (at_ Rp.str yk (((k : Nat) : Int) + 1))] := hok82
      obtain ⟨cs85, hok86, hE87⟩ := hS84.els rfl ((k : Nat) : Int) (by omega) (by omega)
      obtain rfl : cs85 = [.string (at_ Rp.str yk ((k : Nat) : Int))] := hok86
      refine V.pe h73 [(4, .i (((k : Nat) : Int) + 1)), (2, .i (((k : Nat) : Int) + 1)), (0, .ix g 0 l.length c .i64 (((k : Nat) : Int) + 1) 1 rfl), (0, .l ⟨g, 0 + (((k : Nat) : Int) + 1).toNat * 1, none⟩ (.string (at_ Rp.str yk (((k : Nat) : Int) + 1))) (hE83.at 0 rfl)), (2, .ix g 0 l.length c .i64 ((k : Nat) : Int) 1 rfl), (0, .l ⟨g, 0 + ((k : Nat) : Int).toNat * 1, none⟩ (.string (at_ Rp.str yk ((k : Nat) : Int))) (hE87.at 0 rfl)), (0, .ix g 0 l.length c .i64 ((k : Nat) : Int) 1 rfl)] 61 73 [(63, .slice (some ⟨g, 0, none⟩) l.length c), (65, .int .i64 (((k : Nat) : Int) + 1)), (70, .string (at_ Rp.str yk (((k : Nat) : Int) + 1))), (74, .string (at_ Rp.str yk ((k : Nat) : Int))), (75, .pointer (some ⟨g, 0 + ((k : Nat) : Int).toNat * 1, none⟩))] fun a h88 => ?_
      refine V.go (V.sto (((k : Nat) : Int).toNat) (at_ Rp.str yk (((k : Nat) : Int) + 1)) hO_79 (h88.e (v := (.pointer (some ⟨g, 0 + ((k : Nat) : Int).toNat * 1, none⟩)))) (h88.e (v := (.string (at_ Rp.str yk (((k : Nat) : Int) + 1))))) (by kernel_rfl) (by first | omega | (simp only [List.length_set]; omega)) ?_)
      intro w89 hO90 hF91 hsw89
      have hF_92 := hF_80.trans hF91 (by simp <;> omega)
      refine V.eh trivial ?_
      refine V.pe h88 [(0, .ix g 0 l.length c .i64 (((k : Nat) : Int) + 1) 1 rfl)] 1 0 [(76, .pointer (some ⟨g, 0 + (((k : Nat) : Int) + 1).toNat * 1, none⟩))] fun a h93 => ?_
      refine V.go (V.sto ((((k : Nat) : Int) + 1).toNat) (at_ Rp.str yk ((k : Nat) : Int)) hO90 (h93.e (v := (.pointer (some ⟨g, 0 + (((k : Nat) : Int) + 1).toNat * 1, none⟩)))) (h93.e (v := (.string (at_ Rp.str yk ((k : Nat) : Int))))) (by kernel_rfl) (by first | omega | (simp only [List.length_set]; omega)) ?_)
      intro w94 hO95 hF96 hsw94
      have hF_97 := hF_92.trans hF96 (by simp <;> omega)
      refine V.eh trivial ?_
      refine V.pz h93 [] 1 0 [] fun a h98 => ?_
      refine V.blk_n ?_
      refine V.then_n (k76 _ _ ?_)
      refine V.rr h98 [(1, .i (((k : Nat) : Int) + 1))] 59 60 [(13, .int .i64 (((k : Nat) : Int) + 1))] fun a h99 => ?_
      refine V.then_n ?_
      refine ⟨k + 1, (yk.set k (at_ Rp.str yk (((k : Nat) : Int) + 1))).set ((((k : Nat) : Int) + 1).toNat) (at_ Rp.str yk ((k : Nat) : Int)), by omega, ?_⟩
      refine ⟨(h99.eq 13 (v := (.int .i64 (((k : Nat) : Int) + 1))) (u := (.int .i64 (((k + 1) : Nat) : Int))) (V.int_eq (by omega))).only _, hO95, hF_97, (by omega), ((swp_perm (by omega) (by omega) (at_is (by omega) (by omega)) (at_is (by omega) (by omega))).trans hyk)⟩
     ·
      refine V.exit (V.then_e (V.then_e (V.blk_hit ?_)))
      refine V.then_n (k59 _ _ ?_)
      refine V.ret (V.then_r ?_)
      refine V.r0 h73 ?_
      exact ⟨rfl, _, hyk, hO_66, hF_67⟩
 ·
  refine V.skip ?_
  refine V.then_n (k3 _ _ ?_)
  refine V.seq fun K100 k101 => ?_
  refine V.sr h6 [(2, .i (((hi : Nat) : Int) - ((mid : Nat) : Int))), (0, .eq (((hi : Nat) : Int) - ((mid : Nat) : Int)) 1)] 77 79 [(80, .bool (decide ((((hi : Nat) : Int) - ((mid : Nat) : Int)) = 1)))] fun a h104 => ?_
  refine V.cp h104 ((((hi : Nat) : Int) - ((mid : Nat) : Int)) = 1) (fun ht105 => ?_) (fun ht105 => ?_)
  ·
   refine V.sr h104 [] 81 81 [(14, .int .i64 ((lo : Nat) : Int))] fun a h108 => ?_
   refine V.sr h108 [] 82 82 [(15, .int .i64 ((mid : Nat) : Int))] fun a h111 => ?_
   refine V.seq fun K112 k113 => ?_
   refine V.block ?_
   refine V.loop3 (fun (iu : Nat) (iv : Nat) (yiu : List ByteArray) a_ w_ => En 220 [] a_ [(0, .slice (some ⟨g, 0, none⟩) l.length c), (1, .int .i64 ((lo : Nat) : Int)), (2, .int .i64 ((mid : Nat) : Int)), (3, .int .i64 ((hi : Nat) : Int)), (4, .func (.func pf) #[] #[u]), (14, .int .i64 ((iu : Nat) : Int)), (15, .int .i64 ((iv : Nat) : Int))] ∧ OwR Rp.str NoZ w_ base 9 (.slice (some ⟨g, 0, none⟩) l.length c) yiu ∧ Fr [g] w w_ ∧ (lo ≤ iu ∧ iu ≤ iv ∧ iv ≤ mid) ∧ (yiu.Perm l)) (fun (iu : Nat) (iv : Nat) (yiu : List ByteArray) => iv - iu) lo mid xs ?_ ?_
   ·
    refine ⟨((h111.eq 14 (v := (.int .i64 ((lo : Nat) : Int))) (u := (.int .i64 ((lo : Nat) : Int))) (V.int_eq (by omega))).eq 15 (v := (.int .i64 ((mid : Nat) : Int))) (u := (.int .i64 ((mid : Nat) : Int))) (V.int_eq (by omega))).only _, hO, hF, (by omega), hx⟩
   ·
    rintro iu iv yiu a114 w115 ⟨h116, hO_117, hF_118, hiuiv, hyiu⟩
    have hfs119 := hF_118.size
    have hyiul := hyiu.length_eq
    refine V.seq fun K120 k121 => ?_
    refine V.sr h116 [] 83 84 [(85, .bool (decide (((iu : Nat) : Int) < ((iv : Nat) : Int))))] fun a h124 => ?_
    refine V.cp h124 (((iu : Nat) : Int) < ((iv : Nat) : Int)) (fun ht125 => ?_) (fun ht125 => ?_)
    ·
     refine V.skip ?_
     refine V.then_n (k121 _ _ ?_)
     refine V.block ?_
     refine V.sr h124 [(2, .i (((iu : Nat) : Int) + ((iv : Nat) : Int))), (0, .q (.int .u64 ((iu + iv : Nat) : Int)) (w_toU (by omega))), (0, .q (.int .u64 (((iu + iv) / 2 : Nat) : Int)) (w_shr1 (iu + iv))), (0, .q (.int .i64 (((iu + iv) / 2 : Nat) : Int)) (w_toI (by omega)))] 86 91 [(16, .int .i64 (((iu + iv) / 2 : Nat) : Int))] fun a h128 => ?_
     refine V.seq fun K129 k130 => ?_
     refine V.pl [([0,1,2,3,4,5,6,7,8],some (9,[])),([10,11],none)] fun w131 hF132 hsw131 => ?_
     have hO_133 := hO_117.fr0 hF132
     have hF_134 := hF_118.trans hF132 (by simp <;> omega)
     have hS138 := hO_133.is
     obtain ⟨cs135, hok136, hE137⟩ := hS138.els rfl ((mid : Nat) : Int) (by omega) (by omega)
     obtain rfl : cs135 = [.string (at_ Rp.str yiu ((mid : Nat) : Int))] := hok136
     obtain ⟨cs139, hok140, hE141⟩ := hS138.els rfl (((iu + iv) / 2 : Nat) : Int) (by omega) (by omega)
     obtain rfl : cs139 = [.string (at_ Rp.str yiu (((iu + iv) / 2 : Nat) : Int))] := hok140
     refine V.pe h128 [(3, .ix g 0 l.length c .i64 ((mid : Nat) : Int) 1 rfl), (0, .l ⟨g, 0 + ((mid : Nat) : Int).toNat * 1, none⟩ (.string (at_ Rp.str yiu ((mid : Nat) : Int))) (hE137.at 0 rfl)), (2, .ix g 0 l.length c .i64 (((iu + iv) / 2 : Nat) : Int) 1 rfl), (0, .l ⟨g, 0 + (((iu + iv) / 2 : Nat) : Int).toNat * 1, none⟩ (.string (at_ Rp.str yiu (((iu + iv) / 2 : Nat) : Int))) (hE141.at 0 rfl))] 93 99 [(92, .func (.func pf) #[] #[u]), (96, .string (at_ Rp.str yiu ((mid : Nat) : Int))), (100, .string (at_ Rp.str yiu (((iu + iv) / 2 : Nat) : Int)))] fun a h142 => ?_
     refine V.cl h142 he (hp w131 hF_134 (at_ Rp.str yiu ((mid : Nat) : Int)) (hyiu.mem_iff.1 (at_memI (by omega) (by omega))) (at_ Rp.str yiu (((iu + iv) / 2 : Nat) : Int)) (hyiu.mem_iff.1 (at_memI (by omega) (by omega)))) ?_
     rintro _ w145 ⟨n143, rfl, hF144⟩
     refine ⟨_, rfl, fun a h146 => ?_⟩
     have hsw145 := hF144.size
     have hO_147 := hO_133.fr0 hF144
     have hF_148 := hF_134.trans hF144 (by simp <;> omega)
     refine V.eh trivial ?_
     refine V.pz h146 [(1, .q (.bool (decide (¬ (n143 < 0)))) V.t_not)] 102 102 [(103, .bool (decide (¬ (n143 < 0))))] fun a h152 => k130 _ _ ?_
     refine V.cp h152 (¬ (n143 < 0)) (fun ht153 => ?_) (fun ht153 => ?_)
     ·
      refine V.rr h152 [(1, .q (.int .i64 (((iu + iv) / 2 + 1 : Nat) : Int)) (w_nat (x := (((iu + iv) / 2 : Nat) : Int) + 1) (n := (iu + iv) / 2 + 1) (by omega) (by omega)))] 104 105 [(14, .int .i64 (((iu + iv) / 2 + 1 : Nat) : Int))] fun a h154 => ?_
      refine V.blk_n (V.then_n ?_)
      refine ⟨(iu + iv) / 2 + 1, iv, yiu, by omega, ?_⟩
      refine ⟨((h154.eq 14 (v := (.int .i64 (((iu + iv) / 2 + 1 : Nat) : Int))) (u := (.int .i64 ((((iu + iv) / 2 + 1) : Nat) : Int))) (V.int_eq (by omega))).eq 15 (v := (.int .i64 ((iv : Nat) : Int))) (u := (.int .i64 ((iv : Nat) : Int))) (V.int_eq (by omega))).only _, hO_147, hF_148, (by omega), hyiu⟩
     ·
      refine V.rr h152 [] 106 106 [(15, .int .i64 (((iu + iv) / 2 : Nat) : Int))] fun a h155 => ?_
      refine V.blk_n (V.then_n ?_)
      refine ⟨iu, (iu + iv) / 2, yiu, by omega, ?_⟩
      refine ⟨((h155.eq 14 (v := (.int .i64 ((iu : Nat) : Int))) (u := (.int .i64 ((iu : Nat) : Int))) (V.int_eq (by omega))).eq 15 (v := (.int .i64 (((iu + iv) / 2 : Nat) : Int))) (u := (.int .i64 ((((iu + iv) / 2) : Nat) : Int))) (V.int_eq (by omega))).only _, hO_147, hF_148, (by omega), hyiu⟩
    ·
     refine V.exit (V.then_e (V.then_e (V.blk_hit ?_)))
     refine V.then_n (k113 _ _ ?_)
     refine V.seq fun K156 k157 => ?_
     refine V.sr h124 [] 107 107 [(17, .int .i64 ((mid : Nat) : Int))] fun a h160 => ?_
     refine V.block ?_
     refine V.loop2 (fun (k : Nat) (yk : List ByteArray) a_ w_ => En 220 [] a_ [(0, .slice (some ⟨g, 0, none⟩) l.length c), (1, .int .i64 ((lo : Nat) : Int)), (2, .int .i64 ((mid : Nat) : Int)), (3, .int .i64 ((hi : Nat) : Int)), (4, .func (.func pf) #[] #[u]), (14, .int .i64 ((iu : Nat) : Int)), (17, .int .i64 ((k : Nat) : Int))] ∧ OwR Rp.str NoZ w_ base 9 (.slice (some ⟨g, 0, none⟩) l.length c) yk ∧ Fr [g] w w_ ∧ (iu ≤ k ∧ k ≤ mid) ∧ (yk.Perm l)) (fun (k : Nat) (yk : List ByteArray) => k) mid yiu ?_ ?_
     ·
      refine ⟨(h160.eq 17 (v := (.int .i64 ((mid : Nat) : Int))) (u := (.int .i64 ((mid : Nat) : Int))) (V.int_eq (by omega))).only _, hO_117, hF_118, (by omega), hyiu⟩
     ·
      rintro k yk a161 w162 ⟨h163, hO_164, hF_165, hk, hyk⟩
      have hfs166 := hF_165.size
      have hykl := hyk.length_eq
      refine V.seq fun K167 k168 => ?_
      refine V.sr h163 [] 108 109 [(110, .bool (decide (((k : Nat) : Int) > ((iu : Nat) : Int))))] fun a h171 => ?_
      refine V.cp h171 (((k : Nat) : Int) > ((iu : Nat) : Int)) (fun ht172 => ?_) (fun ht172 => ?_)
      ·
       refine V.skip ?_
       refine V.then_n (k168 _ _ ?_)
       refine V.seq fun K173 k174 => ?_
       refine V.block ?_
       refine V.pl [([0,1,2,3,4,5,6,7,8,9,10,11,12,13,14],some (15,[])),([16],some (17,[])),([],none)] fun w175 hF176 hsw175 => ?_
       have hO_177 := hO_164.fr0 hF176
       have hF_178 := hF_165.trans hF176 (by simp <;> omega)
       have hS182 := hO_177.is
       obtain ⟨cs179, hok180, hE181⟩ := hS182.els rfl (((k : Nat) : Int) - 1) (by omega) (by omega)
       obtain rfl : cs179 = [.string (at_ Rp.str yk (((k : Nat) : Int) - 1))] := hok180
       obtain ⟨cs183, hok184, hE185⟩ := hS182.els rfl ((k : Nat) : Int) (by omega) (by omega)
       obtain rfl : cs183 = [.string (at_ Rp.str yk ((k : Nat) : Int))] := hok184
       refine V.pe h171 [(4, .i (((k : Nat) : Int) - 1)), (2, .i (((k : Nat) : Int) - 1)), (0, .ix g 0 l.length c .i64 (((k : Nat) : Int) - 1) 1 rfl), (0, .l ⟨g, 0 + (((k : Nat) : Int) - 1).toNat * 1, none⟩ (.string (at_ Rp.str yk (((k : Nat) : Int) - 1))) (hE181.at 0 rfl)), (2, .ix g 0 l.length c .i64 ((k : Nat) : Int) 1 rfl), (0, .l ⟨g, 0 + ((k : Nat) : Int).toNat * 1, none⟩ (.string (at_ Rp.str yk ((k : Nat) : Int))) (hE185.at 0 rfl)), (0, .ix g 0 l.length c .i64 ((k : Nat) : Int) 1 rfl)] 113 125 [(115, .slice (some ⟨g, 0, none⟩) l.length c), (117, .int .i64 (((k : Nat) : Int) - 1)), (122, .string (at_ Rp.str yk (((k : Nat) : Int) - 1))), (126, .string (at_ Rp.str yk ((k : Nat) : Int))), (127, .pointer (some ⟨g, 0 + ((k : Nat) : Int).toNat * 1, none⟩))] fun a h186 => ?_
       refine V.go (V.sto (((k : Nat) : Int).toNat) (at_ Rp.str yk (((k : Nat) : Int) - 1)) hO_177 (h186.e (v := (.pointer (some ⟨g, 0 + ((k : Nat) : Int).toNat * 1, none⟩)))) (h186.e (v := (.string (at_ Rp.str yk (((k : Nat) : Int) - 1))))) (by kernel_rfl) (by first | omega | (simp only [List.length_set]; omega)) ?_)
       intro w187 hO188 hF189 hsw187
       have hF_190 := hF_178.trans hF189 (by simp <;> omega)
       refine V.eh trivial ?_
       refine V.pe h186 [(0, .ix g 0 l.length c .i64 (((k : Nat) : Int) - 1) 1 rfl)] 1 0 [(128, .pointer (some ⟨g, 0 + (((k : Nat) : Int) - 1).toNat * 1, none⟩))] fun a h191 => ?_
       refine V.go (V.sto ((((k : Nat) : Int) - 1).toNat) (at_ Rp.str yk ((k : Nat) : Int)) hO188 (h191.e (v := (.pointer (some ⟨g, 0 + (((k : Nat) : Int) - 1).toNat * 1, none⟩)))) (h191.e (v := (.string (at_ Rp.str yk ((k : Nat) : Int))))) (by kernel_rfl) (by first | omega | (simp only [List.length_set]; omega)) ?_)
       intro w192 hO193 hF194 hsw192
       have hF_195 := hF_190.trans hF194 (by simp <;> omega)
       refine V.eh trivial ?_
       refine V.pz h191 [] 1 0 [] fun a h196 => ?_
       refine V.blk_n ?_
       refine V.then_n (k174 _ _ ?_)
       refine V.rr h196 [(1, .i (((k : Nat) : Int) - 1))] 111 112 [(17, .int .i64 (((k : Nat) : Int) - 1))] fun a h197 => ?_
       refine V.then_n ?_
       refine ⟨k - 1, (yk.set k (at_ Rp.str yk (((k : Nat) : Int) - 1))).set ((((k : Nat) : Int) - 1).toNat) (at_ Rp.str yk ((k : Nat) : Int)), by omega, ?_⟩
       refine ⟨(h197.eq 17 (v := (.int .i64 (((k : Nat) : Int) - 1))) (u := (.int .i64 (((k - 1) : Nat) : Int))) (V.int_eq (by omega))).only _, hO193, hF_195, (by omega), ((swp_perm (by omega) (by omega) (at_is (by omega) (by omega)) (at_is (by omega) (by omega))).trans hyk)⟩
      ·
       refine V.exit (V.then_e (V.then_e (V.blk_hit ?_)))
       refine V.then_n (k157 _ _ ?_)
       refine V.ret (V.then_r ?_)
       refine V.r0 h171 ?_
       exact ⟨rfl, _, hyk, hO_164, hF_165⟩
  ·
   refine V.skip ?_
   refine V.then_n (k101 _ _ ?_)
   refine V.sr h104 [(2, .i (((lo : Nat) : Int) + ((hi : Nat) : Int))), (0, .q (.int .u64 ((lo + hi : Nat) : Int)) (w_toU (by omega))), (0, .q (.int .u64 (((lo + hi) / 2 : Nat) : Int)) (w_shr1 (lo + hi))), (0, .q (.int .i64 (((lo + hi) / 2 : Nat) : Int)) (w_toI (by omega)))] 129 134 [(18, .int .i64 (((lo + hi) / 2 : Nat) : Int))] fun a h200 => ?_
   refine V.sr h200 [(2, .q (.int .i64 (((lo + hi) / 2 + mid : Nat) : Int)) (w_nat (x := (((lo + hi) / 2 : Nat) : Int) + ((mid : Nat) : Int)) (n := (lo + hi) / 2 + mid) (by omega) (by omega)))] 135 137 [(19, .int .i64 (((lo + hi) / 2 + mid : Nat) : Int))] fun a h203 => ?_
   refine V.sr h203 [] 20 21 [] fun a h206 => ?_
   refine V.seq_cut (fun a_ w_ => ∃ (p : Nat), ∃ (q : Nat), En 220 [] a_ [(0, .slice (some ⟨g, 0, none⟩) l.length c), (1, .int .i64 ((lo : Nat) : Int)), (2, .int .i64 ((mid : Nat) : Int)), (3, .int .i64 ((hi : Nat) : Int)), (4, .func (.func pf) #[] #[u]), (18, .int .i64 (((lo + hi) / 2 : Nat) : Int)), (19, .int .i64 (((lo + hi) / 2 + mid : Nat) : Int)), (20, .int .i64 ((p : Nat) : Int)), (21, .int .i64 ((q : Nat) : Int))] ∧ OwR Rp.str NoZ w_ base 9 (.slice (some ⟨g, 0, none⟩) l.length c) xs ∧ Fr [g] w w_ ∧ (lo ≤ p ∧ (lo + hi) / 2 + mid ≤ hi + p ∧ p ≤ q ∧ q ≤ (lo + hi) / 2 ∧ q ≤ mid)) ?_ ?_
   ·
    refine V.sr h206 [] 138 139 [(140, .bool (decide (((mid : Nat) : Int) > (((lo + hi) / 2 : Nat) : Int))))] fun a h209 => ?_
    refine V.cp h209 (((mid : Nat) : Int) > (((lo + hi) / 2 : Nat) : Int)) (fun ht210 => ?_) (fun ht210 => ?_)
    ·
     refine V.sr h209 [(2, .q (.int .i64 (((lo + hi) / 2 + mid - hi : Nat) : Int)) (w_nat (x := (((lo + hi) / 2 + mid : Nat) : Int) - ((hi : Nat) : Int)) (n := (lo + hi) / 2 + mid - hi) (by omega) (by omega)))] 141 143 [(20, .int .i64 (((lo + hi) / 2 + mid - hi : Nat) : Int))] fun a h213 => ?_
     refine V.rr h213 [] 144 144 [(21, .int .i64 (((lo + hi) / 2 : Nat) : Int))] fun a h214 => ?_
     refine V.then_n ?_
     refine ⟨((lo + hi) / 2 + mid - hi), ((lo + hi) / 2), ((h214.eq 20 (v := (.int .i64 (((lo + hi) / 2 + mid - hi : Nat) : Int))) (u := (.int .i64 ((((lo + hi) / 2 + mid - hi) : Nat) : Int))) (V.int_eq (by omega))).eq 21 (v := (.int .i64 (((lo + hi) / 2 : Nat) : Int))) (u := (.int .i64 ((((lo + hi) / 2) : Nat) : Int))) (V.int_eq (by omega))).only _, hO, hF, (by omega)⟩
    ·
     refine V.sr h209 [] 145 145 [(20, .int .i64 ((lo : Nat) : Int))] fun a h217 => ?_
     refine V.rr h217 [] 146 146 [(21, .int .i64 ((mid : Nat) : Int))] fun a h218 => ?_
     refine V.then_n ?_
     refine ⟨lo, mid, ((h218.eq 20 (v := (.int .i64 ((lo : Nat) : Int))) (u := (.int .i64 ((lo : Nat) : Int))) (V.int_eq (by omega))).eq 21 (v := (.int .i64 ((mid : Nat) : Int))) (u := (.int .i64 ((mid : Nat) : Int))) (V.int_eq (by omega))).only _, hO, hF, (by omega)⟩
   ·
    rintro a219 w220 ⟨p, q, h221, hO_222, hF_223, hpq⟩
    have hfs224 := hF_223.size
    refine V.sr h221 [(1, .q (.int .i64 (((lo + hi) / 2 + mid - 1 : Nat) : Int)) (w_nat (x := (((lo + hi) / 2 + mid : Nat) : Int) - 1) (n := (lo + hi) / 2 + mid - 1) (by omega) (by omega)))] 147 148 [(22, .int .i64 (((lo + hi) / 2 + mid - 1 : Nat) : Int))] fun a h227 => ?_
    refine V.seq fun K228 k229 => ?_
    refine V.block ?_
    refine V.loop3 (fun (r : Nat) (t : Nat) (yr : List ByteArray) a_ w_ => En 220 [] a_ [(0, .slice (some ⟨g, 0, none⟩) l.length c), (1, .int .i64 ((lo : Nat) : Int)), (2, .int .i64 ((mid : Nat) : Int)), (3, .int .i64 ((hi : Nat) : Int)), (4, .func (.func pf) #[] #[u]), (18, .int .i64 (((lo + hi) / 2 : Nat) : Int)), (19, .int .i64 (((lo + hi) / 2 + mid : Nat) : Int)), (20, .int .i64 ((r : Nat) : Int)), (21, .int .i64 ((t : Nat) : Int)), (22, .int .i64 (((lo + hi) / 2 + mid - 1 : Nat) : Int))] ∧ OwR Rp.str NoZ w_ base 9 (.slice (some ⟨g, 0, none⟩) l.length c) yr ∧ Fr [g] w w_ ∧ (p ≤ r ∧ r ≤ t ∧ t ≤ q) ∧ (yr.Perm l)) (fun (r : Nat) (t : Nat) (yr : List ByteArray) => t - r) p q xs ?_ ?_
    ·
     refine ⟨((h227.eq 20 (v := (.int .i64 ((p : Nat) : Int))) (u := (.int .i64 ((p : Nat) : Int))) (V.int_eq (by omega))).eq 21 (v := (.int .i64 ((q : Nat) : Int))) (u := (.int .i64 ((q : Nat) : Int))) (V.int_eq (by omega))).only _, hO_222, hF_223, (by omega), hx⟩
    ·
     rintro r t yr a230 w231 ⟨h232, hO_233, hF_234, hrt, hyr⟩
     have hfs235 := hF_234.size
     have hyrl := hyr.length_eq
     refine V.seq fun K236 k237 => ?_
     refine V.sr h232 [] 149 150 [(151, .bool (decide (((r : Nat) : Int) < ((t : Nat) : Int))))] fun a h240 => ?_
     refine V.cp h240 (((r : Nat) : Int) < ((t : Nat) : Int)) (fun ht241 => ?_) (fun ht241 => ?_)
     ·
      refine V.skip ?_
      refine V.then_n (k237 _ _ ?_)
      refine V.block ?_
      refine V.sr h240 [(2, .i (((r : Nat) : Int) + ((t : Nat) : Int))), (0, .q (.int .u64 ((r + t : Nat) : Int)) (w_toU (by omega))), (0, .q (.int .u64 (((r + t) / 2 : Nat) : Int)) (w_shr1 (r + t))), (0, .q (.int .i64 (((r + t) / 2 : Nat) : Int)) (w_toI (by omega)))] 152 157 [(23, .int .i64 (((r + t) / 2 : Nat) : Int))] fun a h244 => ?_
      refine V.seq fun K245 k246 => ?_
      refine V.pl [([0,1,2,3,4,5,6,7,8,9,10],some (11,[])),([12,13],none)] fun w247 hF248 hsw247 => ?_
      have hO_249 := hO_233.fr0 hF248
      have hF_250 := hF_234.trans hF248 (by simp <;> omega)
      have hS254 := hO_249.is
      obtain ⟨cs251, hok252, hE253⟩ := hS254.els rfl ((((lo + hi) / 2 + mid - 1 : Nat) : Int) - (((r + t) / 2 : Nat) : Int)) (by omega) (by omega)
      obtain rfl : cs251 = [.string (at_ Rp.str yr ((((lo + hi) / 2 + mid - 1 : Nat) : Int) - (((r + t) / 2 : Nat) : Int)))] := hok252
      obtain ⟨cs255, hok256, hE257⟩ := hS254.els rfl (((r + t) / 2 : Nat) : Int) (by omega) (by omega)
      obtain rfl : cs255 = [.string (at_ Rp.str yr (((r + t) / 2 : Nat) : Int))] := hok256
      refine V.pe h244 [(4, .i ((((lo + hi) / 2 + mid - 1 : Nat) : Int) - (((r + t) / 2 : Nat) : Int))), (0, .ix g 0 l.length c .i64 ((((lo + hi) / 2 + mid - 1 : Nat) : Int) - (((r + t) / 2 : Nat) : Int)) 1 rfl), (0, .l ⟨g, 0 + ((((lo + hi) / 2 + mid - 1 : Nat) : Int) - (((r + t) / 2 : Nat) : Int)).toNat * 1, none⟩ (.string (at_ Rp.str yr ((((lo + hi) / 2 + mid - 1 : Nat) : Int) - (((r + t) / 2 : Nat) : Int)))) (hE253.at 0 rfl)), (2, .ix g 0 l.length c .i64 (((r + t) / 2 : Nat) : Int) 1 rfl), (0, .l ⟨g, 0 + (((r + t) / 2 : Nat) : Int).toNat * 1, none⟩ (.string (at_ Rp.str yr (((r + t) / 2 : Nat) : Int))) (hE257.at 0 rfl))] 159 167 [(158, .func (.func pf) #[] #[u]), (164, .string (at_ Rp.str yr ((((lo + hi) / 2 + mid - 1 : Nat) : Int) - (((r + t) / 2 : Nat) : Int)))), (168, .string (at_ Rp.str yr (((r + t) / 2 : Nat) : Int)))] fun a h258 => ?_
      refine V.cl h258 he (hp w247 hF_250 (at_ Rp.str yr ((((lo + hi) / 2 + mid - 1 : Nat) : Int) - (((r + t) / 2 : Nat) : Int))) (hyr.mem_iff.1 (at_memI (by omega) (by omega))) (at_ Rp.str yr (((r + t) / 2 : Nat) : Int)) (hyr.mem_iff.1 (at_memI (by omega) (by omega)))) ?_
      rintro _ w261 ⟨n259, rfl, hF260⟩
      refine ⟨_, rfl, fun a h262 => ?_⟩
      have hsw261 := hF260.size
      have hO_263 := hO_249.fr0 hF260
      have hF_264 := hF_250.trans hF260 (by simp <;> omega)
      refine V.eh trivial ?_
      refine V.pz h262 [(1, .q (.bool (decide (¬ (n259 < 0)))) V.t_not)] 170 170 [(171, .bool (decide (¬ (n259 < 0))))] fun a h268 => k246 _ _ ?_
      refine V.cp h268 (¬ (n259 < 0)) (fun ht269 => ?_) (fun ht269 => ?_)
      ·
       refine V.rr h268 [(1, .q (.int .i64 (((r + t) / 2 + 1 : Nat) : Int)) (w_nat (x := (((r + t) / 2 : Nat) : Int) + 1) (n := (r + t) / 2 + 1) (by omega) (by omega)))] 172 173 [(20, .int .i64 (((r + t) / 2 + 1 : Nat) : Int))] fun a h270 => ?_
       refine V.blk_n (V.then_n ?_)
       refine ⟨(r + t) / 2 + 1, t, yr, by omega, ?_⟩
       refine ⟨((h270.eq 20 (v := (.int .i64 (((r + t) / 2 + 1 : Nat) : Int))) (u := (.int .i64 ((((r + t) / 2 + 1) : Nat) : Int))) (V.int_eq (by omega))).eq 21 (v := (.int .i64 ((t : Nat) : Int))) (u := (.int .i64 ((t : Nat) : Int))) (V.int_eq (by omega))).only _, hO_263, hF_264, (by omega), hyr⟩
      ·
       refine V.rr h268 [] 174 174 [(21, .int .i64 (((r + t) / 2 : Nat) : Int))] fun a h271 => ?_
       refine V.blk_n (V.then_n ?_)
       refine ⟨r, (r + t) / 2, yr, by omega, ?_⟩
       refine ⟨((h271.eq 20 (v := (.int .i64 ((r : Nat) : Int))) (u := (.int .i64 ((r : Nat) : Int))) (V.int_eq (by omega))).eq 21 (v := (.int .i64 (((r + t) / 2 : Nat) : Int))) (u := (.int .i64 ((((r + t) / 2) : Nat) : Int))) (V.int_eq (by omega))).only _, hO_263, hF_264, (by omega), hyr⟩
     ·
      refine V.exit (V.then_e (V.then_e (V.blk_hit ?_)))
      refine V.then_n (k229 _ _ ?_)
      refine V.sr h240 [(2, .q (.int .i64 (((lo + hi) / 2 + mid - r : Nat) : Int)) (w_nat (x := (((lo + hi) / 2 + mid : Nat) : Int) - ((r : Nat) : Int)) (n := (lo + hi) / 2 + mid - r) (by omega) (by omega)))] 175 177 [(24, .int .i64 (((lo + hi) / 2 + mid - r : Nat) : Int))] fun a h274 => ?_
      refine V.seq_cut (fun a_ w_ => ∃ (ys275 : List ByteArray), En 220 [] a_ [(0, .slice (some ⟨g, 0, none⟩) l.length c), (1, .int .i64 ((lo : Nat) : Int)), (3, .int .i64 ((hi : Nat) : Int)), (4, .func (.func pf) #[] #[u]), (18, .int .i64 (((lo + hi) / 2 : Nat) : Int)), (20, .int .i64 ((r : Nat) : Int)), (24, .int .i64 (((lo + hi) / 2 + mid - r : Nat) : Int))] ∧ OwR Rp.str NoZ w_ base 9 (.slice (some ⟨g, 0, none⟩) l.length c) ys275 ∧ Fr [g] w w_ ∧ (ys275.Perm l)) ?_ ?_
      ·
       refine V.sg fun K277 k278 => ?_
       refine V.run h274 [] 4 178 180 [(181, .bool (decide (((r : Nat) : Int) < ((mid : Nat) : Int))))] fun a h279 => ?_
       by_cases hg280 : ((r : Nat) : Int) < ((mid : Nat) : Int)
       ·
        have h281 := h279.kt 181 hg280
        refine V.re h281 [] 182 184 [(185, .bool (decide (((mid : Nat) : Int) < (((lo + hi) / 2 + mid - r : Nat) : Int))))] fun a h282 => k278 _ _ ?_
        refine V.cp h282 (((mid : Nat) : Int) < (((lo + hi) / 2 + mid - r : Nat) : Int)) (fun ht283 => ?_) (fun ht283 => ?_)
        ·
         refine V.rg ?_
         refine V.run h282 [] 5 1 0 [(186, .slice (some ⟨g, 0, none⟩) l.length c), (187, .int .i64 ((r : Nat) : Int)), (188, .int .i64 ((mid : Nat) : Int)), (189, .int .i64 (((lo + hi) / 2 + mid - r : Nat) : Int)), (190, .func (.func pf) #[] #[u])] fun a h284 => ?_
         refine V.cl h284 (Go.Proofs.enters_of Tryz.func151 (by kernel_rfl) rfl) (rot_any w231 base g c l yr hyr hO_233 hlL pf u r mid ((lo + hi) / 2 + mid - r) (by omega) (by omega) (by omega)) ?_
         rintro _ w289 ⟨rfl, xs285, hx286, hO287, hF288⟩
         refine ⟨_, rfl, fun a h290 => ?_⟩
         have hsw289 := hF288.size
         have hF_291 := hF_234.trans hF288 (by simp <;> omega)
         refine V.nil ?_
         refine V.then_n ?_
         refine ⟨xs285, h290.only _, hO287, hF_291, hx286⟩
        ·
         refine V.skip (V.then_n ?_)
         refine ⟨yr, h282.only _, hO_233, hF_234, hyr⟩
       ·
        have h292 := h279.kf 181 hg280
        refine V.re h292 [] 182 184 [(185, .bool false)] fun a h293 => k278 _ _ ?_
        refine V.cf h293 ?_
        refine V.skip (V.then_n ?_)
        refine ⟨yr, h293.only _, hO_233, hF_234, hyr⟩
      ·
       rintro a294 w295 ⟨ys275, h296, hO_297, hF_298, hy276⟩
       have hfs299 := hF_298.size
       have hy276l := hy276.length_eq
       refine V.seq_cut (fun a_ w_ => ∃ (ys300 : List ByteArray), En 220 [] a_ [(0, .slice (some ⟨g, 0, none⟩) l.length c), (3, .int .i64 ((hi : Nat) : Int)), (4, .func (.func pf) #[] #[u]), (18, .int .i64 (((lo + hi) / 2 : Nat) : Int)), (24, .int .i64 (((lo + hi) / 2 + mid - r : Nat) : Int))] ∧ OwR Rp.str NoZ w_ base 9 (.slice (some ⟨g, 0, none⟩) l.length c) ys300 ∧ Fr [g] w w_ ∧ (ys300.Perm l)) ?_ ?_
       ·
        refine V.sg fun K302 k303 => ?_
        refine V.run h296 [] 4 192 194 [(195, .bool (decide (((lo : Nat) : Int) < ((r : Nat) : Int))))] fun a h304 => ?_
        by_cases hg305 : ((lo : Nat) : Int) < ((r : Nat) : Int)
        ·
         have h306 := h304.kt 195 hg305
         refine V.re h306 [] 196 198 [(199, .bool (decide (((r : Nat) : Int) < (((lo + hi) / 2 : Nat) : Int))))] fun a h307 => k303 _ _ ?_
         refine V.cp h307 (((r : Nat) : Int) < (((lo + hi) / 2 : Nat) : Int)) (fun ht308 => ?_) (fun ht308 => ?_)
         ·
          refine V.rg ?_
          refine V.run h307 [] 5 1 0 [(200, .slice (some ⟨g, 0, none⟩) l.length c), (201, .int .i64 ((lo : Nat) : Int)), (202, .int .i64 ((r : Nat) : Int)), (203, .int .i64 (((lo + hi) / 2 : Nat) : Int)), (204, .func (.func pf) #[] #[u])] fun a h309 => ?_
          refine V.cl h309 (Go.Proofs.enters_of Tryz.func117 (by kernel_rfl) rfl) (IH w295 ys275 lo r ((lo + hi) / 2) hF_298 hy276 hO_297 (by omega) (by omega) (by omega) (by omega)) ?_
          rintro _ w314 ⟨rfl, xs310, hx311, hO312, hF313⟩
          refine ⟨_, rfl, fun a h315 => ?_⟩
          have hsw314 := hF313.size
          have hF_316 := hF_298.trans hF313 (by simp <;> omega)
          refine V.nil ?_
          refine V.then_n ?_
          refine ⟨xs310, h315.only _, hO312, hF_316, hx311⟩
         ·
          refine V.skip (V.then_n ?_)
          refine ⟨ys275, h307.only _, hO_297, hF_298, hy276⟩
        ·
         have h317 := h304.kf 195 hg305
         refine V.re h317 [] 196 198 [(199, .bool false)] fun a h318 => k303 _ _ ?_
         refine V.cf h318 ?_
         refine V.skip (V.then_n ?_)
         refine ⟨ys275, h318.only _, hO_297, hF_298, hy276⟩
       ·
        rintro a319 w320 ⟨ys300, h321, hO_322, hF_323, hy301⟩
        have hfs324 := hF_323.size
        have hy301l := hy301.length_eq
        refine V.sg fun K325 k326 => ?_
        refine V.run h321 [] 4 206 208 [(209, .bool (decide ((((lo + hi) / 2 : Nat) : Int) < (((lo + hi) / 2 + mid - r : Nat) : Int))))] fun a h327 => ?_
        by_cases hg328 : (((lo + hi) / 2 : Nat) : Int) < (((lo + hi) / 2 + mid - r : Nat) : Int)
        ·
         have h329 := h327.kt 209 hg328
         refine V.re h329 [] 210 212 [(213, .bool (decide ((((lo + hi) / 2 + mid - r : Nat) : Int) < ((hi : Nat) : Int))))] fun a h330 => k326 _ _ ?_
         refine V.cp h330 ((((lo + hi) / 2 + mid - r : Nat) : Int) < ((hi : Nat) : Int)) (fun ht331 => ?_) (fun ht331 => ?_)
         ·
          refine V.rg ?_
          refine V.run h330 [] 5 1 0 [(214, .slice (some ⟨g, 0, none⟩) l.length c), (215, .int .i64 (((lo + hi) / 2 : Nat) : Int)), (216, .int .i64 (((lo + hi) / 2 + mid - r : Nat) : Int)), (217, .int .i64 ((hi : Nat) : Int)), (218, .func (.func pf) #[] #[u])] fun a h332 => ?_
          refine V.cl h332 (Go.Proofs.enters_of Tryz.func117 (by kernel_rfl) rfl) (IH w320 ys300 ((lo + hi) / 2) ((lo + hi) / 2 + mid - r) hi hF_323 hy301 hO_322 (by omega) (by omega) (by omega) (by omega)) ?_
          rintro _ w337 ⟨rfl, xs333, hx334, hO335, hF336⟩
          refine ⟨_, rfl, fun a h338 => ?_⟩
          have hsw337 := hF336.size
          have hF_339 := hF_323.trans hF336 (by simp <;> omega)
          refine V.nil ?_
          refine V.e0 h338 ?_
          exact ⟨rfl, _, hx334, hO335, hF_339⟩
         ·
          refine V.skip ?_
          refine V.e0 h330 ?_
          exact ⟨rfl, _, hy301, hO_322, hF_323⟩
        ·
         have h340 := h327.kf 209 hg328
         refine V.re h340 [] 210 212 [(213, .bool false)] fun a h341 => k326 _ _ ?_
         refine V.cf h341 ?_
         refine V.skip ?_
         refine V.e0 h341 ?_
         exact ⟨rfl, _, hy301, hO_322, hF_323⟩
/-! ### symMerge, by how much is to be merged -/
theorem sym_any (w : World) (base g c : Nat) (l xs : List ByteArray) (hx : xs.Perm l) (hO : OwR Rp.str NoZ w base 9 (.slice (some ⟨g, 0, none⟩) l.length c) xs) (hlL : l.length ≤ 1099511627776) (pf : Nat) (u : Value) (he : ∀ args w, (callFunc pf args).run Tryz.prog w = .ok (.enter pf args) w) (hp : ∀ w1, Fr [g] w w1 → ∀ x ∈ l, ∀ y ∈ l, Calls Tryz.prog pf #[.string x, .string y, u] w1 (fun e w' => ∃ n : Int, e = .returned (.int .i64 n) ∧ Fr [] w1 w')) (lo mid hi : Nat) (h1 : lo < mid) (h2 : mid < hi) (h3 : hi ≤ l.length) : Calls Tryz.prog 117 #[(.slice (some ⟨g, 0, none⟩) l.length c), .int .i64 (lo : Int), .int .i64 (mid : Int), .int .i64 (hi : Int), (.func (.func pf) #[] #[u])] w (fun e w' => e = .returned (.tuple #[]) ∧ ∃ xs', xs'.Perm l ∧ OwR Rp.str NoZ w' base 9 (.slice (some ⟨g, 0, none⟩) l.length c) xs' ∧ Fr [g] w w') := by
  have key : ∀ K, ∀ (w1 : World) (ys : List ByteArray) (lo mid hi : Nat), hi - lo < K → Fr [g] w w1 → ys.Perm l → OwR Rp.str NoZ w1 base 9 (.slice (some ⟨g, 0, none⟩) l.length c) ys → lo < mid → mid < hi → hi ≤ l.length → Calls Tryz.prog 117 #[(.slice (some ⟨g, 0, none⟩) l.length c), .int .i64 (lo : Int), .int .i64 (mid : Int), .int .i64 (hi : Int), (.func (.func pf) #[] #[u])] w1 (fun e w' => e = .returned (.tuple #[]) ∧ ∃ xs', xs'.Perm l ∧ OwR Rp.str NoZ w' base 9 (.slice (some ⟨g, 0, none⟩) l.length c) xs' ∧ Fr [g] w1 w') := by
    intro K
    induction K with
    | zero => intro w1 ys lo mid hi h; omega
    | succ K ih =>
      intro w1 ys lo mid hi hk hf hy hO2 h1 h2 h3
      exact sym_ih w1 base g c l ys hy hO2 hlL pf u he (fun w2 F => hp w2 (hf.trans F (fun _ h _ => h))) lo mid hi h1 h2 h3 (fun w2 zs lo1 mid1 hi1 F hz hO3 a1 a2 a3 a4 => ih w2 zs lo1 mid1 hi1 (by omega) (hf.trans F (fun _ h _ => h)) hz hO3 a1 a2 a3)
  exact key (hi - lo + 1) w xs lo mid hi (by omega) (Fr.refl _ _) hx hO h1 h2 h3
theorem stb_any (w : World) (base g c : Nat) (l xs : List ByteArray) (hx : xs.Perm l) (hO : OwR Rp.str NoZ w base 9 (.slice (some ⟨g, 0, none⟩) l.length c) xs) (hlL : l.length ≤ 1099511627776) (pf : Nat) (u : Value) (he : ∀ args w, (callFunc pf args).run Tryz.prog w = .ok (.enter pf args) w) (hp : ∀ w1, Fr [g] w w1 → ∀ x ∈ l, ∀ y ∈ l, Calls Tryz.prog pf #[.string x, .string y, u] w1 (fun e w' => ∃ n : Int, e = .returned (.int .i64 n) ∧ Fr [] w1 w')) : Calls Tryz.prog 85 #[.slice (some ⟨g, 0, none⟩) l.length c, .int .i64 ((l.length : Nat) : Int), .func (.func pf) #[] #[u]] w (fun e w' => e = .returned (.tuple #[]) ∧ ∃ xs', xs'.Perm l ∧ OwR Rp.str NoZ w' base 9 (.slice (some ⟨g, 0, none⟩) l.length c) xs' ∧ Fr [g] w w') := by
 have hF := Fr.refl [g] w
 have hxl := hx.length_eq
 have hlen0 := hO.len_le
 have hltg := hO.lt g rfl
 have hcap := hO.cap
 refine V.en 63 Tryz.func85 fun a h1 => ?_
 refine V.seq fun K2 k3 => ?_
 refine V.rr h1 [] 1 0 [(6, .int .i64 20)] fun a h4 => ?_
 refine V.then_n (k3 _ _ ?_)
 refine V.sr h4 [] 10 10 [(7, .int .i64 0), (8, .int .i64 20)] fun a h7 => ?_
 refine V.seq fun K8 k9 => ?_
 refine V.block ?_
 refine V.loop2 (fun (i : Nat) (ys : List ByteArray) a_ w_ => En 63 [] a_ [(0, .slice (some ⟨g, 0, none⟩) l.length c), (1, .int .i64 ((l.length : Nat) : Int)), (2, .func (.func pf) #[] #[u]), (6, .int .i64 20), (7, .int .i64 ((i : Nat) : Int)), (8, .int .i64 ((i + 20 : Nat) : Int))] ∧ OwR Rp.str NoZ w_ base 9 (.slice (some ⟨g, 0, none⟩) l.length c) ys ∧ Fr [g] w w_ ∧ (i ≤ l.length) ∧ (ys.Perm l)) (fun (i : Nat) (ys : List ByteArray) => l.length - i) 0 xs ?_ ?_
 ·
  refine ⟨((h7.eq 7 (v := (.int .i64 0)) (u := (.int .i64 ((0 : Nat) : Int))) (V.int_eq (by omega))).eq 8 (v := (.int .i64 20)) (u := (.int .i64 ((0 + 20 : Nat) : Int))) (V.int_eq (by omega))).only _, hO, hF, (by omega), hx⟩
 ·
  rintro i ys a10 w11 ⟨h12, hO_13, hF_14, hi1, hy⟩
  have hfs15 := hF_14.size
  have hyl := hy.length_eq
  refine V.seq fun K16 k17 => ?_
  refine V.sr h12 [] 11 12 [(13, .bool (decide (((i + 20 : Nat) : Int) ≤ ((l.length : Nat) : Int))))] fun a h20 => ?_
  refine V.cp h20 (((i + 20 : Nat) : Int) ≤ ((l.length : Nat) : Int)) (fun ht21 => ?_) (fun ht21 => ?_)
  ·
   refine V.skip ?_
   refine V.then_n (k17 _ _ ?_)
   refine V.block ?_
   refine V.sg fun K22 k23 => ?_
   refine V.run h20 [] 4 1 0 [(14, .slice (some ⟨g, 0, none⟩) l.length c), (15, .int .i64 ((i : Nat) : Int)), (16, .int .i64 ((i + 20 : Nat) : Int)), (17, .func (.func pf) #[] #[u])] fun a h24 => ?_
   refine V.cl h24 (Go.Proofs.enters_of Tryz.func116 (by kernel_rfl) rfl) (ins_any w11 base g c l ys hy hO_13 hlL pf u he (fun w1 F => hp w1 (hF_14.trans F (fun _ h _ => h))) i (i + 20) (by omega) (by omega)) ?_
   rintro _ w29 ⟨rfl, xs25, hx26, hO27, hF28⟩
   refine ⟨_, rfl, fun a h30 => ?_⟩
   have hsw29 := hF28.size
   have hF_31 := hF_14.trans hF28 (by simp <;> omega)
   refine V.nt (k23 _ _ ?_)
   refine V.sr h30 [] 19 19 [(7, .int .i64 ((i + 20 : Nat) : Int))] fun a h34 => ?_
   refine V.rr h34 [(2, .q (.int .i64 ((i + 20 + 20 : Nat) : Int)) (w_nat (x := ((i + 20 : Nat) : Int) + 20) (n := i + 20 + 20) (by omega) (by omega)))] 20 22 [(8, .int .i64 ((i + 20 + 20 : Nat) : Int))] fun a h35 => ?_
   refine V.blk_n (V.then_n ?_)
   refine ⟨i + 20, xs25, by omega, ?_⟩
   refine ⟨((h35.eq 7 (v := (.int .i64 ((i + 20 : Nat) : Int))) (u := (.int .i64 (((i + 20) : Nat) : Int))) (V.int_eq (by omega))).eq 8 (v := (.int .i64 ((i + 20 + 20 : Nat) : Int))) (u := (.int .i64 (((i + 20) + 20 : Nat) : Int))) (V.int_eq (by omega))).only _, hO27, hF_31, (by omega), hx26⟩
  ·
   refine V.exit (V.then_e (V.then_e (V.blk_hit ?_)))
   refine V.then_n (k9 _ _ ?_)
   refine V.sg fun K36 k37 => ?_
   refine V.run h20 [] 4 1 0 [(23, .slice (some ⟨g, 0, none⟩) l.length c), (24, .int .i64 ((i : Nat) : Int)), (25, .int .i64 ((l.length : Nat) : Int)), (26, .func (.func pf) #[] #[u])] fun a h38 => ?_
   refine V.cl h38 (Go.Proofs.enters_of Tryz.func116 (by kernel_rfl) rfl) (ins_any w11 base g c l ys hy hO_13 hlL pf u he (fun w1 F => hp w1 (hF_14.trans F (fun _ h _ => h))) i l.length (by omega) (by omega)) ?_
   rintro _ w43 ⟨rfl, xs39, hx40, hO41, hF42⟩
   refine ⟨_, rfl, fun a h44 => ?_⟩
   have hsw43 := hF42.size
   have hF_45 := hF_14.trans hF42 (by simp <;> omega)
   refine V.nt (k37 _ _ ?_)
   refine V.block ?_
   refine V.loop2 (fun (B : Nat) (zs : List ByteArray) a_ w_ => En 63 [] a_ [(0, .slice (some ⟨g, 0, none⟩) l.length c), (1, .int .i64 ((l.length : Nat) : Int)), (2, .func (.func pf) #[] #[u]), (6, .int .i64 ((B : Nat) : Int))] ∧ OwR Rp.str NoZ w_ base 9 (.slice (some ⟨g, 0, none⟩) l.length c) zs ∧ Fr [g] w w_ ∧ (0 < B) ∧ (zs.Perm l)) (fun (B : Nat) (zs : List ByteArray) => l.length - B) 20 xs39 ?_ ?_
   ·
    refine ⟨(h44.eq 6 (v := (.int .i64 20)) (u := (.int .i64 ((20 : Nat) : Int))) (V.int_eq (by omega))).only _, hO41, hF_45, (by omega), hx40⟩
   ·
    rintro B zs a46 w47 ⟨h48, hO_49, hF_50, hB1, hz⟩
    have hfs51 := hF_50.size
    have hzl := hz.length_eq
    refine V.seq fun K52 k53 => ?_
    refine V.sr h48 [] 28 29 [(30, .bool (decide (((B : Nat) : Int) < ((l.length : Nat) : Int))))] fun a h56 => ?_
    refine V.cp h56 (((B : Nat) : Int) < ((l.length : Nat) : Int)) (fun ht57 => ?_) (fun ht57 => ?_)
    ·
     refine V.skip ?_
     refine V.then_n (k53 _ _ ?_)
     refine V.block ?_
     refine V.sr h56 [(1, .q (.int .i64 ((2 * B : Nat) : Int)) (w_nat (x := 2 * ((B : Nat) : Int)) (n := 2 * B) (by omega) (by omega)))] 31 32 [(7, .int .i64 0), (8, .int .i64 ((2 * B : Nat) : Int))] fun a h60 => ?_
     refine V.seq fun K61 k62 => ?_
     refine V.block ?_
     refine V.loop2 (fun (j : Nat) (us : List ByteArray) a_ w_ => En 63 [] a_ [(0, .slice (some ⟨g, 0, none⟩) l.length c), (1, .int .i64 ((l.length : Nat) : Int)), (2, .func (.func pf) #[] #[u]), (6, .int .i64 ((B : Nat) : Int)), (7, .int .i64 ((j : Nat) : Int)), (8, .int .i64 ((j + 2 * B : Nat) : Int))] ∧ OwR Rp.str NoZ w_ base 9 (.slice (some ⟨g, 0, none⟩) l.length c) us ∧ Fr [g] w w_ ∧ (j ≤ l.length) ∧ (us.Perm l)) (fun (j : Nat) (us : List ByteArray) => l.length - j) 0 zs ?_ ?_
     ·
      refine ⟨((h60.eq 7 (v := (.int .i64 0)) (u := (.int .i64 ((0 : Nat) : Int))) (V.int_eq (by omega))).eq 8 (v := (.int .i64 ((2 * B : Nat) : Int))) (u := (.int .i64 ((0 + 2 * B : Nat) : Int))) (V.int_eq (by omega))).only _, hO_49, hF_50, (by omega), hz⟩
     ·
      rintro j us a63 w64 ⟨h65, hO_66, hF_67, hj1, hu⟩
      have hfs68 := hF_67.size
      have hul := hu.length_eq
      refine V.seq fun K69 k70 => ?_
      refine V.sr h65 [] 33 34 [(35, .bool (decide (((j + 2 * B : Nat) : Int) ≤ ((l.length : Nat) : Int))))] fun a h73 => ?_
      refine V.cp h73 (((j + 2 * B : Nat) : Int) ≤ ((l.length : Nat) : Int)) (fun ht74 => ?_) (fun ht74 => ?_)
      ·
       refine V.skip ?_
       refine V.then_n (k70 _ _ ?_)
       refine V.block ?_
       refine V.sg fun K75 k76 => ?_
       refine V.run h73 [(4, .q (.int .i64 ((j + B : Nat) : Int)) (w_nat (x := ((j : Nat) : Int) + ((B : Nat) : Int)) (n := j + B) (by omega) (by omega)))] 7 38 39 [(36, .slice (some ⟨g, 0, none⟩) l.length c), (37, .int .i64 ((j : Nat) : Int)), (40, .int .i64 ((j + B : Nat) : Int)), (41, .int .i64 ((j + 2 * B : Nat) : Int)), (42, .func (.func pf) #[] #[u])] fun a h77 => ?_
       refine V.cl h77 (Go.Proofs.enters_of Tryz.func117 (by kernel_rfl) rfl) (sym_any w64 base g c l us hu hO_66 hlL pf u he (fun w1 F => hp w1 (hF_67.trans F (fun _ h _ => h))) j (j + B) (j + 2 * B) (by omega) (by omega) (by omega)) ?_
       rintro _ w82 ⟨rfl, xs78, hx79, hO80, hF81⟩
       refine ⟨_, rfl, fun a h83 => ?_⟩
       have hsw82 := hF81.size
       have hF_84 := hF_67.trans hF81 (by simp <;> omega)
       refine V.nt (k76 _ _ ?_)
       refine V.sr h83 [] 44 44 [(7, .int .i64 ((j + 2 * B : Nat) : Int))] fun a h87 => ?_
       refine V.rr h87 [(2, .q (.int .i64 ((2 * B : Nat) : Int)) (w_nat (x := 2 * ((B : Nat) : Int)) (n := 2 * B) (by omega) (by omega))), (0, .q (.int .i64 ((j + 2 * B + 2 * B : Nat) : Int)) (w_nat (x := ((j + 2 * B : Nat) : Int) + ((2 * B : Nat) : Int)) (n := j + 2 * B + 2 * B) (by omega) (by omega)))] 45 48 [(8, .int .i64 ((j + 2 * B + 2 * B : Nat) : Int))] fun a h88 => ?_
       refine V.blk_n (V.then_n ?_)
       refine ⟨j + 2 * B, xs78, by omega, ?_⟩
       refine ⟨((h88.eq 7 (v := (.int .i64 ((j + 2 * B : Nat) : Int))) (u := (.int .i64 (((j + 2 * B) : Nat) : Int))) (V.int_eq (by omega))).eq 8 (v := (.int .i64 ((j + 2 * B + 2 * B : Nat) : Int))) (u := (.int .i64 (((j + 2 * B) + 2 * B : Nat) : Int))) (V.int_eq (by omega))).only _, hO80, hF_84, (by omega), hx79⟩
      ·
       refine V.exit (V.then_e (V.then_e (V.blk_hit ?_)))
       refine V.then_n (k62 _ _ ?_)
       refine V.seq fun K89 k90 => ?_
       refine V.sr h73 [(2, .q (.int .i64 ((j + B : Nat) : Int)) (w_nat (x := ((j : Nat) : Int) + ((B : Nat) : Int)) (n := j + B) (by omega) (by omega)))] 49 51 [(9, .int .i64 ((j + B : Nat) : Int))] fun a h93 => ?_
       refine V.sr h93 [] 52 53 [(54, .bool (decide (((j + B : Nat) : Int) < ((l.length : Nat) : Int))))] fun a h96 => ?_
       refine V.cp h96 (((j + B : Nat) : Int) < ((l.length : Nat) : Int)) (fun ht97 => ?_) (fun ht97 => ?_)
       ·
        refine V.rg ?_
        refine V.run h96 [] 5 1 0 [(55, .slice (some ⟨g, 0, none⟩) l.length c), (56, .int .i64 ((j : Nat) : Int)), (57, .int .i64 ((j + B : Nat) : Int)), (58, .int .i64 ((l.length : Nat) : Int)), (59, .func (.func pf) #[] #[u])] fun a h98 => ?_
        refine V.cl h98 (Go.Proofs.enters_of Tryz.func117 (by kernel_rfl) rfl) (sym_any w64 base g c l us hu hO_66 hlL pf u he (fun w1 F => hp w1 (hF_67.trans F (fun _ h _ => h))) j (j + B) l.length (by omega) (by omega) (by omega)) ?_
        rintro _ w103 ⟨rfl, xs99, hx100, hO101, hF102⟩
        refine ⟨_, rfl, fun a h104 => ?_⟩
        have hsw103 := hF102.size
        have hF_105 := hF_67.trans hF102 (by simp <;> omega)
        refine V.nt (k90 _ _ ?_)
        refine V.rr h104 [(1, .q (.int .i64 ((B * 2 : Nat) : Int)) (w_nat (x := ((B : Nat) : Int) * 2) (n := B * 2) (by omega) (by omega)))] 61 62 [(6, .int .i64 ((B * 2 : Nat) : Int))] fun a h106 => ?_
        refine V.blk_n (V.then_n ?_)
        refine ⟨B * 2, xs99, by omega, ?_⟩
        refine ⟨(h106.eq 6 (v := (.int .i64 ((B * 2 : Nat) : Int))) (u := (.int .i64 (((B * 2) : Nat) : Int))) (V.int_eq (by omega))).only _, hO101, hF_105, (by omega), hx100⟩
       ·
        refine V.skip ?_
        refine V.then_n (k90 _ _ ?_)
        refine V.rr h96 [(1, .q (.int .i64 ((B * 2 : Nat) : Int)) (w_nat (x := ((B : Nat) : Int) * 2) (n := B * 2) (by omega) (by omega)))] 61 62 [(6, .int .i64 ((B * 2 : Nat) : Int))] fun a h107 => ?_
        refine V.blk_n (V.then_n ?_)
        refine ⟨B * 2, us, by omega, ?_⟩
        refine ⟨(h107.eq 6 (v := (.int .i64 ((B * 2 : Nat) : Int))) (u := (.int .i64 (((B * 2) : Nat) : Int))) (V.int_eq (by omega))).only _, hO_66, hF_67, (by omega), hu⟩
    ·
     refine V.exit (V.then_e (V.then_e (V.blk_hit ?_)))
     refine V.e0 h56 ?_
     exact ⟨rfl, _, hz, hO_49, hF_50⟩
theorem sst_any (w : World) (base g c : Nat) (l xs : List ByteArray) (hx : xs.Perm l) (hO : OwR Rp.str NoZ w base 9 (.slice (some ⟨g, 0, none⟩) l.length c) xs) (hlL : l.length ≤ 1099511627776) (pf : Nat) (u : Value) (he : ∀ args w, (callFunc pf args).run Tryz.prog w = .ok (.enter pf args) w) (hp : ∀ w1, Fr [g] w w1 → ∀ x ∈ l, ∀ y ∈ l, Calls Tryz.prog pf #[.string x, .string y, u] w1 (fun e w' => ∃ n : Int, e = .returned (.int .i64 n) ∧ Fr [] w1 w')) : Calls Tryz.prog 49 #[.slice (some ⟨g, 0, none⟩) l.length c, .func (.func pf) #[] #[u]] w (fun e w' => e = .returned (.tuple #[]) ∧ ∃ xs', xs'.Perm l ∧ OwR Rp.str NoZ w' base 9 (.slice (some ⟨g, 0, none⟩) l.length c) xs' ∧ Fr [g] w w') := by
 have hF := Fr.refl [g] w
 have hxl := hx.length_eq
 have hlen0 := hO.len_le
 have hltg := hO.lt g rfl
 have hcap := hO.cap
 refine V.en 9 Tryz.func49 fun a h1 => ?_
 refine V.rg ?_
 refine V.run h1 [] 4 5 5 [(4, .slice (some ⟨g, 0, none⟩) l.length c), (6, .int .i64 ((l.length : Nat) : Int)), (7, .func (.func pf) #[] #[u])] fun a h2 => ?_
 refine V.cl h2 (Go.Proofs.enters_of Tryz.func85 (by kernel_rfl) rfl) (stb_any w base g c l xs hx hO hlL pf u he (fun w1 F => hp w1 (hF.trans F (fun _ h _ => h)))) ?_
 rintro _ w7 ⟨rfl, xs3, hx4, hO5, hF6⟩
 refine ⟨_, rfl, fun a h8 => ?_⟩
 have hsw7 := hF6.size
 have hF_9 := hF.trans hF6 (by simp <;> omega)
 refine V.nil ?_
 refine V.e0 h8 ?_
 exact ⟨rfl, _, hx4, hO5, hF_9⟩
theorem spdel_any (w : World) (S : Nat → Prop) (sp n : Nat) (D : ByteArray → Option EnD) (hY : SpY w S sp n D) (key : ByteArray) (hkz : key.size ≤ 9223372036854775807) : Calls Tryz.prog 18 #[.pointer (some ⟨sp, 0, none⟩), .string key] w (fun e w' => ∃ f S', e = .returned (.bool f) ∧ ((f = true ∧ D key ≠ none) ∨ (f = false ∧ D key = none)) ∧ SpY w' S' sp (delN n D key) (updD D key none) ∧ GrS S w S' ∧ FrP S w w') := by
 obtain ⟨H, Vb, t, T, hq, rfl, hS1, hS2⟩ := id hY
 have hX := hq
 have hB := hq.hB
 have hspl := hB.lt
 have hP := FrP.refl S w
 have hX0 := hq.lt
 refine V.en 15 Tryz.func18 fun a h1 => ?_
 refine V.sr h1 [] 4 4 [] fun a h4 => ?_
 refine V.sg fun K5 k6 => ?_
 refine V.run h4 [] 1 1 0 [(5, .pointer (some ⟨sp, 0, none⟩))] fun a h7 => ?_
 refine V.cl h7 (Go.Proofs.enters_of Tryz.func29 (by kernel_rfl) rfl) (isp_any w sp t hX.hB) ?_
 rintro _ w9 ⟨rfl, hF8⟩
 refine ⟨_, rfl, fun a h10 => ?_⟩
 have hsw9 := hF8.size
 have hX_11 := hX.fr0 hF8
 have hB_12 := hB.fr0 hF8
 have hP_13 := hP.tr0 hF8
 refine V.run h10 [(4, .b hB_12 0)] 6 8 10 [(7, .bool true), (11, .pointer (some ⟨t, 0, none⟩)), (12, .string key)] fun a h14 => ?_
 refine V.clg h14 (Go.Proofs.enters_of Tryz.func52 (by kernel_rfl) rfl) (del_any w9 (H) [] t (T) hX_11.hT hX_11.hm key (by omega)) ?_
 rintro _ w18 ⟨rfl, hT15, hF16⟩
 refine ⟨_, rfl, fun a h19 => ?_⟩
 have hsw18 := hF16.size
 have hB_20 := hB_12.frP hF16 (by exact fun hp => (hX_11.hH _ hp.1).2.1 rfl)
 have hP_21 := hP_13.trP hF16 (fun k hk => .inl (hS1 k (.inl hk.1)))
 have hX22 := sp_del hX_11 hkz (Fr.refl [] w9) hF16 hB_20 hT15
 have hsep17 : ∀ k, gr H w9 w18 k ∨ Vb k ∨ k = sp → k < w.heap.size ∨ (w9.heap.size ≤ k ∧ k < w18.heap.size) := fun k hk => by rcases hk with (hk | hk) | hk | hk; exact .inl (hX0 k (.inl hk)); exact .inr hk; exact .inl (hX0 k (.inr (.inl hk))); exact .inl (hX0 k (.inr (.inr hk)))
 refine V.re h19 [] 14 14 [(4, .bool ((findT (tbStep T) key).2))] fun a h23 => k6 _ _ ?_
 refine V.ret ?_
 refine V.r1 h23 (.bool ((findT (tbStep T) key).2)) ?_
 have hdn := delT_n' hq key
 have hfd := tb_found hq key
 exact ⟨_, _, rfl, hfd.elim .inr .inl, (by unfold delN; exact hdn ▸ hX22.y0), fun k hk => by rcases hk with (hk | hk) | hk | hk; exact .inl (hS1 k (.inl hk)); (have := hk.1; exact .inr (by omega)); exact .inl (hS1 k (.inr (.inl hk))); exact .inl (hS1 k (.inr (.inr hk))), hP_21⟩
theorem nanN_any (w : World) (x : Int) : Calls Tryz.prog 86 #[.int .i64 x] w (fun e w' => e = .returned (.bool (false)) ∧ Fr [] w w') := by
 have hF := Fr.refl [] w
 refine V.en 6 Tryz.func86 fun a h1 => ?_
 refine V.sr h1 [] 2 2 [] fun a h4 => ?_
 refine V.sr h4 [(2, .q (.bool false) (V.t_nsame x))] 3 5 [(2, .bool false)] fun a h7 => ?_
 refine V.ret ?_
 refine V.r1 h7 (.bool false) ?_
 exact ⟨rfl, hF⟩
theorem cmpN_any (w : World) (x y : Int) : Calls Tryz.prog 51 #[.int .i64 x, .int .i64 y] w (fun e w' => e = .returned (.int .i64 (cmpI x y)) ∧ Fr [] w w') := by
 have hF := Fr.refl [] w
 refine V.en 20 Tryz.func51 fun a h1 => ?_
 refine V.sr h1 [] 4 4 [] fun a h4 => ?_
 refine V.sg fun K5 k6 => ?_
 refine V.run h4 [] 1 1 0 [(7, .int .i64 x)] fun a h7 => ?_
 refine V.cl h7 (Go.Proofs.enters_of Tryz.func86 (by kernel_rfl) rfl) (nanN_any w x) ?_
 rintro _ w9 ⟨rfl, hF8⟩
 refine ⟨_, rfl, fun a h10 => ?_⟩
 have hsw9 := hF8.size
 have hF_11 := hF.new hF8
 refine V.re h10 [] 1 0 [(5, .bool false)] fun a h12 => k6 _ _ ?_
 refine V.sg fun K13 k14 => ?_
 refine V.run h12 [] 1 1 0 [(9, .int .i64 y)] fun a h15 => ?_
 refine V.cl h15 (Go.Proofs.enters_of Tryz.func86 (by kernel_rfl) rfl) (nanN_any w9 y) ?_
 rintro _ w17 ⟨rfl, hF16⟩
 refine ⟨_, rfl, fun a h18 => ?_⟩
 have hsw17 := hF16.size
 have hF_19 := hF_11.new hF16
 refine V.re h18 [] 1 0 [(6, .bool false)] fun a h20 => k14 _ _ ?_
 refine V.seq fun K21 k22 => ?_
 refine V.sr h20 [] 1 0 [(11, .bool false)] fun a h25 => ?_
 refine V.cf h25 ?_
 refine V.skip ?_
 refine V.then_n (k22 _ _ ?_)
 refine V.seq fun K26 k27 => ?_
 refine V.sr h25 [] 1 0 [(13, .bool false)] fun a h30 => ?_
 refine V.cf h30 ?_
 refine V.skip ?_
 refine V.then_n (k27 _ _ ?_)
 refine V.seq fun K31 k32 => ?_
 refine V.sr h30 [] 14 15 [(16, .bool (decide (x < y)))] fun a h35 => ?_
 refine V.cp h35 (x < y) (fun ht36 => ?_) (fun ht36 => ?_)
 ·
  refine V.sr h35 [] 1 0 [(4, .int .i64 (-1))] fun a h39 => ?_
  refine V.ret (V.then_r ?_)
  refine V.r1 h39 (.int .i64 (-1)) ?_
  exact ⟨congrArg (fun b => Ending.returned (Value.int .i64 b)) (by unfold cmpI; first | (rw [if_pos (by assumption)]; done) | (rw [if_neg (by assumption), if_pos (by assumption)]; done) | (rw [if_neg (by assumption), if_neg (by assumption)])), hF_19⟩
 ·
  refine V.skip ?_
  refine V.then_n (k32 _ _ ?_)
  refine V.seq fun K40 k41 => ?_
  refine V.sr h35 [] 17 18 [(19, .bool (decide (x > y)))] fun a h44 => ?_
  refine V.cp h44 (x > y) (fun ht45 => ?_) (fun ht45 => ?_)
  ·
   refine V.sr h44 [] 1 0 [(4, .int .i64 1)] fun a h48 => ?_
   refine V.ret (V.then_r ?_)
   refine V.r1 h48 (.int .i64 1) ?_
   exact ⟨congrArg (fun b => Ending.returned (Value.int .i64 b)) (by unfold cmpI; first | (rw [if_pos (by assumption)]; done) | (rw [if_neg (by assumption), if_pos (by assumption)]; done) | (rw [if_neg (by assumption), if_neg (by assumption)])), hF_19⟩
  ·
   refine V.skip ?_
   refine V.then_n (k41 _ _ ?_)
   refine V.sr h44 [] 1 0 [(4, .int .i64 0)] fun a h51 => ?_
   refine V.ret ?_
   refine V.r1 h51 (.int .i64 0) ?_
   exact ⟨congrArg (fun b => Ending.returned (Value.int .i64 b)) (by unfold cmpI; first | (rw [if_pos (by assumption)]; done) | (rw [if_neg (by assumption), if_pos (by assumption)]; done) | (rw [if_neg (by assumption), if_neg (by assumption)])), hF_19⟩
theorem exp1_any (w : World) (now : Int) (b : Nat) (hB : Blk w b [.int .i64 now] 3) (v : EntV) : Calls Tryz.prog 47 #[.agg #[.int .i64 v.kind, .string v.s, .slice v.l.a v.l.n v.l.c, .slice v.z.a v.z.n v.z.c, .slice v.h.a v.h.n v.h.c, .int .i64 v.till], .pointer (some ⟨b, 0, none⟩)] w (fun e w' => e = .returned (.bool (decide (ovrD v.till now))) ∧ Fr [] w w') := by
 have hF := Fr.refl [] w
 have hltb := hB.lt
 refine V.en 7 Tryz.func47 fun a h1 => ?_
 refine V.sg fun K2 k3 => ?_
 refine V.go (V.mk [(0, .agg #[.int .i64 v.kind, .string v.s, .slice v.l.a v.l.n v.l.c, .slice v.z.a v.z.n v.z.c, .slice v.h.a v.h.n v.h.c, .int .i64 v.till])] ⟨h1.e, trivial⟩ (by kernel_rfl) [.int .i64 v.kind, .string v.s, .slice v.l.a v.l.n v.l.c, .slice v.z.a v.z.n v.z.c, .slice v.h.a v.h.n v.h.c, .int .i64 v.till] 79 (fun b => .pointer (some ⟨b, 0, none⟩)) (by kernel_rfl) ?_)
 intro w5 b4 heb4 hB6 hF7 hsb4
 have hF_8 := hF.new hF7
 have hB_9 := hB.fr0 hF7
 refine V.pt h1 fun a h10 => ?_
 refine V.re h10 [] 3 3 [] fun a h11 => k3 _ _ ?_
 refine V.sg fun K12 k13 => ?_
 refine V.run h11 [(0, .bs hB6 0 [.int .i64 v.kind, .string v.s, .slice v.l.a v.l.n v.l.c, .slice v.z.a v.z.n v.z.c, .slice v.h.a v.h.n v.h.c, .int .i64 v.till]), (0, .b hB_9 0)] 2 1 0 [(4, .agg #[.int .i64 v.kind, .string v.s, .slice v.l.a v.l.n v.l.c, .slice v.z.a v.z.n v.z.c, .slice v.h.a v.h.n v.h.c, .int .i64 v.till]), (5, .int .i64 now)] fun a h14 => ?_
 refine V.cl h14 (Go.Proofs.enters_of Tryz.func48 (by kernel_rfl) rfl) (over_any w5 v now) ?_
 rintro _ w16 ⟨rfl, hF15⟩
 refine ⟨_, rfl, fun a h17 => ?_⟩
 have hsw16 := hF15.size
 have hF_18 := hF_8.new hF15
 refine V.re h17 [] 1 0 [(3, .bool (decide (ovrD v.till now)))] fun a h21 => k13 _ _ ?_
 refine V.ret ?_
 refine V.r1 h21 (.bool (decide (ovrD v.till now))) ?_
 exact ⟨rfl, hF_18⟩
theorem exp2_any (w : World) (H Vb : Nat → Prop) (sp t : Nat) (T : Tb EntV) (D : ByteArray → Option EnD) (hq : SpX w H Vb sp t T D) (b : Nat) (hBq : Blk w b [.pointer (some ⟨sp, 0, none⟩)] 29) (hbx : ¬ H b ∧ ¬ Vb b ∧ b ≠ sp) (x y : ByteArray) (hxz : x.size ≤ 9223372036854775807) (hyz : y.size ≤ 9223372036854775807) : Calls Tryz.prog 50 #[.string x, .string y, .pointer (some ⟨b, 0, none⟩)] w (fun e w' => ∃ n : Int, e = .returned (.int .i64 n) ∧ Fr [] w w') := by
 have hF := Fr.refl [] w
 have hX := hq
 have hB := hq.hB
 have hspl := hB.lt
 have hX0 := hq.lt
 have hcn := hq.hT.1.cn
 have hM := hq.hM
 have hBb := hBq
 have hltbq := hBq.lt
 refine V.en 33 Tryz.func50 fun a h1 => ?_
 refine V.sr h1 [] 5 5 [] fun a h4 => ?_
 refine V.sg fun K5 k6 => ?_
 refine V.run h4 [(0, .b hBb 0), (2, .b hB 0)] 5 11 13 [(14, .pointer (some ⟨t, 0, none⟩)), (15, .string x)] fun a h7 => ?_
 refine V.cl h7 (Go.Proofs.enters_of Tryz.func37 (by kernel_rfl) rfl) (look_any w (H) [] t (T) hX.hT x (by omega)) ?_
 rintro _ w9 ⟨rfl, hF8⟩
 refine ⟨_, rfl, fun a h10 => ?_⟩
 have hsw9 := hF8.size
 have hX_11 := hX.fr0 hF8
 have hB_12 := hB.fr0 hF8
 have hF_13 := hF.new hF8
 have hBb_14 := hBb.fr0 hF8
 refine V.run h10 [] 3 10 10 [(17, .agg #[.int .i64 (((lookT EntV.nil T x).1).kind), .string (((lookT EntV.nil T x).1).s), .slice (((lookT EntV.nil T x).1).l.a) (((lookT EntV.nil T x).1).l.n) (((lookT EntV.nil T x).1).l.c), .slice (((lookT EntV.nil T x).1).z.a) (((lookT EntV.nil T x).1).z.n) (((lookT EntV.nil T x).1).z.c), .slice (((lookT EntV.nil T x).1).h.a) (((lookT EntV.nil T x).1).h.n) (((lookT EntV.nil T x).1).h.c), .int .i64 (((lookT EntV.nil T x).1).till)]), (18, .bool ((lookT EntV.nil T x).2))] fun a h19 => ?_
 refine V.go (V.mk [] trivial (by kernel_rfl) [.int .i64 0, .string ⟨#[]⟩, .slice none 0 0, .slice none 0 0, .slice none 0 0, .int .i64 0] 79 (fun b => .pointer (some ⟨b, 0, none⟩)) (by kernel_rfl) ?_)
 intro w16 b15 heb15 hB17 hF18 hsb15
 have hX_20 := hX_11.fr0 hF18
 have hB_21 := hB_12.fr0 hF18
 have hF_22 := hF_13.new hF18
 have hBb_23 := hBb_14.fr0 hF18
 refine V.pt h19 fun a h24 => ?_
 refine V.go (V.stn b15 0 (.agg #[.int .i64 (((lookT EntV.nil T x).1).kind), .string (((lookT EntV.nil T x).1).s), .slice (((lookT EntV.nil T x).1).l.a) (((lookT EntV.nil T x).1).l.n) (((lookT EntV.nil T x).1).l.c), .slice (((lookT EntV.nil T x).1).z.a) (((lookT EntV.nil T x).1).z.n) (((lookT EntV.nil T x).1).z.c), .slice (((lookT EntV.nil T x).1).h.a) (((lookT EntV.nil T x).1).h.n) (((lookT EntV.nil T x).1).h.c), .int .i64 (((lookT EntV.nil T x).1).till)]) [.int .i64 (((lookT EntV.nil T x).1).kind), .string (((lookT EntV.nil T x).1).s), .slice (((lookT EntV.nil T x).1).l.a) (((lookT EntV.nil T x).1).l.n) (((lookT EntV.nil T x).1).l.c), .slice (((lookT EntV.nil T x).1).z.a) (((lookT EntV.nil T x).1).z.n) (((lookT EntV.nil T x).1).z.c), .slice (((lookT EntV.nil T x).1).h.a) (((lookT EntV.nil T x).1).h.n) (((lookT EntV.nil T x).1).h.c), .int .i64 (((lookT EntV.nil T x).1).till)] h24.e h24.e rfl rfl (by kernel_rfl) hB17 (by simp) [.int .i64 (((lookT EntV.nil T x).1).kind), .string (((lookT EntV.nil T x).1).s), .slice (((lookT EntV.nil T x).1).l.a) (((lookT EntV.nil T x).1).l.n) (((lookT EntV.nil T x).1).l.c), .slice (((lookT EntV.nil T x).1).z.a) (((lookT EntV.nil T x).1).z.n) (((lookT EntV.nil T x).1).z.c), .slice (((lookT EntV.nil T x).1).h.a) (((lookT EntV.nil T x).1).h.n) (((lookT EntV.nil T x).1).h.c), .int .i64 (((lookT EntV.nil T x).1).till)] rfl ?_)
 intro w25 hB26 hF27 hsw25
 have hX_28 := hX_20.frl hF27 (by intro k hk; simp only [List.mem_singleton] at hk; subst hk; exact ⟨fun q => by have := hX0 _ (.inl q); omega, fun q => by have := hX0 _ (.inr (.inl q)); omega, fun q => by have := hX0 _ (.inr (.inr q)); omega⟩)
 have hB_29 := hB_21.fr1 hF27 (by omega)
 have hF_30 := hF_22.own hF27 (by simp <;> omega)
 have hBb_31 := hBb_23.fr1 hF27 (by omega)
 refine V.re h24 [] 7 7 [] fun a h32 => k6 _ _ ?_
 refine V.sg fun K33 k34 => ?_
 refine V.run h32 [(0, .b hBb_31 0), (2, .b hB_29 0)] 5 20 22 [(23, .pointer (some ⟨t, 0, none⟩)), (24, .string y)] fun a h35 => ?_
 refine V.cl h35 (Go.Proofs.enters_of Tryz.func37 (by kernel_rfl) rfl) (look_any w25 (H) [] t (T) hX_28.hT y (by omega)) ?_
 rintro _ w37 ⟨rfl, hF36⟩
 refine ⟨_, rfl, fun a h38 => ?_⟩
 have hsw37 := hF36.size
 have hF_41 := hF_30.new hF36
 have hB26_43 := hB26.fr0 hF36
 refine V.run h38 [] 3 19 19 [(26, .agg #[.int .i64 (((lookT EntV.nil T y).1).kind), .string (((lookT EntV.nil T y).1).s), .slice (((lookT EntV.nil T y).1).l.a) (((lookT EntV.nil T y).1).l.n) (((lookT EntV.nil T y).1).l.c), .slice (((lookT EntV.nil T y).1).z.a) (((lookT EntV.nil T y).1).z.n) (((lookT EntV.nil T y).1).z.c), .slice (((lookT EntV.nil T y).1).h.a) (((lookT EntV.nil T y).1).h.n) (((lookT EntV.nil T y).1).h.c), .int .i64 (((lookT EntV.nil T y).1).till)]), (27, .bool ((lookT EntV.nil T y).2))] fun a h48 => ?_
 refine V.go (V.mk [] trivial (by kernel_rfl) [.int .i64 0, .string ⟨#[]⟩, .slice none 0 0, .slice none 0 0, .slice none 0 0, .int .i64 0] 79 (fun b => .pointer (some ⟨b, 0, none⟩)) (by kernel_rfl) ?_)
 intro w45 b44 heb44 hB46 hF47 hsb44
 have hF_51 := hF_41.new hF47
 have hB26_53 := hB26_43.fr0 hF47
 refine V.pt h48 fun a h54 => ?_
 refine V.go (V.stn b44 0 (.agg #[.int .i64 (((lookT EntV.nil T y).1).kind), .string (((lookT EntV.nil T y).1).s), .slice (((lookT EntV.nil T y).1).l.a) (((lookT EntV.nil T y).1).l.n) (((lookT EntV.nil T y).1).l.c), .slice (((lookT EntV.nil T y).1).z.a) (((lookT EntV.nil T y).1).z.n) (((lookT EntV.nil T y).1).z.c), .slice (((lookT EntV.nil T y).1).h.a) (((lookT EntV.nil T y).1).h.n) (((lookT EntV.nil T y).1).h.c), .int .i64 (((lookT EntV.nil T y).1).till)]) [.int .i64 (((lookT EntV.nil T y).1).kind), .string (((lookT EntV.nil T y).1).s), .slice (((lookT EntV.nil T y).1).l.a) (((lookT EntV.nil T y).1).l.n) (((lookT EntV.nil T y).1).l.c), .slice (((lookT EntV.nil T y).1).z.a) (((lookT EntV.nil T y).1).z.n) (((lookT EntV.nil T y).1).z.c), .slice (((lookT EntV.nil T y).1).h.a) (((lookT EntV.nil T y).1).h.n) (((lookT EntV.nil T y).1).h.c), .int .i64 (((lookT EntV.nil T y).1).till)] h54.e h54.e rfl rfl (by kernel_rfl) hB46 (by simp) [.int .i64 (((lookT EntV.nil T y).1).kind), .string (((lookT EntV.nil T y).1).s), .slice (((lookT EntV.nil T y).1).l.a) (((lookT EntV.nil T y).1).l.n) (((lookT EntV.nil T y).1).l.c), .slice (((lookT EntV.nil T y).1).z.a) (((lookT EntV.nil T y).1).z.n) (((lookT EntV.nil T y).1).z.c), .slice (((lookT EntV.nil T y).1).h.a) (((lookT EntV.nil T y).1).h.n) (((lookT EntV.nil T y).1).h.c), .int .i64 (((lookT EntV.nil T y).1).till)] rfl ?_)
 intro w55 hB56 hF57 hsw55
 have hF_60 := hF_51.own hF57 (by simp <;> omega)
 have hB26_62 := hB26_53.fr1 hF57 (by omega)
 refine V.re h54 [] 9 9 [] fun a h63 => k34 _ _ ?_
 refine V.sg fun K64 k65 => ?_
 refine V.run h63 [(1, .b hB26_62 5), (1, .b hB56 5)] 4 28 30 [(29, .int .i64 (((lookT EntV.nil T x).1).till)), (31, .int .i64 (((lookT EntV.nil T y).1).till))] fun a h66 => ?_
 refine V.cl h66 (Go.Proofs.enters_of Tryz.func51 (by kernel_rfl) rfl) (cmpN_any w55 (((lookT EntV.nil T x).1).till) (((lookT EntV.nil T y).1).till)) ?_
 rintro _ w68 ⟨rfl, hF67⟩
 refine ⟨_, rfl, fun a h69 => ?_⟩
 have hsw68 := hF67.size
 have hF_72 := hF_60.new hF67
 refine V.re h69 [] 1 0 [(5, .int .i64 (cmpI (((lookT EntV.nil T x).1).till) (((lookT EntV.nil T y).1).till)))] fun a h76 => k65 _ _ ?_
 refine V.ret ?_
 refine V.r1 h76 (.int .i64 (cmpI (((lookT EntV.nil T x).1).till) (((lookT EntV.nil T y).1).till))) ?_
 exact ⟨_, rfl, hF_72⟩
/-! ### A key that is there is taken out of a space's table -/
theorem tdel_sp (w : World) {S H Vb : Nat → Prop} {sp t n : Nat} {T : Tb EntV} {D : ByteArray → Option EnD} (hq : SpX w H Vb sp t T D) (hn : T.n = n) (hS : ∀ k, H k ∨ Vb k ∨ k = sp → S k) (key : ByteArray) (hkz : key.size ≤ 9223372036854775807) (hD : D key ≠ none) :
    Calls Tryz.prog 52 #[.pointer (some ⟨t, 0, none⟩), .string key] w (fun e w' => ∃ f S', e = .returned (.bool f) ∧ SpY w' S' sp (n - 1) (updD D key none) ∧ GrS S w S' ∧ FrP S w w') :=
  (del_any w H [] t T hq.hT hq.hm key hkz).mono fun e w' ⟨he, hT, hF⟩ => by
    have hB := hq.hB.frP hF fun hp => (hq.hH _ hp.1).2.1 rfl
    have hX := sp_del hq hkz (Fr.refl [] w) hF hB hT
    have hd := delT_n' hq key
    rw [if_neg hD, hn] at hd
    refine ⟨_, _, he, hd ▸ hX.y0, fun k hk => ?_, hF.mono fun k hk => hS k (.inl hk.1)⟩
    rcases hk with (hk | hk) | hk | hk
    · exact .inl (hS k (.inl hk))
    · have := hk.1; exact .inr (by omega)
    · exact .inl (hS k (.inr (.inl hk)))
    · exact .inl (hS k (.inr (.inr hk)))
/-! ### Keys that are taken out, one behind the other -/
noncomputable def delsD (D : ByteArray → Option EnD) (l : List ByteArray) : ByteArray → Option EnD := l.foldl (fun D k => updD D k none) D
theorem delsD_snoc (D : ByteArray → Option EnD) (l : List ByteArray) (k : ByteArray) : delsD D (l ++ [k]) = updD (delsD D l) k none := by unfold delsD; rw [List.foldl_append]; rfl
theorem delsD_nil (D : ByteArray → Option EnD) : delsD D [] = D := rfl
theorem delsD_out {D : ByteArray → Option EnD} {l : List ByteArray} {k : ByteArray} (h : k ∉ l) : delsD D l k = D k := by
  induction l generalizing D with
  | nil => rfl
  | cons x l ih =>
    simp only [List.mem_cons, not_or] at h
    have := ih (D := updD D x none) h.2
    unfold delsD at this ⊢
    rw [List.foldl_cons, this]
    exact updD_other h.1
theorem nodup_inj {l : List ByteArray} (h : l.Nodup) {i j : Nat} (hi : i < l.length) (hj : j < l.length) (e : l[i] = l[j]) : i = j := by
  rcases Nat.lt_trichotomy i j with q | q | q
  · exact absurd e (List.pairwise_iff_getElem.1 h i j hi hj q)
  · exact q
  · exact absurd e.symm (List.pairwise_iff_getElem.1 h j i hj hi q)
/-- Keys told: none twice, each is there. -/
def TolK (D : ByteArray → Option EnD) (l : List ByteArray) : Prop := l.Nodup ∧ ∀ k ∈ l, D k ≠ none
theorem TolK.nil (D : ByteArray → Option EnD) : TolK D [] := ⟨List.nodup_nil, fun _ h => by cases h⟩
theorem TolK.at {D : ByteArray → Option EnD} {l : List ByteArray} (h : TolK D l) {i : Nat} (hi : i < l.length) : delsD D (l.take i) l[i] ≠ none := by
  rw [delsD_out]
  · exact h.2 _ (List.getElem_mem hi)
  · intro hm
    obtain ⟨j, hj, e⟩ := List.mem_iff_getElem.1 hm
    rw [List.getElem_take] at e
    rw [List.length_take] at hj
    have := nodup_inj h.1 (by omega) hi e
    omega
theorem TolK.snoc {D : ByteArray → Option EnD} {l : List ByteArray} (h : TolK D l) {k : ByteArray} (hk : delsD D l k ≠ none) : TolK D (l ++ [k]) := by
  have hn : k ∉ l := fun hm => by
    apply hk
    obtain ⟨a, b, e, hb⟩ : ∃ a b, l = a ++ k :: b ∧ k ∉ b := by
      obtain ⟨i, hi, e⟩ := List.mem_iff_getElem.1 hm
      refine ⟨l.take i, l.drop (i + 1), ?_, fun hm2 => ?_⟩
      · rw [← e, List.getElem_cons_drop, List.take_append_drop]
      · obtain ⟨j, hj, e2⟩ := List.mem_iff_getElem.1 hm2
        rw [List.getElem_drop] at e2
        rw [List.length_drop] at hj
        have := nodup_inj h.1 (by omega) hi (e2.trans e.symm)
        omega
    rw [e, show a ++ k :: b = (a ++ [k]) ++ b by simp]
    have h1 : delsD D ((a ++ [k]) ++ b) = delsD (delsD D (a ++ [k])) b := by unfold delsD; rw [List.foldl_append]
    rw [h1, delsD_out hb, delsD_snoc]
    exact updD_same ..
  rw [delsD_out hn] at hk
  refine ⟨List.nodup_append.2 ⟨h.1, by simp, fun x hx y hy => ?_⟩, fun x hx => ?_⟩
  · rw [List.mem_singleton] at hy; subst hy; exact fun e => hn (e ▸ hx)
  · rcases List.mem_append.1 hx with hx | hx
    · exact h.2 x hx
    · rw [List.mem_singleton] at hx; subst hx; exact hk
/-! ### Rows that tell of keys taken out -/
def slvR : Rp SlV := Rp.flat SlV.nil 1 (fun v => [.slice v.a v.n v.c]) (fun _ => rfl) (fun x u hu => by simp at hu; subst hu; rfl)
def rowT (k : ByteArray) : List ByteArray := [delB, k]
/-- What the headers lead to: a row for each key. -/
def AllT (Z : Nat → Prop) (w : World) (rs : List SlV) (l : List ByteArray) : Prop := All2 (fun r k => SlR Rp.str Z w (.slice r.a r.n r.c) (rowT k)) rs l
section
variable {Z Z' : Nat → Prop} {w w1 : World} {rs : List SlV} {l : List ByteArray}
theorem AllT.nil : AllT Z w [] [] := trivial
theorem AllT.frP {P : Nat → Prop} (h : AllT Z w rs l) (f : FrP P w w1) (hz : ∀ k, Z k → ¬ P k) : AllT Z w1 rs l := All2.imp (fun _ _ q => q.frP f hz) h
theorem AllT.fr {b : List Nat} (h : AllT Z w rs l) (f : Fr b w w1) (hz : ∀ k ∈ b, ¬ Z k) : AllT Z w1 rs l := h.frP (FrP.of f) fun k hk hm => hz k hm hk
theorem AllT.fr0 (h : AllT Z w rs l) (f : Fr [] w w1) : AllT Z w1 rs l := h.fr f fun k hk => absurd hk (by simp)
theorem AllT.zone (h : AllT Z w rs l) (hz : ∀ k, Z k → Z' k) : AllT Z' w rs l := All2.imp (fun _ _ q => q.zone fun b _ hb => hz b hb) h
theorem AllT.snoc (h : AllT Z w rs l) {b : Nat} {k : ByteArray} {e : TypeId} (hB : Blk w b [.string delB, .string k] e) : AllT (fun j => Z j ∨ j = b) w (rs ++ [⟨some ⟨b, 0, none⟩, 2, 2⟩]) (l ++ [k]) := by
  have h1 : SlR Rp.str (fun j => Z j ∨ j = b) w (.slice (some ⟨b, 0, none⟩) 2 2) (rowT k) := by
    refine ⟨_, 2, rfl, by simp [rowT], by simp [rowT], fun i x hi => ⟨b, 0, [.string x], rfl, .inr rfl, hB.lt, rfl, fun j u hj => ?_⟩⟩
    have hj' : j = 0 := by have := (List.getElem?_eq_some_iff.1 hj).1; simpa using this
    subst hj'
    simp at hj; subst hj
    match i with
    | 0 => simp [rowT] at hi; subst hi; exact hB.at 0 rfl
    | 1 => simp [rowT] at hi; subst hi; exact hB.at 1 rfl
    | i + 2 => simp [rowT] at hi
  have h2 : AllT (fun j => Z j ∨ j = b) w [⟨some ⟨b, 0, none⟩, 2, 2⟩] [k] := ⟨h1, trivial⟩
  exact All2.app h2 (h.zone fun _ q => .inl q)
theorem AllT.row {Zr : Nat → Prop} {A : Option Addr} {c : Nat} (hS : SlR slvR Zr w (.slice A rs.length c) rs) (h : AllT Z w rs l) (hz : ∀ k, Z k → Z' k) (hr : ∀ k, Zr k → Z' k) : SlR (Rp.slice Rp.str) Z' w (.slice A (l.map rowT).length c) (l.map rowT) := by
  obtain ⟨A', c', e, l1, l2, l3⟩ := hS
  injection e with e1 e2 e3
  subst e1; subst e3
  have hl := All2.len h
  refine ⟨A, c, rfl, by rw [List.length_map]; omega, by rw [List.length_map]; omega, fun i x hi => ?_⟩
  rw [List.getElem?_map, Option.map_eq_some_iff] at hi
  obtain ⟨k, hk, rfl⟩ := hi
  obtain ⟨r, hr1, he⟩ := All2.get h hk
  obtain ⟨g, o, cs, hA, hZ, hg, hok, hc⟩ := l3 i r hr1
  have hok' : cs = [.slice r.a r.n r.c] := hok
  subst hok'
  exact ⟨g, o, _, hA, hr g hZ, hg, ⟨_, rfl, he.zone fun b _ q => hz b q⟩, hc⟩
end
theorem ins0_any (w : World) (fv : Value) : Calls Tryz.prog 116 #[.slice none 0 0, .int .i64 0, .int .i64 0, fv] w (fun e w' => e = .returned (.tuple #[]) ∧ Fr [] w w') := by
 have hF := Fr.refl [] w
 refine V.en 53 Tryz.func116 fun a h1 => ?_
 refine V.sr h1 [] 10 11 [(8, .int .i64 1)] fun a h4 => ?_
 refine V.block ?_
 refine V.loopR 1 ?_
 refine V.rnd ?_
 refine V.seq fun K5 k6 => ?_
 refine V.sr h4 [] 12 13 [(14, .bool false)] fun a h9 => ?_
 refine V.cf h9 ?_
 refine V.exit (V.then_e (V.then_e (V.blk_hit ?_)))
 refine V.e0 h9 ?_
 exact ⟨rfl, hF⟩
theorem stb0_any (w : World) (fv : Value) : Calls Tryz.prog 85 #[.slice none 0 0, .int .i64 0, fv] w (fun e w' => e = .returned (.tuple #[]) ∧ Fr [] w w') := by
 have hF := Fr.refl [] w
 refine V.en 63 Tryz.func85 fun a h1 => ?_
 refine V.sr h1 [] 1 0 [(6, .int .i64 20)] fun a h4 => ?_
 refine V.sr h4 [] 10 10 [(7, .int .i64 0), (8, .int .i64 20)] fun a h7 => ?_
 refine V.seq fun K8 k9 => ?_
 refine V.block ?_
 refine V.loopR 1 ?_
 refine V.rnd ?_
 refine V.seq fun K10 k11 => ?_
 refine V.sr h7 [] 11 12 [(13, .bool false)] fun a h14 => ?_
 refine V.cf h14 ?_
 refine V.exit (V.then_e (V.then_e (V.blk_hit ?_)))
 refine V.then_n (k9 _ _ ?_)
 refine V.sg fun K15 k16 => ?_
 refine V.run h14 [] 4 1 0 [(23, .slice none 0 0), (24, .int .i64 0), (25, .int .i64 0), (26, fv)] fun a h17 => ?_
 refine V.cl h17 (Go.Proofs.enters_of Tryz.func116 (by kernel_rfl) rfl) (ins0_any w (fv)) ?_
 rintro _ w19 ⟨rfl, hF18⟩
 refine ⟨_, rfl, fun a h20 => ?_⟩
 have hsw19 := hF18.size
 have hF_21 := hF.new hF18
 refine V.nt (k16 _ _ ?_)
 refine V.block ?_
 refine V.loopR 1 ?_
 refine V.rnd ?_
 refine V.seq fun K22 k23 => ?_
 refine V.sr h20 [] 28 29 [(30, .bool false)] fun a h26 => ?_
 refine V.cf h26 ?_
 refine V.exit (V.then_e (V.then_e (V.blk_hit ?_)))
 refine V.e0 h26 ?_
 exact ⟨rfl, hF_21⟩
theorem sst0_any (w : World) (fv : Value) : Calls Tryz.prog 49 #[.slice none 0 0, fv] w (fun e w' => e = .returned (.tuple #[]) ∧ Fr [] w w') := by
 have hF := Fr.refl [] w
 refine V.en 9 Tryz.func49 fun a h1 => ?_
 refine V.rg ?_
 refine V.run h1 [] 4 5 5 [(4, .slice none 0 0), (6, .int .i64 0), (7, fv)] fun a h2 => ?_
 refine V.cl h2 (Go.Proofs.enters_of Tryz.func85 (by kernel_rfl) rfl) (stb0_any w (fv)) ?_
 rintro _ w4 ⟨rfl, hF3⟩
 refine ⟨_, rfl, fun a h5 => ?_⟩
 have hsw4 := hF3.size
 have hF_6 := hF.new hF3
 refine V.nil ?_
 refine V.e0 h5 ?_
 exact ⟨rfl, hF_6⟩
/-! ### SortStableFunc of a row of one's own, empty or not -/
theorem sstW_any (w : World) (base : Nat) (A : Option Addr) (c : Nat) (l : List ByteArray) (hO : OwR Rp.str NoZ w base 9 (.slice A l.length c) l) (hlL : l.length ≤ 1099511627776) (pf : Nat) (u : Value) (he : ∀ args w, (callFunc pf args).run Tryz.prog w = .ok (.enter pf args) w)
    (hp : ∀ w1, Fr ((Value.slice A l.length c).ownBlock.toList) w w1 → ∀ x ∈ l, ∀ y ∈ l, Calls Tryz.prog pf #[.string x, .string y, u] w1 (fun e w' => ∃ n : Int, e = .returned (.int .i64 n) ∧ Fr [] w1 w')) :
    Calls Tryz.prog 49 #[.slice A l.length c, .func (.func pf) #[] #[u]] w (fun e w' => e = .returned (.tuple #[]) ∧ ∃ xs', xs'.Perm l ∧ OwR Rp.str NoZ w' base 9 (.slice A l.length c) xs' ∧ Fr ((Value.slice A l.length c).ownBlock.toList) w w') := by
  rcases hO.caseS with ⟨he1, rfl⟩ | ⟨g, c', he1⟩
  · injection he1 with e1 e2 e3
    subst e1; subst e3
    exact (sst0_any w (.func (.func pf) #[] #[u])).mono fun e w' ⟨h1, h2⟩ => ⟨h1, [], List.Perm.refl _, OwR.nil .., h2.mono (by simp)⟩
  · injection he1 with e1 e2 e3
    subst e1; subst e3
    refine (sst_any w base g c l l (List.Perm.refl _) hO hlL pf u he (fun w1 F => hp w1 (F.mono (by simp [Value.ownBlock])))).mono fun e w' ⟨h1, xs', h2, h3, h4⟩ => ⟨h1, xs', h2, h3, h4.mono (by simp [Value.ownBlock])⟩
/-! ### Expire's own sort -/
theorem key_sz2 {w : World} {H Vb : Nat → Prop} {sp t : Nat} {T : Tb EntV} {D : ByteArray → Option EnD} (hq : SpX w H Vb sp t T D) {p : Int → Bool} {l : List ByteArray} (hk : KeysOf D p l) {x : ByteArray} (hx : x ∈ l) : x.size ≤ 65536 := by
  obtain ⟨e, hD, _⟩ := (hk.2 x).1 hx
  rcases hq.look x with ⟨_, h⟩ | ⟨e', _, _, h3, h4, _⟩
  · rw [h] at hD; cases hD
  · have := (okD_bnd h4).1; rwa [h3] at this
theorem sstX_any (w : World) {H Vb : Nat → Prop} {sp t : Nat} {T : Tb EntV} {D : ByteArray → Option EnD} (hq : SpX w H Vb sp t T D) (b : Nat) (hBq : Blk w b [.pointer (some ⟨sp, 0, none⟩)] 29) (base : Nat) (hb : ∀ k, H k ∨ Vb k ∨ k = sp → k < b) (hbb : b < base)
    (A : Option Addr) (c : Nat) (l : List ByteArray) (hO : OwR Rp.str NoZ w base 9 (.slice A l.length c) l) {p : Int → Bool} (hk : KeysOf D p l) (hlL : l.length ≤ 1099511627776) :
    Calls Tryz.prog 49 #[.slice A l.length c, .func (.func 50) #[] #[.pointer (some ⟨b, 0, none⟩)]] w (fun e w' => e = .returned (.tuple #[]) ∧ ∃ xs', xs'.Perm l ∧ OwR Rp.str NoZ w' base 9 (.slice A l.length c) xs' ∧ SpX w' H Vb sp t T D ∧ Blk w' b [.pointer (some ⟨sp, 0, none⟩)] 29 ∧ FrP (fun k => (Value.slice A l.length c).ownBlock = some k) w w') := by
  have hn : ∀ k ∈ (Value.slice A l.length c).ownBlock.toList, ¬ H k ∧ ¬ Vb k ∧ k ≠ sp := fun k hm => by
    have h1 := (hO.lt k (by simpa using hm)).1
    exact ⟨fun q => by have := hb _ (.inl q); omega, fun q => by have := hb _ (.inr (.inl q)); omega, fun q => by have := hb _ (.inr (.inr q)); omega⟩
  have hn2 : ∀ k ∈ (Value.slice A l.length c).ownBlock.toList, k ≠ b := fun k hm => by have h1 := (hO.lt k (by simpa using hm)).1; omega
  have hB2 : ∀ w1, Fr ((Value.slice A l.length c).ownBlock.toList) w w1 → Blk w1 b [.pointer (some ⟨sp, 0, none⟩)] 29 := fun w1 F => hBq.fr F fun hm => hn2 b hm rfl
  refine (sstW_any w base A c l hO hlL 50 (.pointer (some ⟨b, 0, none⟩)) (enters_of Tryz.func50 (by kernel_rfl) rfl) fun w1 F x hx y hy => ?_).mono fun e w' ⟨h1, xs', h2, h3, h4⟩ => ⟨h1, xs', h2, h3, hq.frl h4 hn, hB2 _ h4, (FrP.of h4).mono fun k hk => by simpa using hk⟩
  have hx1 := key_sz2 hq hk hx
  have hy1 := key_sz2 hq hk hy
  exact exp2_any w1 H Vb sp t T D (hq.frl F hn) b (hB2 _ F) ⟨fun q => by have := hb _ (.inl q); omega, fun q => by have := hb _ (.inr (.inl q)); omega, fun q => by have := hb _ (.inr (.inr q)); omega⟩ x y (by omega) (by omega)
theorem KeysOf.tol {D : ByteArray → Option EnD} {p : Int → Bool} {l xs : List ByteArray} (hk : KeysOf D p l) (hx : xs.Perm l) : TolK D xs :=
  ⟨hx.nodup_iff.2 hk.1.nodup, fun k hm => by obtain ⟨x, h, _⟩ := (hk.2 k).1 (hx.mem_iff.1 hm); rw [h]; simp⟩
theorem TolK.take {D : ByteArray → Option EnD} {l : List ByteArray} (h : TolK D l) (n : Nat) : TolK D (l.take n) :=
  ⟨(List.take_sublist n l).nodup h.1, fun k hk => h.2 k (List.mem_of_mem_take hk)⟩
theorem delsD_take {D : ByteArray → Option EnD} {l : List ByteArray} {i : Nat} (hi : i < l.length) : delsD D (l.take (i + 1)) = updD (delsD D (l.take i)) l[i] none := by
  rw [List.take_succ_eq_append_getElem hi]; exact delsD_snoc ..
end Go.Proofs.YtjkegckfncfoaaaGreat
end
