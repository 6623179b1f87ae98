/- Walks: IndexFunc, DeleteFunc. -/
import Derived.Test.YtkepojdmgdgaoaaProg
import Derived.Test.YtkepojdmgdgaoaaMk
import Derived.Test.YtkepojdmgdgaoaaMp
namespace Go.Proofs.Ytkepojdmgdgaoaa
open Go.V Go.Base
open Go.RowKit (Below)
attribute [local irreducible] Act.put Act.eval
set_option linter.unusedVariables false
set_option linter.unusedSimpArgs false
theorem zero9 : ∀ w, (zeroValue 9).run Try.prog w = .ok (.string ⟨#[]⟩) w := Try.zeroValue9
noncomputable abbrev mB : Ve Try.prog 9 4 Bool := veB Try.underlying9 Try.underlying4 Try.zeroValue4
noncomputable abbrev mI : Ve Try.prog 9 3 Int := veI Try.underlying9 Try.underlying3 Try.zeroValue3
/-! ### The texts of which p does not hold -/
def kp (l : List ByteArray) (p : ByteArray → Bool) (j : Nat) : List ByteArray := (l.take j).filter fun x => !p x
theorem kp_le (l : List ByteArray) (p : ByteArray → Bool) (j : Nat) : (kp l p j).length ≤ j := Nat.le_trans (List.length_filter_le _ _) (List.length_take_le j l)
theorem kp_all (l : List ByteArray) (p : ByteArray → Bool) : kp l p l.length = l.filter fun x => !p x := by unfold kp; rw [List.take_length]
theorem kp_yes {l : List ByteArray} {p : ByteArray → Bool} {j : Nat} (hj : j < l.length) (h : p (at_ Rp.str l (j : Int)) = true) : kp l p (j + 1) = kp l p j := by
  unfold kp; rw [take_one hj, List.filter_append]; simp [h]
theorem kp_no {l : List ByteArray} {p : ByteArray → Bool} {j : Nat} (hj : j < l.length) (h : ¬ p (at_ Rp.str l (j : Int)) = true) : kp l p (j + 1) = kp l p j ++ [at_ Rp.str l (j : Int)] := by
  unfold kp; rw [take_one hj, List.filter_append]; simp [h]
theorem at_mem {l : List ByteArray} {j : Nat} (hj : j < l.length) : at_ Rp.str l (j : Int) ∈ l := by rw [at_get hj]; exact List.getElem_mem hj
theorem kp_i0 {l : List ByteArray} {p : ByteArray → Bool} {j : Nat} (hj : j < l.length) (h : ¬ p (at_ Rp.str l (j : Int)) = true) (hk : kp l p j = l.take j) : kp l p (j + 1) = l.take (j + 1) := by rw [kp_no hj h, hk, take_one hj]
/-- The row while it is being cut. -/
def Cut (l : List ByteArray) (p : ByteArray → Bool) (j : Nat) (xs : List ByteArray) : Prop := xs.length = l.length ∧ (kp l p j).length + 1 ≤ j ∧ xs.take (kp l p j).length = kp l p j ∧ xs.drop j = l.drop j
theorem Cut.at {l xs : List ByteArray} {p : ByteArray → Bool} {j : Nat} (h : Cut l p j xs) (hj : j < l.length) : at_ Rp.str xs (j : Int) = at_ Rp.str l (j : Int) := by
  have hx : j < xs.length := by have := h.1; omega
  rw [at_get hj, at_get hx]
  have h1 : (xs.drop j)[0]? = (l.drop j)[0]? := by rw [h.2.2.2]
  rw [List.getElem?_drop, List.getElem?_drop, Nat.add_zero, List.getElem?_eq_getElem hj, List.getElem?_eq_getElem hx] at h1
  injection h1
theorem Cut.drop1 {l xs : List ByteArray} {p : ByteArray → Bool} {j : Nat} (h : Cut l p j xs) : xs.drop (j + 1) = l.drop (j + 1) := by
  rw [← List.drop_drop, ← List.drop_drop, h.2.2.2]
theorem Cut.yes {l xs : List ByteArray} {p : ByteArray → Bool} {j : Nat} (h : Cut l p j xs) (hj : j < l.length) (hp : p (at_ Rp.str xs (j : Int)) = true) : Cut l p (j + 1) xs := by
  rw [h.at hj] at hp
  refine ⟨h.1, ?_, ?_, h.drop1⟩
  · rw [kp_yes hj hp]; have := h.2.1; omega
  · rw [kp_yes hj hp]; exact h.2.2.1
theorem Cut.no {l xs : List ByteArray} {p : ByteArray → Bool} {j : Nat} (h : Cut l p j xs) (hj : j < l.length) (hp : ¬ p (at_ Rp.str xs (j : Int)) = true) : Cut l p (j + 1) (xs.set (kp l p j).length (at_ Rp.str xs (j : Int))) := by
  have hx : xs.length = l.length := h.1
  have hk := h.2.1
  rw [h.at hj] at hp ⊢
  refine ⟨by rw [List.length_set]; exact hx, ?_, ?_, ?_⟩
  · rw [kp_no hj hp, List.length_append, List.length_singleton]; omega
  · rw [kp_no hj hp, List.length_append, List.length_singleton, List.take_add_one, List.getElem?_set_self (by omega), List.take_set_of_le (Nat.le_refl _), h.2.2.1]; rfl
  · rw [List.drop_set_of_lt (by omega)]; exact h.drop1
theorem Cut.first {l : List ByteArray} {p : ByteArray → Bool} {k : Nat} (hk : k < l.length) (hp : p (at_ Rp.str l (k : Int)) = true) (h : kp l p k = l.take k) : Cut l p (k + 1) l := by
  have hl : (kp l p k).length = k := by rw [h, List.length_take]; omega
  refine ⟨rfl, ?_, ?_, rfl⟩
  · rw [kp_yes hk hp]; omega
  · rw [kp_yes hk hp, h, List.length_take, Nat.min_eq_left (by omega)]
/-! ### Members of a row, as a map -/
def memB (m : List ByteArray) (j : Nat) : ByteArray → Bool := fun s => decide (s ∈ m.take j)
theorem memB_0 (m : List ByteArray) : (fun _ => mB.z) = memB m 0 := by funext s; unfold memB; simp; rfl
theorem memB_succ {m : List ByteArray} {j : Nat} (hj : j < m.length) : upd (memB m j) (at_ Rp.str m (j : Int)) true = memB m (j + 1) := by
  funext s
  unfold upd memB
  rw [take_one hj]
  by_cases h : s = at_ Rp.str m (j : Int)
  · simp [h]
  · simp [h]
def delS (l m : List ByteArray) : List ByteArray := if Inc l then l.filter fun x => !decide (x ∈ m) else []
def delN (l m : List ByteArray) : Int := if Inc l then (l.length : Int) - (l.filter fun x => !decide (x ∈ m)).length else 0
theorem kp_memB {l m : List ByteArray} {j : Nat} (hj : m.length ≤ j) : kp l (memB m j) l.length = l.filter fun x => !decide (x ∈ m) := by
  rw [kp_all]; unfold memB; rw [List.take_of_length_le hj]
set_option maxHeartbeats 4000000 in
set_option maxRecDepth 20000 in
theorem idx_any (w : World) (Al : Option Addr) (cl : Nat) (l : List ByteArray) (hSl : SlR Rp.str (fun k => k < w.heap.size) w (.slice Al l.length cl) l) (pf : Nat) (u : Value) (he : ∀ args w, (callFunc pf args).run Try.prog w = .ok (.enter pf args) w) (p : ByteArray → Bool) (hp : ∀ w1, Fr [] w w1 → ∀ x ∈ l, Calls Try.prog pf #[.string x, u] w1 (fun e w' => e = .returned (.bool (p x)) ∧ Fr [] w1 w')) : Calls Try.prog 56 #[.slice Al l.length cl, .func (.func pf) #[] #[u]] w (fun e w' => ∃ r : Int, e = .returned (.int .i64 r) ∧ Fr [] w w' ∧ ((r = -1 ∧ kp l p l.length = l) ∨ (∃ k : Nat, r = (k : Int) ∧ k < l.length ∧ p (at_ Rp.str l (k : Int)) = true ∧ kp l p k = l.take k))) := by
 have hF := Fr.refl [] w
 have hlen0 := hSl.len_le
 refine V.en 19 Try.func56 fun a h1 => ?_
 refine V.sr h1 [] 4 4 [] fun a h4 => ?_
 refine V.seq fun K5 k6 => ?_
 refine V.sr h4 [] 6 6 [(7, .int .i64 ((l.length : Nat) : Int)), (8, .int .i64 0)] fun a h9 => ?_
 refine V.block ?_
 refine V.loop1 (fun (i : Nat) a_ w_ => En 19 [] a_ [(0, .slice Al l.length cl), (1, .func (.func pf) #[] #[u]), (7, .int .i64 ((l.length : Nat) : Int)), (8, .int .i64 (i : Int))] ∧ Fr [] w w_ ∧ SlR Rp.str (fun k => k < w.heap.size) w_ (.slice Al l.length cl) l ∧ (i ≤ l.length) ∧ (kp l p i = l.take i)) (fun (i : Nat) => l.length - i) 0 ?_ ?_
 ·
  refine ⟨(h9.eq 8 (v := (.int .i64 0)) (u := (.int .i64 (0 : Int))) (V.int_eq (by omega))).only _, hF, hSl, (by omega), rfl⟩
 ·
  rintro i a10 w11 ⟨h12, hF_13, hSl_14, hi, hk⟩
  have hfs15 := hF_13.size
  refine V.sr h12 [] 1 0 [(9, .bool (decide ((i : Int) < ((l.length : Nat) : Int))))] fun a h18 => ?_
  refine V.seq fun K19 k20 => ?_
  refine V.cp h18 ((i : Int) < ((l.length : Nat) : Int)) (fun ht21 => ?_) (fun ht21 => ?_)
  ·
   refine V.skip ?_
   refine V.then_n (k20 _ _ ?_)
   refine V.seq fun K22 k23 => ?_
   refine V.block ?_
   refine V.sr h18 [] 10 10 [(5, .int .i64 (i : Int))] fun a h26 => ?_
   obtain ⟨g29, o30, hA31, hA31l, hA31z⟩ := hSl_14.addr (by omega)
   obtain ⟨cs32, hok33, hE34⟩ := hSl_14.els hA31 (i : Int) (by omega) (by omega)
   obtain rfl : cs32 = [.string (at_ Rp.str l (i : Int))] := hok33
   refine V.sg fun K27 k28 => ?_
   refine V.run h26 [(3, .ix g29 o30 l.length cl .i64 (i : Int) 1 hA31), (0, .l ⟨g29, o30 + (i : Int).toNat * 1, none⟩ (.string (at_ Rp.str l (i : Int))) (hE34.at 0 rfl))] 5 12 14 [(11, .func (.func pf) #[] #[u]), (15, .string (at_ Rp.str l (i : Int)))] fun a h35 => ?_
   refine V.cl h35 he (hp w11 hF_13 (at_ Rp.str l (i : Int)) (at_mem (by omega))) ?_
   rintro _ w37 ⟨rfl, hF36⟩
   refine ⟨_, rfl, fun a h38 => ?_⟩
   have hsw37 := hF36.size
   have hF_39 := hF_13.new hF36
   have hSl_40 := hSl_14.fr0 hF36
   have hE34_41 := hE34.fr0 hF36
   refine V.nt (k28 _ _ ?_)
   refine V.cb h38 (p (at_ Rp.str l (i : Int))) (fun ht42 => ?_) (fun ht42 => ?_)
   ·
    refine V.sr h38 [] 17 17 [(4, .int .i64 (i : Int))] fun a h45 => ?_
    refine V.ret ?_
    refine V.blk_r ?_
    refine V.then_r ?_
    refine V.then_r ?_
    refine V.blk_r ?_
    refine V.then_r ?_
    refine V.r1 h45 (.int .i64 (i : Int)) ?_
    exact ⟨_, rfl, hF_39, .inr ⟨i, rfl, by omega, ht42, hk⟩⟩
   ·
    refine V.skip ?_
    refine V.blk_n ?_
    refine V.then_n (k23 _ _ ?_)
    refine V.rr h38 [(0, .i ((i : Int) + 1))] 18 18 [(8, .int .i64 ((i : Int) + 1))] fun a h46 => ?_
    refine V.then_n ?_
    refine ⟨i + 1, by omega, ?_⟩
    refine ⟨(h46.eq 8 (v := (.int .i64 ((i : Int) + 1))) (u := (.int .i64 ((i + 1) : Int))) (V.int_eq (by omega))).only _, hF_39, hSl_40, (by omega), (kp_i0 (by omega) ht42 hk)⟩
  ·
   refine V.exit ?_
   refine V.then_e ?_
   refine V.then_e ?_
   refine V.blk_hit ?_
   refine V.then_n (k6 _ _ ?_)
   refine V.sr h18 [] 1 0 [(4, .int .i64 (-1))] fun a h49 => ?_
   refine V.ret ?_
   refine V.r1 h49 (.int .i64 (-1)) ?_
   obtain rfl : i = l.length := by omega
   exact ⟨_, rfl, hF_13, .inl ⟨rfl, by rw [hk, List.take_length]⟩⟩
set_option maxHeartbeats 4000000 in
set_option maxRecDepth 20000 in
theorem df_any (w : World) (base g c : Nat) (l : List ByteArray) (hO : OwR Rp.str NoZ w base 9 (.slice (some ⟨g, 0, none⟩) l.length c) l) (pf : Nat) (u : Value) (he : ∀ args w, (callFunc pf args).run Try.prog w = .ok (.enter pf args) w) (p : ByteArray → Bool) (hp : ∀ w1, Fr [g] w w1 → ∀ x ∈ l, Calls Try.prog pf #[.string x, u] w1 (fun e w' => e = .returned (.bool (p x)) ∧ Fr [] w1 w')) : Calls Try.prog 44 #[.slice (some ⟨g, 0, none⟩) l.length c, .func (.func pf) #[] #[u]] w (fun e w' => e = .returned (.slice (some ⟨g, 0, none⟩) (kp l p l.length).length c) ∧ OwR Rp.str NoZ w' base 9 (.slice (some ⟨g, 0, none⟩) (kp l p l.length).length c) (kp l p l.length) ∧ Fr [g] w w') := by
 have hF := Fr.refl [g] w
 have hlen0 := hO.len_le
 have hltg := hO.lt g rfl
 have hcap := hO.cap
 refine V.en 42 Try.func44 fun a h1 => ?_
 refine V.sr h1 [] 4 4 [] fun a h4 => ?_
 refine V.sg fun K5 k6 => ?_
 refine V.run h4 [] 2 1 0 [(8, .slice (some ⟨g, 0, none⟩) l.length c), (9, .func (.func pf) #[] #[u])] fun a h7 => ?_
 have hS8 := hO.is
 refine V.cl h7 (Go.Proofs.enters_of Try.func56 (by kernel_rfl) rfl) (idx_any w (some ⟨g, 0, none⟩) c l hS8.old pf u he p (fun w1 F x hx => hp w1 (hF.trans F (fun i hi => by cases hi)) x hx)) ?_
 rintro _ w12 ⟨r9, rfl, hF10, hr11⟩
 refine ⟨_, rfl, fun a h13 => ?_⟩
 have hsw12 := hF10.size
 have hF_14 := hF.trans hF10 (by simp <;> omega)
 have hO_15 := hO.fr0 hF10
 have hS8_16 := hS8.fr0 hF10
 refine V.re h13 [] 1 0 [(5, .int .i64 r9)] fun a h17 => k6 _ _ ?_
 refine V.seq fun K18 k19 => ?_
 refine V.seq fun K20 k21 => ?_
 rcases hr11 with ⟨rfl, hkn⟩ | ⟨k22, rfl, hk1, hk2, hk3⟩
 ·
  refine V.rr h17 [] 11 11 [(12, .bool true)] fun a h23 => ?_
  refine V.then_n (k21 _ _ ?_)
  refine V.ct h23 ?_
  refine V.sr h23 [] 13 13 [(4, .slice (some ⟨g, 0, none⟩) l.length c)] fun a h26 => ?_
  refine V.ret ?_
  refine V.then_r ?_
  refine V.r1 h26 (.slice (some ⟨g, 0, none⟩) l.length c) ?_
  rw [hkn]
  exact ⟨rfl, hO_15, hF_14⟩
 ·
  have hkl : (kp l p (k22 + 1)).length = k22 := by rw [kp_yes hk1 hk2, hk3, List.length_take]; omega
  refine V.rr h17 [(1, .eq (k22 : Int) (-1))] 11 11 [(12, .bool (decide ((k22 : Int) = (-1))))] fun a h27 => ?_
  refine V.then_n (k21 _ _ ?_)
  refine V.cp h27 ((k22 : Int) = (-1)) (fun ht28 => ?_) (fun ht28 => ?_)
  ·
   refine V.sr h27 [] 13 13 [(4, .slice (some ⟨g, 0, none⟩) l.length c)] fun a h31 => ?_
   refine V.ret ?_
   refine V.then_r ?_
   refine V.r1 h31 (.slice (some ⟨g, 0, none⟩) l.length c) ?_
   exfalso; omega
  ·
   refine V.skip ?_
   refine V.then_n (k19 _ _ ?_)
   refine V.seq fun K32 k33 => ?_
   refine V.sr h27 [(1, .i ((k22 : Int) + 1))] 14 15 [(6, .int .i64 ((k22 : Int) + 1))] fun a h36 => ?_
   refine V.block ?_
   refine V.loop2 (fun (j : Nat) (xs : List ByteArray) a_ w_ => En 42 [] a_ [(0, .slice (some ⟨g, 0, none⟩) l.length c), (1, .func (.func pf) #[] #[u]), (5, .int .i64 (((kp l p j).length : Nat) : Int)), (6, .int .i64 (j : Int))] ∧ OwR Rp.str NoZ w_ base 9 (.slice (some ⟨g, 0, none⟩) l.length c) xs ∧ Fr [g] w w_ ∧ (j ≤ l.length) ∧ (Cut l p j xs)) (fun (j : Nat) (xs : List ByteArray) => l.length - j) (k22 + 1) l ?_ ?_
   ·
    refine ⟨((h36.eq 5 (v := (.int .i64 (k22 : Int))) (u := (.int .i64 (((kp l p (k22 + 1)).length : Nat) : Int))) (V.int_eq (by rw [hkl]))).eq 6 (v := (.int .i64 ((k22 : Int) + 1))) (u := (.int .i64 ((k22 + 1) : Int))) (V.int_eq (by omega))).only _, hO_15, hF_14, (by omega), (Cut.first hk1 hk2 hk3)⟩
   ·
    rintro j xs a37 w38 ⟨h39, hO_40, hF_41, hj, hx⟩
    have hfs42 := hF_41.size
    have hx1 := hx.1
    have hx2 := hx.2.1
    have hkj := kp_le l p j
    refine V.seq fun K43 k44 => ?_
    refine V.sr h39 [] 16 18 [(19, .bool (decide ((j : Int) < ((l.length : Nat) : Int))))] fun a h47 => ?_
    refine V.cp h47 ((j : Int) < ((l.length : Nat) : Int)) (fun ht48 => ?_) (fun ht48 => ?_)
    ·
     refine V.skip ?_
     refine V.then_n (k44 _ _ ?_)
     refine V.seq fun K49 k50 => ?_
     refine V.block ?_
     have hS56 := hO_40.is
     obtain ⟨cs53, hok54, hE55⟩ := hS56.els rfl (j : Int) (by omega) (by omega)
     obtain rfl : cs53 = [.string (at_ Rp.str xs (j : Int))] := hok54
     refine V.sr h47 [(2, .ix g 0 l.length c .i64 (j : Int) 1 rfl), (0, .l ⟨g, 0 + (j : Int).toNat * 1, none⟩ (.string (at_ Rp.str xs (j : Int))) (hE55.at 0 rfl))] 22 25 [(7, .string (at_ Rp.str xs (j : Int)))] fun a h57 => ?_
     refine V.sg fun K58 k59 => ?_
     refine V.run h57 [] 2 1 0 [(26, .func (.func pf) #[] #[u]), (27, .string (at_ Rp.str xs (j : Int)))] fun a h60 => ?_
     refine V.cl h60 he (hp w38 hF_41 (at_ Rp.str xs (j : Int)) (by rw [hx.at (by omega)]; exact at_mem (by omega))) ?_
     rintro _ w62 ⟨rfl, hF61⟩
     refine ⟨_, rfl, fun a h63 => ?_⟩
     have hsw62 := hF61.size
     have hO_64 := hO_40.fr0 hF61
     have hF_65 := hF_41.trans hF61 (by simp <;> omega)
     have hS56_66 := hS56.fr0 hF61
     have hE55_67 := hE55.fr0 hF61
     refine V.re h63 [] 1 0 [(29, .bool (!(p (at_ Rp.str xs (j : Int)))))] fun a h68 => k59 _ _ ?_
     refine V.cb h68 (!(p (at_ Rp.str xs (j : Int)))) (fun ht69 => ?_) (fun ht69 => ?_)
     ·
      refine V.sg fun K70 k71 => ?_
      refine V.run h68 [(3, .ix g 0 l.length c .i64 (((kp l p j).length : Nat) : Int) 1 rfl)] 4 30 31 [(32, .string (at_ Rp.str xs (j : Int))), (33, .pointer (some ⟨g, 0 + (((kp l p j).length : Nat) : Int).toNat * 1, none⟩))] fun a h75 => ?_
      refine V.go (V.sto ((((kp l p j).length : Nat) : Int).toNat) (at_ Rp.str xs (j : Int)) hO_64 (h75.e (v := (.pointer (some ⟨g, 0 + (((kp l p j).length : Nat) : Int).toNat * 1, none⟩)))) (h75.e (v := (.string (at_ Rp.str xs (j : Int))))) (by kernel_rfl) (by omega) ?_)
      intro w72 hO73 hF74 hsw72
      have hF_76 := hF_65.trans hF74 (by simp <;> omega)
      refine V.nt (k71 _ _ ?_)
      refine V.rr h75 [(1, .i ((((kp l p j).length : Nat) : Int) + 1))] 34 35 [(5, .int .i64 ((((kp l p j).length : Nat) : Int) + 1))] fun a h77 => ?_
      refine V.blk_n ?_
      refine V.then_n (k50 _ _ ?_)
      refine V.rr h77 [(1, .i ((j : Int) + 1))] 20 21 [(6, .int .i64 ((j : Int) + 1))] fun a h78 => ?_
      refine V.then_n ?_
      have hpq : ¬ p (at_ Rp.str xs (j : Int)) = true := (by simpa using ht69)
      have hkq := kp_no (p := p) (show j < l.length by omega) (by rw [← hx.at (by omega)]; exact hpq)
      refine ⟨j + 1, xs.set ((kp l p j).length) (at_ Rp.str xs (j : Int)), by omega, ?_⟩
      refine ⟨((h78.eq 5 (v := (.int .i64 ((((kp l p j).length : Nat) : Int) + 1))) (u := (.int .i64 (((kp l p (j + 1)).length : Nat) : Int))) (V.int_eq (by rw [hkq, List.length_append]; simp))).eq 6 (v := (.int .i64 ((j : Int) + 1))) (u := (.int .i64 ((j + 1) : Int))) (V.int_eq (by omega))).only _, hO73, hF_76, (by omega), (hx.no (by omega) hpq)⟩
     ·
      refine V.skip ?_
      refine V.blk_n ?_
      refine V.then_n (k50 _ _ ?_)
      refine V.rr h68 [(1, .i ((j : Int) + 1))] 20 21 [(6, .int .i64 ((j : Int) + 1))] fun a h79 => ?_
      refine V.then_n ?_
      have hpq : p (at_ Rp.str xs (j : Int)) = true := (by simpa using ht69)
      have hkq := kp_yes (p := p) (show j < l.length by omega) (by rw [← hx.at (by omega)]; exact hpq)
      refine ⟨j + 1, xs, by omega, ?_⟩
      refine ⟨((h79.eq 5 (v := (.int .i64 (((kp l p j).length : Nat) : Int))) (u := (.int .i64 (((kp l p (j + 1)).length : Nat) : Int))) (V.int_eq (by rw [hkq]))).eq 6 (v := (.int .i64 ((j : Int) + 1))) (u := (.int .i64 ((j + 1) : Int))) (V.int_eq (by omega))).only _, hO_64, hF_65, (by omega), (hx.yes (by omega) hpq)⟩
    ·
     refine V.exit ?_
     refine V.then_e ?_
     refine V.then_e ?_
     refine V.blk_hit ?_
     refine V.then_n (k33 _ _ ?_)
     have hS82 := hO_40.is
     have hS83 := hS82.dr (i := (kp l p j).length) (by omega)
     refine V.sg fun K80 k81 => ?_
     refine V.run h47 [(2, .cutE (some ⟨g, 0, none⟩) l.length c (((kp l p j).length : Nat) : Int) ((kp l p j).length) 1)] 3 36 37 [(38, .slice (cutA (some ⟨g, 0, none⟩) ((kp l p j).length) c 1) (l.length - ((kp l p j).length)) (c - ((kp l p j).length)))] fun a h87 => ?_
     refine V.go (V.clrS (m := ((kp l p j).length)) hO_40 (h87.e (v := (.slice (cutA (some ⟨g, 0, none⟩) ((kp l p j).length) c 1) (l.length - ((kp l p j).length)) (c - ((kp l p j).length))))) (by omega) (by kernel_rfl) zero9 ?_)
     intro w84 hO85 hF86 hsw84
     have hF_88 := hF_41.trans hF86 (by simp <;> omega)
     refine V.nt (k81 _ _ ?_)
     refine V.sr h87 [(2, .cut0 (some ⟨g, 0, none⟩) l.length c (((kp l p j).length : Nat) : Int) ((kp l p j).length) 1)] 39 41 [(4, .slice (some ⟨g, 0, none⟩) ((kp l p j).length) c)] fun a h91 => ?_
     refine V.ret ?_
     refine V.r1 h91 (.slice (some ⟨g, 0, none⟩) ((kp l p j).length) c) ?_
     obtain rfl : j = l.length := by omega
     rw [hx.2.2.1] at hO85
     exact ⟨rfl, hO85, hF_88⟩
end Go.Proofs.Ytkepojdmgdgaoaa
