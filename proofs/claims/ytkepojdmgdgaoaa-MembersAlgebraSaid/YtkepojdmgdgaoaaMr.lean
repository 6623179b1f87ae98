/- Walks: both Unions. -/
import Derived.Test.YtkepojdmgdgaoaaProg
import Derived.Test.YtkepojdmgdgaoaaMk
namespace Go.Proofs.Ytkepojdmgdgaoaa
open Go.V Go.Base
open Go.RowKit (Below)
attribute [local irreducible] Act.put Act.eval
set_option linter.unusedVariables false
set_option linter.unusedSimpArgs false
def unS (ls : List (List ByteArray)) : List ByteArray := if ∀ l ∈ ls, Inc l then setOf ls.flatten else []
theorem unS_len (ls : List (List ByteArray)) : (unS ls).length ≤ ls.flatten.length := by
  unfold unS; split
  · exact setOf_len _
  · simp
theorem unS_inc (ls : List (List ByteArray)) : Inc (unS ls) := by
  unfold unS; split
  · exact setOf_inc _
  · exact Inc.nil
theorem sl_three {Z Z' Z'' : Nat → Prop} {w : World} {b : Nat} {v u t : Value} {l m n : List ByteArray} (hB : Blk w b [v, u, t] 22) (hS : SlR Rp.str Z w v l) (hS' : SlR Rp.str Z' w u m) (hS'' : SlR Rp.str Z'' w t n) : SlR (Rp.slice Rp.str) (fun _ => True) w (.slice (some ⟨b, 0, none⟩) 3 3) [l, m, n] := by
  refine ⟨_, 3, rfl, by simp, by simp, fun i x hi => ?_⟩
  match i with
  | 0 =>
    simp at hi
    subst hi
    exact ⟨b, 0, [v], rfl, trivial, hB.lt, ⟨v, rfl, hS.zone fun _ _ _ => trivial⟩, fun j u hj => by
      cases j with
      | zero => simp at hj; subst hj; exact hB.at 0 rfl
      | succ j => simp at hj⟩
  | 1 =>
    simp at hi
    subst hi
    exact ⟨b, 0, [u], rfl, trivial, hB.lt, ⟨u, rfl, hS'.zone fun _ _ _ => trivial⟩, fun j u hj => by
      cases j with
      | zero => simp at hj; subst hj; exact hB.at 1 rfl
      | succ j => simp at hj⟩
  | 2 =>
    simp at hi
    subst hi
    exact ⟨b, 0, [t], rfl, trivial, hB.lt, ⟨t, rfl, hS''.zone fun _ _ _ => trivial⟩, fun j u hj => by
      cases j with
      | zero => simp at hj; subst hj; exact hB.at 2 rfl
      | succ j => simp at hj⟩
  | i + 3 => simp at hi
theorem all_take {ls : List (List ByteArray)} {i : Nat} (h : ∀ l ∈ ls.take i, Inc l) (hi : ls.length ≤ i) : ∀ l ∈ ls, Inc l := by rw [List.take_of_length_le hi] at h; exact h
theorem not_all {ls : List (List ByteArray)} {i : Nat} (hi : i < ls.length) (h : ¬ Inc (at_ (Rp.slice Rp.str) ls (i : Int))) : ¬ ∀ l ∈ ls, Inc l := fun hq => h (hq _ (List.mem_of_getElem? (at_some (Rp.slice Rp.str) (xs := ls) (i := (i : Int)) (by omega) (by omega))))
theorem chkL_code (ls : List (List ByteArray)) : chkL ls = if (∀ l ∈ ls, Inc l) then 0 else 80 := rfl
theorem flat_next {ls : List (List ByteArray)} {i : Nat} (h : i < ls.length) : (ls.take (i + 1)).flatten = (ls.take i).flatten ++ at_ (Rp.slice Rp.str) ls (i : Int) := by
  rw [flat_take h]; rfl
set_option maxHeartbeats 4000000 in
set_option maxRecDepth 20000 in
theorem rsets_any (w : World) (A : Option Addr) (c : Nat) (ls : List (List ByteArray)) (hL : SlR (Rp.slice Rp.str) (fun k => k < w.heap.size) w (.slice A ls.length c) ls) : Calls Try.prog 46 #[.slice A ls.length c] w (fun e w' => e = .returned (.bool (decide (∀ l ∈ ls, Inc l))) ∧ Fr [] w w') := by
 have hF := Fr.refl [] w
 have hlen0 := hL.len_le
 refine V.en 16 Try.func46 fun a h1 => ?_
 refine V.sr h1 [] 2 2 [] fun a h4 => ?_
 refine V.seq fun K5 k6 => ?_
 refine V.sr h4 [] 1 0 [(3, .int .i64 0)] fun a h9 => ?_
 refine V.block ?_
 refine V.loop1 (fun (i : Nat) a_ w_ => En 16 [] a_ [(0, .slice A ls.length c), (3, .int .i64 (i : Int))] ∧ Fr [] w w_ ∧ SlR (Rp.slice Rp.str) (fun k => k < w.heap.size) w_ (.slice A ls.length c) ls ∧ (i ≤ ls.length) ∧ (∀ l ∈ ls.take i, Inc l)) (fun (i : Nat) => ls.length - i) 0 ?_ ?_
 ·
  refine ⟨(h9.eq 3 (v := (.int .i64 0)) (u := (.int .i64 (0 : Int))) (V.int_eq (by omega))).only _, hF, hL, (by omega), (by simp)⟩
 ·
  rintro i a10 w11 ⟨h12, hF_13, hL_14, hi, hall⟩
  have hfs15 := hF_13.size
  refine V.seq fun K16 k17 => ?_
  refine V.sr h12 [] 4 6 [(7, .bool (decide ((i : Int) < ((ls.length : Nat) : Int))))] fun a h20 => ?_
  refine V.cp h20 ((i : Int) < ((ls.length : Nat) : Int)) (fun ht21 => ?_) (fun ht21 => ?_)
  ·
   refine V.skip ?_
   refine V.then_n (k17 _ _ ?_)
   refine V.seq fun K22 k23 => ?_
   refine V.block ?_
   obtain ⟨g26, o27, hA28, hA28l, hA28z⟩ := hL_14.addr (by omega)
   obtain ⟨cs29, hok30, hE31⟩ := hL_14.els hA28 (i : Int) (by omega) (by omega)
   obtain ⟨A32, c33, rfl, hS34⟩ := slice_open hok30
   refine V.sg fun K24 k25 => ?_
   refine V.run h20 [(2, .ix g26 o27 ls.length c .i64 (i : Int) 1 hA28), (0, .l ⟨g26, o27 + (i : Int).toNat * 1, none⟩ (.slice A32 ((at_ (Rp.slice Rp.str) ls (i : Int)).length) c33) (hE31.at 0 rfl))] 4 10 12 [(13, .slice A32 ((at_ (Rp.slice Rp.str) ls (i : Int)).length) c33)] fun a h35 => ?_
   refine V.cl h35 (Go.Proofs.enters_of Try.func23 (by kernel_rfl) rfl) (rcheck_any w11 A32 c33 (at_ (Rp.slice Rp.str) ls (i : Int)) hS34.old ) ?_
   rintro _ w37 ⟨rfl, hF36⟩
   refine ⟨_, rfl, fun a h38 => ?_⟩
   have hsw37 := hF36.size
   have hF_39 := hF_13.new hF36
   have hL_40 := hL_14.fr0 hF36
   have hS34_41 := hS34.fr0 hF36
   have hE31_42 := hE31.fr0 hF36
   have hq36 := chkN_cases (at_ (Rp.slice Rp.str) ls (i : Int))
   refine V.re h38 [(0, .ne (chkN (at_ (Rp.slice Rp.str) ls (i : Int))) 0)] 1 0 [(15, .bool (decide (¬ (chkN (at_ (Rp.slice Rp.str) ls (i : Int))) = 0)))] fun a h43 => k25 _ _ ?_
   refine V.cp h43 (¬ (chkN (at_ (Rp.slice Rp.str) ls (i : Int))) = 0) (fun ht44 => ?_) (fun ht44 => ?_)
   ·
    refine V.sr h43 [] 1 0 [(2, .bool false)] fun a h47 => ?_
    refine V.ret ?_
    refine V.blk_r ?_
    refine V.then_r ?_
    refine V.then_r ?_
    refine V.blk_r ?_
    refine V.then_r ?_
    refine V.r1 h47 (.bool false) ?_
    exact ⟨congrArg (fun b => Ending.returned (Value.bool b)) (decide_eq_false (not_all (i := i) (by omega) (by (rcases chkN_cases (at_ (Rp.slice Rp.str) ls (i : Int)) with h | h; omega; exact h.2)))).symm, hF_39⟩
   ·
    refine V.skip ?_
    refine V.blk_n ?_
    refine V.then_n (k23 _ _ ?_)
    refine V.rr h43 [(1, .i ((i : Int) + 1))] 8 9 [(3, .int .i64 ((i : Int) + 1))] fun a h48 => ?_
    refine V.then_n ?_
    refine ⟨i + 1, by omega, ?_⟩
    refine ⟨(h48.eq 3 (v := (.int .i64 ((i : Int) + 1))) (u := (.int .i64 ((i + 1) : Int))) (V.int_eq (by omega))).only _, hF_39, hL_40, (by omega), (all_step hall (by omega) (by (rcases chkN_cases (at_ (Rp.slice Rp.str) ls (i : Int)) with h | h; exact h.2; omega)))⟩
  ·
   refine V.exit ?_
   refine V.then_e ?_
   refine V.then_e ?_
   refine V.blk_hit ?_
   refine V.then_n (k6 _ _ ?_)
   refine V.sr h20 [] 1 0 [(2, .bool true)] fun a h51 => ?_
   refine V.ret ?_
   refine V.r1 h51 (.bool true) ?_
   exact ⟨congrArg (fun b => Ending.returned (Value.bool b)) (decide_eq_true (all_take hall (by omega))).symm, hF_13⟩
set_option maxHeartbeats 4000000 in
set_option maxRecDepth 20000 in
theorem union_any (w : World) (A : Option Addr) (c : Nat) (ls : List (List ByteArray)) (hL : SlR (Rp.slice Rp.str) (fun k => k < w.heap.size) w (.slice A ls.length c) ls) (hf : ls.flatten.length ≤ 1048576) : Calls Try.prog 28 #[.slice A ls.length c] w (fun e w' => ∃ A' c', e = .returned (.tuple #[.slice A' (unS ls).length c', .int .i64 (chkL ls)]) ∧ OwR Rp.str NoZ w' w.heap.size 9 (.slice A' (unS ls).length c') (unS ls) ∧ Fr [] w w') := by
 have hF := Fr.refl [] w
 have hlen0 := hL.len_le
 refine V.en 13 Try.func28 fun a h1 => ?_
 refine V.sr h1 [] 2 3 [] fun a h4 => ?_
 refine V.seq fun K5 k6 => ?_
 refine V.sg fun K7 k8 => ?_
 refine V.run h4 [] 1 1 0 [(5, .slice A ls.length c)] fun a h9 => ?_
 refine V.cl h9 (Go.Proofs.enters_of Try.func38 (by kernel_rfl) rfl) (checks_any w _ _ ls hL.old) ?_
 rintro _ w12 ⟨rfl, hF10⟩
 refine ⟨_, rfl, fun a h13 => ?_⟩
 have hsw12 := hF10.size
 have hF_14 := hF.new hF10
 have hL_15 := hL.fr0 hF10
 have hq11 := chkL_cases ls
 refine V.re h13 [] 1 0 [(4, .int .i64 (chkL ls))] fun a h16 => k8 _ _ ?_
 refine V.sr h16 [(1, .ne (chkL ls) 0)] 7 7 [(8, .bool (decide (¬ (chkL ls) = 0)))] fun a h19 => ?_
 refine V.cp h19 (¬ (chkL ls) = 0) (fun ht20 => ?_) (fun ht20 => ?_)
 ·
  refine V.sr h19 [] 9 9 [(2, .slice none 0 0), (3, .int .i64 (chkL ls))] fun a h23 => ?_
  refine V.ret ?_
  refine V.then_r ?_
  refine V.r2 h23 (.slice none 0 0) (.int .i64 (chkL ls)) ?_
  rcases chkL_cases ls with ⟨hz0, hzi⟩ | ⟨hz0, hzi⟩
  · exfalso; omega
  · rw [show unS ls = [] from if_neg hzi]; exact ⟨none, 0, congrArg (fun e => Ending.returned (.tuple #[.slice none 0 0, .int .i64 e])) (by omega), OwR.nil .., hF_14⟩
 ·
  refine V.skip ?_
  refine V.then_n (k6 _ _ ?_)
  refine V.sg fun K24 k25 => ?_
  refine V.run h19 [] 1 1 0 [(10, .slice A ls.length c)] fun a h26 => ?_
  refine V.cl h26 (Go.Proofs.enters_of Try.func43 (by kernel_rfl) rfl) (concat_any w12 _ _ ls hL_15.old (by omega)) ?_
  rintro _ w31 ⟨A27, c28, rfl, hO29, hF30⟩
  refine ⟨_, rfl, fun a h32 => ?_⟩
  have hsw31 := hF30.size
  have hF_33 := hF_14.new hF30
  have hL_34 := hL_15.fr0 hF30
  have hO29q := hO29.rebase (base' := w.heap.size) (by omega)
  have hS35 := hO29q.is
  refine V.cl h32 (Go.Proofs.enters_of Try.func11 (by kernel_rfl) rfl) (of_any w31 A27 c28 ls.flatten hS35.old (by omega)) ?_
  rintro _ w40 ⟨A36, c37, rfl, hO38, hF39⟩
  refine ⟨_, rfl, fun a h41 => ?_⟩
  have hsw40 := hF39.size
  have hF_42 := hF_33.new hF39
  have hL_43 := hL_34.fr0 hF39
  have hO29q_44 := hO29q.fr0 hF39
  have hS35_45 := hS35.fr0 hF39
  have hO38q := hO38.rebase (base' := w.heap.size) (by omega)
  have hsl39 := setOf_len ls.flatten
  refine V.re h41 [] 1 0 [(2, .slice A36 ((setOf ls.flatten).length) c37), (3, .int .i64 0)] fun a h46 => k25 _ _ ?_
  refine V.ret ?_
  refine V.r2 h46 (.slice A36 ((setOf ls.flatten).length) c37) (.int .i64 0) ?_
  rcases chkL_cases ls with ⟨hz0, hzi⟩ | ⟨hz0, hzi⟩
  · rw [show unS ls = _ from if_pos hzi, hz0]; exact ⟨_, _, rfl, hO38q, hF_42⟩
  · exfalso; omega
set_option maxHeartbeats 4000000 in
set_option maxRecDepth 20000 in
theorem runion_any (w : World) (A : Option Addr) (c : Nat) (ls : List (List ByteArray)) (hL : SlR (Rp.slice Rp.str) (fun k => k < w.heap.size) w (.slice A ls.length c) ls) (hf : ls.flatten.length ≤ 1048576) : Calls Try.prog 29 #[.slice A ls.length c] w (fun e w' => ∃ A' c', e = .returned (.tuple #[.slice A' (unS ls).length c', .int .i64 (chkL ls)]) ∧ OwR Rp.str NoZ w' w.heap.size 9 (.slice A' (unS ls).length c') (unS ls) ∧ Fr [] w w') := by
 have hF := Fr.refl [] w
 have hlen0 := hL.len_le
 refine V.en 35 Try.func29 fun a h1 => ?_
 refine V.sr h1 [] 2 3 [] fun a h4 => ?_
 refine V.seq fun K5 k6 => ?_
 refine V.sg fun K7 k8 => ?_
 refine V.run h4 [] 1 1 0 [(7, .slice A ls.length c)] fun a h9 => ?_
 refine V.cl h9 (Go.Proofs.enters_of Try.func46 (by kernel_rfl) rfl) (rsets_any w _ _ ls hL.old) ?_
 rintro _ w11 ⟨rfl, hF10⟩
 refine ⟨_, rfl, fun a h12 => ?_⟩
 have hsw11 := hF10.size
 have hF_13 := hF.new hF10
 have hL_14 := hL.fr0 hF10
 refine V.re h12 [(0, .q (.bool (decide (¬ (∀ l ∈ ls, Inc l)))) V.t_not)] 1 0 [(9, .bool (decide (¬ (∀ l ∈ ls, Inc l))))] fun a h15 => k8 _ _ ?_
 refine V.cp h15 (¬ (∀ l ∈ ls, Inc l)) (fun ht16 => ?_) (fun ht16 => ?_)
 ·
  refine V.sr h15 [] 1 0 [(2, .slice none 0 0), (3, .int .i64 80)] fun a h19 => ?_
  refine V.ret ?_
  refine V.then_r ?_
  refine V.r2 h19 (.slice none 0 0) (.int .i64 80) ?_
  rcases chkL_cases ls with ⟨hz0, hzi⟩ | ⟨hz0, hzi⟩
  · exact absurd hzi ht16
  · rw [show unS ls = [] from if_neg hzi, hz0]; exact ⟨none, 0, rfl, OwR.nil .., hF_13⟩
 ·
  refine V.skip ?_
  refine V.then_n (k6 _ _ ?_)
  refine V.seq fun K20 k21 => ?_
  have hall0 : ∀ l ∈ ls, Inc l := (Decidable.of_not_not ht16)
  refine V.rr h15 [] 1 0 [(4, .slice none 0 0)] fun a h22 => ?_
  refine V.then_n (k21 _ _ ?_)
  refine V.seq fun K23 k24 => ?_
  refine V.sr h22 [] 1 0 [(5, .int .i64 0)] fun a h27 => ?_
  refine V.block ?_
  refine V.loop3 (fun (i : Nat) (A2 : Option Addr) (c2 : Nat) a_ w_ => En 35 [] a_ [(0, .slice A ls.length c), (4, .slice A2 ((setOf ((ls.take i).flatten)).length) c2), (5, .int .i64 (i : Int))] ∧ OwR Rp.str NoZ w_ w.heap.size 9 (.slice A2 ((setOf ((ls.take i).flatten)).length) c2) (setOf ((ls.take i).flatten)) ∧ Fr [] w w_ ∧ SlR (Rp.slice Rp.str) (fun k => k < w.heap.size) w_ (.slice A ls.length c) ls ∧ (i ≤ ls.length)) (fun (i : Nat) (A2 : Option Addr) (c2 : Nat) => ls.length - i) 0 none 0 ?_ ?_
  ·
   refine ⟨((h27.eq 4 (v := (.slice none 0 0)) (u := (.slice none ((setOf ((ls.take 0).flatten)).length) 0)) (V.sl_eq (by rw [List.take_zero, List.flatten_nil, setOf_nil]; rfl))).eq 5 (v := (.int .i64 0)) (u := (.int .i64 (0 : Int))) (V.int_eq (by omega))).only _, (by rw [List.take_zero, List.flatten_nil, setOf_nil]; exact OwR.nil ..), hF_13, hL_14, (by omega)⟩
  ·
   rintro i A2 c2 a28 w29 ⟨h30, hO_31, hF_32, hL_33, hi⟩
   have hfs34 := hF_32.size
   refine V.seq fun K35 k36 => ?_
   refine V.sr h30 [] 10 12 [(13, .bool (decide ((i : Int) < ((ls.length : Nat) : Int))))] fun a h39 => ?_
   refine V.cp h39 ((i : Int) < ((ls.length : Nat) : Int)) (fun ht40 => ?_) (fun ht40 => ?_)
   ·
    refine V.skip ?_
    refine V.then_n (k36 _ _ ?_)
    refine V.seq fun K41 k42 => ?_
    refine V.block ?_
    refine V.sr h39 [] 1 0 [(6, .int .i64 0)] fun a h45 => ?_
    refine V.block ?_
    refine V.loop3 (fun (k : Nat) (A3 : Option Addr) (c3 : Nat) a_ w_ => En 35 [] a_ [(0, .slice A ls.length c), (4, .slice A3 ((setOf ((ls.take i).flatten ++ (at_ (Rp.slice Rp.str) ls (i : Int)).take k)).length) c3), (5, .int .i64 (i : Int)), (6, .int .i64 (k : Int))] ∧ OwR Rp.str NoZ w_ w.heap.size 9 (.slice A3 ((setOf ((ls.take i).flatten ++ (at_ (Rp.slice Rp.str) ls (i : Int)).take k)).length) c3) (setOf ((ls.take i).flatten ++ (at_ (Rp.slice Rp.str) ls (i : Int)).take k)) ∧ Fr [] w w_ ∧ SlR (Rp.slice Rp.str) (fun k => k < w.heap.size) w_ (.slice A ls.length c) ls ∧ (k ≤ (at_ (Rp.slice Rp.str) ls (i : Int)).length)) (fun (k : Nat) (A3 : Option Addr) (c3 : Nat) => (at_ (Rp.slice Rp.str) ls (i : Int)).length - k) 0 A2 c2 ?_ ?_
    ·
     refine ⟨((h45.eq 4 (v := (.slice A2 ((setOf ((ls.take i).flatten)).length) c2)) (u := (.slice A2 ((setOf ((ls.take i).flatten ++ (at_ (Rp.slice Rp.str) ls (i : Int)).take 0)).length) c2)) (V.sl_eq (by rw [List.take_zero, List.append_nil]))).eq 6 (v := (.int .i64 0)) (u := (.int .i64 (0 : Int))) (V.int_eq (by omega))).only _, (by rw [List.take_zero, List.append_nil]; exact hO_31), hF_32, hL_33, (by omega)⟩
    ·
     rintro k A3 c3 a46 w47 ⟨h48, hO_49, hF_50, hL_51, hk⟩
     have hfs52 := hF_50.size
     have hsl := setOf_len ((ls.take i).flatten ++ (at_ (Rp.slice Rp.str) ls (i : Int)).take k)
     have hpl : ((ls.take i).flatten ++ (at_ (Rp.slice Rp.str) ls (i : Int)).take k).length = _ := List.length_append
     have htl := List.length_take_le k (at_ (Rp.slice Rp.str) ls (i : Int))
     have hft := flat_take_le ls (i + 1)
     have hfn : ((ls.take (i + 1)).flatten).length = _ := (congrArg List.length (flat_next (show i < ls.length by omega))).trans List.length_append
     refine V.seq fun K53 k54 => ?_
     obtain ⟨g57, o58, hA59, hA59l, hA59z⟩ := hL_51.addr (by omega)
     obtain ⟨cs60, hok61, hE62⟩ := hL_51.els hA59 (i : Int) (by omega) (by omega)
     obtain ⟨A63, c64, rfl, hS65⟩ := slice_open hok61
     refine V.sr h48 [(3, .ix g57 o58 ls.length c .i64 (i : Int) 1 hA59), (0, .l ⟨g57, o58 + (i : Int).toNat * 1, none⟩ (.slice A63 ((at_ (Rp.slice Rp.str) ls (i : Int)).length) c64) (hE62.at 0 rfl))] 16 21 [(22, .bool (decide ((k : Int) < (((at_ (Rp.slice Rp.str) ls (i : Int)).length : Nat) : Int))))] fun a h66 => ?_
     refine V.cp h66 ((k : Int) < (((at_ (Rp.slice Rp.str) ls (i : Int)).length : Nat) : Int)) (fun ht67 => ?_) (fun ht67 => ?_)
     ·
      refine V.skip ?_
      refine V.then_n (k54 _ _ ?_)
      refine V.seq fun K68 k69 => ?_
      refine V.block ?_
      have hst : insS (setOf ((ls.take i).flatten ++ (at_ (Rp.slice Rp.str) ls (i : Int)).take k)) (at_ Rp.str (at_ (Rp.slice Rp.str) ls (i : Int)) (k : Int)) = setOf ((ls.take i).flatten ++ (at_ (Rp.slice Rp.str) ls (i : Int)).take (k + 1)) := by rw [ins_set, take_one (by omega), List.append_assoc]
      obtain ⟨g70, o71, hA72, hA72l, hA72z⟩ := hS65.addr (by omega)
      obtain ⟨cs73, hok74, hE75⟩ := hS65.els hA72 (k : Int) (by omega) (by omega)
      obtain rfl : cs73 = [.string (at_ Rp.str (at_ (Rp.slice Rp.str) ls (i : Int)) (k : Int))] := hok74
      refine V.rg ?_
      refine V.run h66 [(3, .ix g57 o58 ls.length c .i64 (i : Int) 1 hA59), (0, .l ⟨g57, o58 + (i : Int).toNat * 1, none⟩ (.slice A63 ((at_ (Rp.slice Rp.str) ls (i : Int)).length) c64) (hE62.at 0 rfl)), (1, .ix g70 o71 ((at_ (Rp.slice Rp.str) ls (i : Int)).length) c64 .i64 (k : Int) 1 hA72), (0, .l ⟨g70, o71 + (k : Int).toNat * 1, none⟩ (.string (at_ Rp.str (at_ (Rp.slice Rp.str) ls (i : Int)) (k : Int))) (hE75.at 0 rfl))] 8 26 31 [(25, .slice A3 ((setOf ((ls.take i).flatten ++ (at_ (Rp.slice Rp.str) ls (i : Int)).take k)).length) c3), (32, .string (at_ Rp.str (at_ (Rp.slice Rp.str) ls (i : Int)) (k : Int)))] fun a h76 => ?_
      refine V.cl h76 (Go.Proofs.enters_of Try.func42 (by kernel_rfl) rfl) (put_any w47 w.heap.size A3 c3 (setOf ((ls.take i).flatten ++ (at_ (Rp.slice Rp.str) ls (i : Int)).take k)) hO_49 (by omega) (setOf_inc _) (by omega) (at_ Rp.str (at_ (Rp.slice Rp.str) ls (i : Int)) (k : Int))) ?_
      rintro _ w81 ⟨A77, c78, rfl, hO79, hF80⟩
      refine ⟨_, rfl, fun a h82 => ?_⟩
      have hsw81 := hF80.size
      have hF_83 := hF_50.new hF80
      have hL_84 := hL_51.fr0 hF80
      have hS65_85 := hS65.fr0 hF80
      have hE62_86 := hE62.fr0 hF80
      have hE75_87 := hE75.fr0 hF80
      refine V.re h82 [] 1 0 [(4, .slice A77 ((insS (setOf ((ls.take i).flatten ++ (at_ (Rp.slice Rp.str) ls (i : Int)).take k)) (at_ Rp.str (at_ (Rp.slice Rp.str) ls (i : Int)) (k : Int))).length) c78)] fun a h88 => ?_
      refine V.blk_n ?_
      refine V.then_n (k69 _ _ ?_)
      refine V.rr h88 [(1, .i ((k : Int) + 1))] 23 24 [(6, .int .i64 ((k : Int) + 1))] fun a h89 => ?_
      refine V.then_n ?_
      refine ⟨k + 1, A77, c78, by omega, ?_⟩
      refine ⟨((h89.eq 4 (v := (.slice A77 ((insS (setOf ((ls.take i).flatten ++ (at_ (Rp.slice Rp.str) ls (i : Int)).take k)) (at_ Rp.str (at_ (Rp.slice Rp.str) ls (i : Int)) (k : Int))).length) c78)) (u := (.slice A77 ((setOf ((ls.take i).flatten ++ (at_ (Rp.slice Rp.str) ls (i : Int)).take (k + 1))).length) c78)) (V.sl_eq (congrArg List.length hst))).eq 6 (v := (.int .i64 ((k : Int) + 1))) (u := (.int .i64 ((k + 1) : Int))) (V.int_eq (by omega))).only _, (by rw [← hst]; exact hO79), hF_83, hL_84, (by omega)⟩
     ·
      refine V.exit ?_
      refine V.then_e ?_
      refine V.then_e ?_
      refine V.blk_hit ?_
      refine V.blk_n ?_
      refine V.then_n (k42 _ _ ?_)
      refine V.rr h66 [(1, .i ((i : Int) + 1))] 14 15 [(5, .int .i64 ((i : Int) + 1))] fun a h90 => ?_
      refine V.then_n ?_
      have hfe : (ls.take i).flatten ++ (at_ (Rp.slice Rp.str) ls (i : Int)).take k = (ls.take (i + 1)).flatten := by rw [List.take_of_length_le (show (at_ (Rp.slice Rp.str) ls (i : Int)).length ≤ k by omega), flat_next (by omega)]
      refine ⟨i + 1, A3, c3, by omega, ?_⟩
      refine ⟨((h90.eq 4 (v := (.slice A3 ((setOf ((ls.take i).flatten ++ (at_ (Rp.slice Rp.str) ls (i : Int)).take k)).length) c3)) (u := (.slice A3 ((setOf ((ls.take (i + 1)).flatten)).length) c3)) (V.sl_eq (by rw [hfe]))).eq 5 (v := (.int .i64 ((i : Int) + 1))) (u := (.int .i64 ((i + 1) : Int))) (V.int_eq (by omega))).only _, (by rw [← hfe]; exact hO_49), hF_50, hL_51, (by omega)⟩
   ·
    refine V.exit ?_
    refine V.then_e ?_
    refine V.then_e ?_
    refine V.blk_hit ?_
    refine V.then_n (k24 _ _ ?_)
    refine V.sr h39 [] 34 34 [(2, .slice A2 ((setOf ((ls.take i).flatten)).length) c2), (3, .int .i64 0)] fun a h93 => ?_
    refine V.ret ?_
    refine V.r2 h93 (.slice A2 ((setOf ((ls.take i).flatten)).length) c2) (.int .i64 0) ?_
    rcases chkL_cases ls with ⟨hz0, hzi⟩ | ⟨hz0, hzi⟩
    · rw [List.take_of_length_le (show ls.length ≤ i by omega)] at hO_31 ⊢
      rw [show unS ls = _ from if_pos hzi, hz0]; exact ⟨_, _, rfl, hO_31, hF_32⟩
    · exact absurd hall0 hzi
end Go.Proofs.Ytkepojdmgdgaoaa
