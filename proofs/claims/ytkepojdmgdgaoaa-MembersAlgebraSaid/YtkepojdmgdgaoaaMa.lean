/- Walks: draws, few, checks, In, Same. -/
import Derived.Test.YtkepojdmgdgaoaaProg
import Derived.Test.YtkepojdmgdgaoaaLb
namespace Go.Proofs.Ytkepojdmgdgaoaa
open Go.V Go.Base
open Go.RowKit (Below)
attribute [local irreducible] Act.put Act.eval
set_option linter.unusedVariables false
set_option linter.unusedSimpArgs false
theorem info9 : (Try.prog.info? 9).map (fun i => (i.zero, i.size, i.bytes)) = some (some (.string ⟨#[]⟩), 1, 16) := by kernel_rfl
theorem info22 : (Try.prog.info? 22).map (fun i => (i.zero, i.size, i.bytes)) = some (some (.slice none 0 0), 1, 24) := by kernel_rfl
/-- So many neighbours are in order. -/
def Adj (l : List ByteArray) (j : Nat) : Prop := ∀ (i : Nat) (x y : ByteArray), i + 1 < j → l[i]? = some x → l[i + 1]? = some y → slt x y
theorem adj_step {l : List ByteArray} {j : Nat} (h : Adj l j) (h1 : 1 ≤ j) (h2 : j < l.length) (hs : slt (at_ Rp.str l ((j : Int) - 1)) (at_ Rp.str l (j : Int))) : Adj l (j + 1) := by
  intro i x y hi hx hy
  rcases Nat.lt_or_ge (i + 1) j with hlt | hge
  · exact h i x y hlt hx hy
  · have hij : i + 1 = j := by omega
    have e1 := at_some Rp.str (xs := l) (i := (j : Int) - 1) (by omega) (by omega)
    have e2 := at_some Rp.str (xs := l) (i := (j : Int)) (by omega) (by omega)
    rw [show ((j : Int) - 1).toNat = i by omega, hx] at e1
    rw [show ((j : Int)).toNat = i + 1 by omega, hy] at e2
    injection e1 with e1
    injection e2 with e2
    rw [e1, e2]; exact hs
theorem adj_inc {l : List ByteArray} {j : Nat} (h : Adj l j) (hj : l.length ≤ j) : Inc l :=
  inc_of_adj fun i x y hx hy => h i x y (by have := (List.getElem?_eq_some_iff.1 hy).1; omega) hx hy
theorem adj_not {l : List ByteArray} {j : Nat} (h1 : 1 ≤ j) (h2 : j < l.length) (hs : ¬ slt (at_ Rp.str l ((j : Int) - 1)) (at_ Rp.str l (j : Int))) : ¬ Inc l := fun h => hs (by
  have e1 := at_some Rp.str (xs := l) (i := (j : Int) - 1) (by omega) (by omega)
  have e2 := at_some Rp.str (xs := l) (i := (j : Int)) (by omega) (by omega)
  refine h.adj (i := j - 1) ?_ ?_
  · rw [← e1]; congr 1; omega
  · rw [← e2]; congr 1; omega)
def chkL (ls : List (List ByteArray)) : Int := if ∀ l ∈ ls, Inc l then 0 else 80
theorem chkL_one (l : List ByteArray) : chkL [l] = chkN l := by unfold chkL chkN; simp
theorem chkN_cases (l : List ByteArray) : (chkN l = 0 ∧ Inc l) ∨ (chkN l = 80 ∧ ¬ Inc l) := by
  by_cases h : Inc l
  · exact .inl ⟨chk_inc h, h⟩
  · exact .inr ⟨chk_not h, h⟩
theorem chkL_cases (ls : List (List ByteArray)) : (chkL ls = 0 ∧ ∀ l ∈ ls, Inc l) ∨ (chkL ls = 80 ∧ ¬ ∀ l ∈ ls, Inc l) := by
  by_cases h : ∀ l ∈ ls, Inc l
  · exact .inl ⟨if_pos h, h⟩
  · exact .inr ⟨if_neg h, h⟩
theorem all_step {ls : List (List ByteArray)} {i : Nat} (h : ∀ l ∈ ls.take i, Inc l) (hi : i < ls.length) (hx : Inc (at_ (Rp.slice Rp.str) ls (i : Int))) : ∀ l ∈ ls.take (i + 1), Inc l := by
  intro l hl
  rw [List.take_add_one, List.mem_append] at hl
  rcases hl with hl | hl
  · exact h l hl
  · have e := at_some (Rp.slice Rp.str) (xs := ls) (i := (i : Int)) (by omega) (by omega)
    rw [Int.toNat_natCast] at e
    rw [e] at hl
    simp at hl
    rw [hl]; exact hx
theorem chkL_all {ls : List (List ByteArray)} {i : Nat} (h : ∀ l ∈ ls.take i, Inc l) (hi : ls.length ≤ i) : chkL ls = 0 := if_pos (by rw [List.take_of_length_le hi] at h; exact h)
theorem chkL_not {ls : List (List ByteArray)} {i : Nat} (hi : i < ls.length) (h : ¬ Inc (at_ (Rp.slice Rp.str) ls (i : Int))) : chkL ls = 80 :=
  if_neg fun hq => h (hq _ (List.mem_of_getElem? (at_some (Rp.slice Rp.str) (xs := ls) (i := (i : Int)) (by omega) (by omega))))
theorem in_step {l : List ByteArray} {i : Nat} {x : ByteArray} (h : x ∉ l.take i) (hi : i < l.length) (hx : ¬ at_ Rp.str l (i : Int) = x) : x ∉ l.take (i + 1) := by
  intro hm
  rw [List.take_add_one, List.mem_append] at hm
  rcases hm with hm | hm
  · exact h hm
  · have e := at_some Rp.str (xs := l) (i := (i : Int)) (by omega) (by omega)
    rw [Int.toNat_natCast] at e
    rw [e] at hm
    simp at hm
    exact hx hm.symm
theorem in_at {l : List ByteArray} {i : Nat} {x : ByteArray} (hi : i < l.length) (hx : at_ Rp.str l (i : Int) = x) : x ∈ l := by
  rw [← hx]; exact List.mem_of_getElem? (at_some Rp.str (xs := l) (i := (i : Int)) (by omega) (by omega))
theorem own_cases {w : World} {base n c : Nat} {e : TypeId} {A : Option Addr} {l : List ByteArray} (h : OwR Rp.str NoZ w base e (.slice A n c) l) : (A = none ∧ c = 0 ∧ n = 0) ∨ ∃ g, A = some ⟨g, 0, none⟩ := by
  rcases h.caseS with ⟨he, _⟩ | ⟨g, c', he⟩
  · injection he with e1 e2 e3; exact .inl ⟨e1, e3, e2⟩
  · injection he with e1 e2 e3; exact .inr ⟨g, e1⟩
theorem flat_take {α : Type} {xs : List (List α)} {i : Nat} (h : i < xs.length) : (xs.take (i + 1)).flatten = (xs.take i).flatten ++ xs.getD i [] := by
  rw [List.take_add_one, List.flatten_append, List.getD_eq_getElem?_getD, List.getElem?_eq_getElem h]
  simp
theorem flat_take_le {α : Type} (xs : List (List α)) (i : Nat) : (xs.take i).flatten.length ≤ xs.flatten.length := by
  conv => rhs; rw [← List.take_append_drop i xs]
  rw [List.flatten_append, List.length_append]; omega
theorem sl_two {Z Z' : Nat → Prop} {w : World} {b : Nat} {v u : Value} {l m : List ByteArray} (hB : Blk w b [v, u] 22) (hS : SlR Rp.str Z w v l) (hS' : SlR Rp.str Z' w u m) : SlR (Rp.slice Rp.str) (fun _ => True) w (.slice (some ⟨b, 0, none⟩) 2 2) [l, m] := by
  refine ⟨_, 2, rfl, by simp, by simp, fun i x hi => ?_⟩
  match i with
  | 0 =>
    simp at hi
    subst hi
    exact ⟨b, 0, [v], rfl, trivial, hB.lt, ⟨v, rfl, hS.zone fun _ _ _ => trivial⟩, fun j u hj => by
      cases j with
      | zero => simp at hj; subst hj; exact hB.at 0 rfl
      | succ j => simp at hj⟩
  | 1 =>
    simp at hi
    subst hi
    exact ⟨b, 0, [u], rfl, trivial, hB.lt, ⟨u, rfl, hS'.zone fun _ _ _ => trivial⟩, fun j u hj => by
      cases j with
      | zero => simp at hj; subst hj; exact hB.at 1 rfl
      | succ j => simp at hj⟩
  | i + 2 => simp at hi
/-- A set with more. -/
def addS (l m : List ByteArray) : List ByteArray := if Inc l then setOf (l ++ m) else []
def addN (l m : List ByteArray) : Int := if Inc l then ((setOf (l ++ m)).length : Int) - l.length else 0
/-- The member of a draw. -/
def pickB (l : List ByteArray) : Bool := decide (Inc l ∧ l.length ≠ 0)
def pickS (l : List ByteArray) (d : Nat) : ByteArray := if Inc l ∧ l.length ≠ 0 then l.getD (d % l.length) ⟨#[]⟩ else ⟨#[]⟩
theorem pick_no {l : List ByteArray} (h : ¬ Inc l ∨ l.length = 0) (d : Nat) : pickB l = false ∧ pickS l d = ⟨#[]⟩ := by
  have hn : ¬ (Inc l ∧ l.length ≠ 0) := fun q => h.elim (fun h => h q.1) (fun h => q.2 h)
  exact ⟨decide_eq_false hn, if_neg hn⟩
theorem pick_yes {l : List ByteArray} (h : Inc l) (h0 : l.length ≠ 0) (d : Nat) : pickB l = true ∧ pickS l d = l.getD (d % l.length) ⟨#[]⟩ := ⟨decide_eq_true ⟨h, h0⟩, if_pos ⟨h, h0⟩⟩
/-! ### Some -/
theorem w_subN {n k : Nat} (h : k ≤ n) (hn : n ≤ 9223372036854775807) : Value.int .u64 (IntKind.u64.wrap ((n : Int) - (k : Int))) = .int .u64 ((n - k : Nat) : Int) := by
  rw [← Int.natCast_sub h]
  exact w_u64 (by omega) (by omega)
theorem w_remI {a b : Nat} (hb : 0 < b) (h : b ≤ 9223372036854775807) : Value.int .i64 (IntKind.i64.wrap ((a % b : Nat) : Int)) = .int .i64 ((a % b : Nat) : Int) := by
  have := Nat.mod_lt a hb
  generalize a % b = q at *
  exact w_i64 (by omega) (by omega)
theorem w_drw {n k d : Nat} (i : Nat) (hi : i = 0) (h : k < n) (hn : n ≤ 9223372036854775807) : Value.int .i64 (IntKind.i64.wrap ((k : Int) + ((nxtN (i + k) d % (n - k) : Nat) : Int))) = .int .i64 ((drw n k d : Nat) : Int) := by
  subst hi
  have := drw_lt (d := d) h
  rw [← Int.natCast_add, Nat.zero_add]
  show Value.int .i64 (IntKind.i64.wrap ((drw n k d : Nat) : Int)) = _
  exact w_i64 (by omega) (by omega)
theorem w_drw0 {n k d : Nat} (h : k < n) (hn : n ≤ 9223372036854775807) : Value.int .i64 (IntKind.i64.wrap ((k : Int) + ((nxtN k d % (n - k) : Nat) : Int))) = .int .i64 ((drw n k d : Nat) : Int) := by
  have := w_drw (d := d) 0 rfl h hn
  rwa [Nat.zero_add] at this
theorem some_err {l : List ByteArray} {n : Int} (h : someE l n ≠ 0 ∨ l.length = 0) (d : Nat) : someR l n d = [] := if_neg fun q => h.elim (fun h => h q.1) (fun h => q.2 (List.eq_nil_of_length_eq_zero h))
theorem someE_80 {l : List ByteArray} (h : ¬ Inc l) (n : Int) : someE l n = 80 := if_pos h
theorem someE_1 {l : List ByteArray} (h : Inc l) {n : Int} (hn : n < -1024 ∨ n > 65536) : someE l n = 1 := by unfold someE; rw [if_neg (fun q => q h), if_pos hn]
theorem someE_0 {l : List ByteArray} (h : Inc l) {n : Int} (h1 : ¬ n < -1024) (h2 : ¬ n > 65536) : someE l n = 0 := by unfold someE; rw [if_neg (fun q => q h), if_neg (fun q => q.elim h1 h2)]
theorem some_neg {l : List ByteArray} {n : Int} {d i : Nat} (hE : someE l n = 0) (hl : ¬ l.length = 0) (h0 : n < 0) (hi : (i : Int) = -n) : someR l n d = negL l d i := by
  unfold someR someL
  rw [if_pos ⟨hE, fun q => hl (by rw [q]; rfl)⟩, if_pos h0]
  congr 1; omega
theorem some_pos {l : List ByteArray} {n : Int} {d m : Nat} (hE : someE l n = 0) (hl : ¬ l.length = 0) (h0 : ¬ n < 0) (hm : (m : Int) = min n (l.length : Int)) : someR l n d = outL l d m := by
  unfold someR someL
  rw [if_pos ⟨hE, fun q => hl (by rw [q]; rfl)⟩, if_neg h0]
  congr 1; omega
/-! ### A set of three -/
def awA : List ByteArray := [⟨#[97]⟩, ⟨#[98]⟩]
def awB : List ByteArray := [⟨#[97]⟩, ⟨#[98]⟩, ⟨#[99]⟩]
theorem awA_inc : Inc awA := by decide +kernel
theorem awB_inc : Inc awB := by decide +kernel
theorem aw_of : setOf [⟨#[98]⟩, ⟨#[97]⟩, ⟨#[98]⟩] = awA := inc_eq (setOf_inc _) awA_inc fun x => by
  rw [setOf_mem]; simp only [awA, List.mem_cons, List.not_mem_nil, or_false]
  generalize (x = (⟨#[97]⟩ : ByteArray)) = p
  generalize (x = (⟨#[98]⟩ : ByteArray)) = q
  by_cases p <;> by_cases q <;> simp [*]
theorem aw_add : addS awA [⟨#[98]⟩, ⟨#[99]⟩, ⟨#[99]⟩] = awB := by
  unfold addS
  rw [if_pos awA_inc]
  refine inc_eq (setOf_inc _) awB_inc fun x => ?_
  rw [setOf_mem]; simp only [awA, awB, List.mem_append, List.mem_cons, List.not_mem_nil, or_false]
  generalize (x = (⟨#[97]⟩ : ByteArray)) = p
  generalize (x = (⟨#[98]⟩ : ByteArray)) = q
  generalize (x = (⟨#[99]⟩ : ByteArray)) = r
  by_cases p <;> by_cases q <;> by_cases r <;> simp [*]
theorem aw_addN : addN awA [⟨#[98]⟩, ⟨#[99]⟩, ⟨#[99]⟩] = 1 := by
  have h := aw_add
  unfold addS at h
  unfold addN
  rw [if_pos awA_inc] at h ⊢
  rw [h]; rfl
def awC : List ByteArray := [⟨#[99]⟩, ⟨#[98]⟩]
theorem aw_some : someR awB 2 5 = awC := by decide +kernel
theorem aw_someE : someE awB 2 = 0 := by decide +kernel
set_option maxHeartbeats 4000000 in
set_option maxRecDepth 20000 in
theorem next_any (w : World) (d : Nat) : Calls Try.prog 39 #[.int .u64 (d : Int)] w (fun e w' => e = .returned (.int .u64 ((nxt d : Nat) : Int)) ∧ Fr [] w w') := by
 have hF := Fr.refl [] w
 refine V.en 6 Try.func39 fun a h1 => ?_
 refine V.sr h1 [] 2 2 [] fun a h4 => ?_
 refine V.sr h4 [] 3 5 [(2, .int .u64 (IntKind.u64.wrap ((IntKind.u64.wrap ((d : Int) * 6364136223846793005)) + 1442695040888963407)))] fun a h7 => ?_
 refine V.ret ?_
 refine V.r1 h7 (.int .u64 (IntKind.u64.wrap ((IntKind.u64.wrap ((d : Int) * 6364136223846793005)) + 1442695040888963407))) ?_
 exact ⟨congrArg Ending.returned (w_nxt d), hF⟩
set_option maxHeartbeats 4000000 in
set_option maxRecDepth 20000 in
theorem rnext_any (w : World) (d : Nat) : Calls Try.prog 40 #[.int .u64 (d : Int)] w (fun e w' => e = .returned (.int .u64 ((nxt d : Nat) : Int)) ∧ Fr [] w w') := by
 have hF := Fr.refl [] w
 refine V.en 6 Try.func40 fun a h1 => ?_
 refine V.sr h1 [] 2 2 [] fun a h4 => ?_
 refine V.sr h4 [] 3 5 [(2, .int .u64 (IntKind.u64.wrap ((IntKind.u64.wrap ((d : Int) * 6364136223846793005)) + 1442695040888963407)))] fun a h7 => ?_
 refine V.ret ?_
 refine V.r1 h7 (.int .u64 (IntKind.u64.wrap ((IntKind.u64.wrap ((d : Int) * 6364136223846793005)) + 1442695040888963407))) ?_
 exact ⟨congrArg Ending.returned (w_nxt d), hF⟩
set_option maxHeartbeats 4000000 in
set_option maxRecDepth 20000 in
theorem few_any (w : World) (Al : Option Addr) (cl : Nat) (l : List ByteArray) (hSl : SlR Rp.str (fun k => k < w.heap.size) w (.slice Al l.length cl) l) : Calls Try.prog 12 #[.slice Al l.length cl] w (fun e w' => e = .returned (.slice Al (l.take 200).length cl) ∧ Fr [] w w') := by
 have hF := Fr.refl [] w
 have hcp := hSl.cp
 refine V.en 9 Try.func12 fun a h1 => ?_
 refine V.sr h1 [] 2 2 [] fun a h4 => ?_
 refine V.seq fun K5 k6 => ?_
 refine V.sr h4 [] 3 4 [(5, .bool (decide (((l.length : Nat) : Int) > 200)))] fun a h9 => ?_
 refine V.cp h9 (((l.length : Nat) : Int) > 200) (fun ht10 => ?_) (fun ht10 => ?_)
 ·
  have hS13 := hSl.tk (i := 200) (by omega)
  refine V.sr h9 [(1, .cut0 Al l.length cl 200 200 1)] 6 7 [(2, .slice Al 200 cl)] fun a h14 => ?_
  refine V.ret ?_
  refine V.then_r ?_
  refine V.r1 h14 (.slice Al 200 cl) ?_
  exact ⟨congrArg Ending.returned (sl_eq (by rw [List.length_take]; omega)), hF⟩
 ·
  refine V.skip ?_
  refine V.then_n (k6 _ _ ?_)
  refine V.sr h9 [] 8 8 [(2, .slice Al l.length cl)] fun a h17 => ?_
  refine V.ret ?_
  refine V.r1 h17 (.slice Al l.length cl) ?_
  exact ⟨congrArg Ending.returned (sl_eq (by rw [List.length_take]; omega)), hF⟩
set_option maxHeartbeats 4000000 in
set_option maxRecDepth 20000 in
theorem checks_any (w : World) (A : Option Addr) (c : Nat) (ls : List (List ByteArray)) (hL : SlR (Rp.slice Rp.str) (fun k => k < w.heap.size) w (.slice A ls.length c) ls) : Calls Try.prog 38 #[.slice A ls.length c] w (fun e w' => e = .returned (.int .i64 (chkL ls)) ∧ Fr [] w w') := by
 have hF := Fr.refl [] w
 have hlen0 := hL.len_le
 refine V.en 29 Try.func38 fun a h1 => ?_
 refine V.sr h1 [] 2 2 [] fun a h4 => ?_
 refine V.seq fun K5 k6 => ?_
 refine V.sr h4 [] 1 0 [(6, .slice A ls.length c), (7, .int .i64 ((ls.length : Nat) : Int)), (8, .int .i64 0)] fun a h9 => ?_
 refine V.block ?_
 refine V.loop1 (fun (i : Nat) a_ w_ => En 29 [] a_ [(6, .slice A ls.length c), (7, .int .i64 ((ls.length : Nat) : Int)), (8, .int .i64 (i : Int))] ∧ Fr [] w w_ ∧ SlR (Rp.slice Rp.str) (fun k => k < w.heap.size) w_ (.slice A ls.length c) ls ∧ (i ≤ ls.length) ∧ (∀ l ∈ ls.take i, Inc l)) (fun (i : Nat) => ls.length - i) 0 ?_ ?_
 ·
  refine ⟨(h9.eq 8 (v := (.int .i64 0)) (u := (.int .i64 (0 : Int))) (V.int_eq (by omega))).only _, hF, hL, (by omega), (by simp)⟩
 ·
  rintro i a10 w11 ⟨h12, hF_13, hL_14, hi, hall⟩
  have hfs15 := hF_13.size
  have hln16 := hL_14.len_le
  refine V.sr h12 [] 1 0 [(9, .bool (decide ((i : Int) < ((ls.length : Nat) : Int))))] fun a h19 => ?_
  refine V.seq fun K20 k21 => ?_
  refine V.cp h19 ((i : Int) < ((ls.length : Nat) : Int)) (fun ht22 => ?_) (fun ht22 => ?_)
  ·
   refine V.skip ?_
   refine V.then_n (k21 _ _ ?_)
   refine V.seq fun K23 k24 => ?_
   refine V.block ?_
   obtain ⟨g27, o28, hA29, hA29l, hA29z⟩ := hL_14.addr (by omega)
   obtain ⟨cs30, hok31, hE32⟩ := hL_14.els hA29 (i : Int) (by omega) (by omega)
   obtain ⟨A33, c34, rfl, hS35⟩ := slice_open hok31
   refine V.sr h19 [(0, .ix g27 o28 ls.length c .i64 (i : Int) 1 hA29), (0, .l ⟨g27, o28 + (i : Int).toNat * 1, none⟩ (.slice A33 ((at_ (Rp.slice Rp.str) ls (i : Int)).length) c34) (hE32.at 0 rfl))] 10 11 [(4, .slice A33 ((at_ (Rp.slice Rp.str) ls (i : Int)).length) c34)] fun a h36 => ?_
   refine V.sr h36 [] 1 0 [(5, .int .i64 1)] fun a h39 => ?_
   refine V.block ?_
   refine V.loop1 (fun (j : Nat) a_ w_ => En 29 [] a_ [(4, .slice A33 ((at_ (Rp.slice Rp.str) ls (i : Int)).length) c34), (5, .int .i64 (j : Int)), (6, .slice A ls.length c), (7, .int .i64 ((ls.length : Nat) : Int)), (8, .int .i64 (i : Int))] ∧ Fr [] w w_ ∧ SlR (Rp.slice Rp.str) (fun k => k < w.heap.size) w_ (.slice A ls.length c) ls ∧ SlR Rp.str (fun k => k < w.heap.size) w_ (.slice A33 ((at_ (Rp.slice Rp.str) ls (i : Int)).length) c34) (at_ (Rp.slice Rp.str) ls (i : Int)) ∧ (1 ≤ j ∧ j ≤ (at_ (Rp.slice Rp.str) ls (i : Int)).length + 1) ∧ (Adj (at_ (Rp.slice Rp.str) ls (i : Int)) j)) (fun (j : Nat) => (at_ (Rp.slice Rp.str) ls (i : Int)).length + 1 - j) 1 ?_ ?_
   ·
    refine ⟨(h39.eq 5 (v := (.int .i64 1)) (u := (.int .i64 (1 : Int))) (V.int_eq (by omega))).only _, hF_13, hL_14, hS35, (by omega), (fun a x y h => by omega)⟩
   ·
    rintro j a40 w41 ⟨h42, hF_43, hL_44, hS35_45, hj, hadj⟩
    have hfs46 := hF_43.size
    have hln47 := hL_44.len_le
    have hln48 := hS35_45.len_le
    refine V.seq fun K49 k50 => ?_
    refine V.sr h42 [] 12 14 [(15, .bool (decide ((j : Int) < (((at_ (Rp.slice Rp.str) ls (i : Int)).length : Nat) : Int))))] fun a h53 => ?_
    refine V.cp h53 ((j : Int) < (((at_ (Rp.slice Rp.str) ls (i : Int)).length : Nat) : Int)) (fun ht54 => ?_) (fun ht54 => ?_)
    ·
     refine V.skip ?_
     refine V.then_n (k50 _ _ ?_)
     refine V.seq fun K55 k56 => ?_
     refine V.block ?_
     refine V.seq fun K57 k58 => ?_
     refine V.pl [([0,1,2,3,4,5,6,7,8,9],none)] fun w59 hF60 hsw59 => ?_
     have hF_61 := hF_43.new hF60
     have hL_62 := hL_44.fr0 hF60
     have hS35_63 := hS35_45.fr0 hF60
     obtain ⟨g64, o65, hA66, hA66l, hA66z⟩ := hS35_63.addr (by omega)
     obtain ⟨cs67, hok68, hE69⟩ := hS35_63.els hA66 ((j : Int) - 1) (by omega) (by omega)
     obtain rfl : cs67 = [.string (at_ Rp.str (at_ (Rp.slice Rp.str) ls (i : Int)) ((j : Int) - 1))] := hok68
     obtain ⟨cs70, hok71, hE72⟩ := hS35_63.els hA66 (j : Int) (by omega) (by omega)
     obtain rfl : cs70 = [.string (at_ Rp.str (at_ (Rp.slice Rp.str) ls (i : Int)) (j : Int))] := hok71
     refine V.pz h53 [(2, .i ((j : Int) - 1)), (0, .ix g64 o65 ((at_ (Rp.slice Rp.str) ls (i : Int)).length) c34 .i64 ((j : Int) - 1) 1 hA66), (0, .l ⟨g64, o65 + ((j : Int) - 1).toNat * 1, none⟩ (.string (at_ Rp.str (at_ (Rp.slice Rp.str) ls (i : Int)) ((j : Int) - 1))) (hE69.at 0 rfl)), (2, .ix g64 o65 ((at_ (Rp.slice Rp.str) ls (i : Int)).length) c34 .i64 (j : Int) 1 hA66), (0, .l ⟨g64, o65 + (j : Int).toNat * 1, none⟩ (.string (at_ Rp.str (at_ (Rp.slice Rp.str) ls (i : Int)) (j : Int))) (hE72.at 0 rfl)), (0, .q (.bool (decide (¬ slt (at_ Rp.str (at_ (Rp.slice Rp.str) ls (i : Int)) ((j : Int) - 1)) (at_ Rp.str (at_ (Rp.slice Rp.str) ls (i : Int)) (j : Int))))) V.t_sgeq)] 18 26 [(27, .bool (decide (¬ slt (at_ Rp.str (at_ (Rp.slice Rp.str) ls (i : Int)) ((j : Int) - 1)) (at_ Rp.str (at_ (Rp.slice Rp.str) ls (i : Int)) (j : Int)))))] fun a h73 => k58 _ _ ?_
     refine V.cp h73 (¬ slt (at_ Rp.str (at_ (Rp.slice Rp.str) ls (i : Int)) ((j : Int) - 1)) (at_ Rp.str (at_ (Rp.slice Rp.str) ls (i : Int)) (j : Int))) (fun ht74 => ?_) (fun ht74 => ?_)
     ·
      refine V.sr h73 [] 1 0 [(2, .int .i64 80)] fun a h77 => ?_
      refine V.ret ?_
      refine V.blk_r ?_
      refine V.then_r ?_
      refine V.then_r ?_
      refine V.blk_r ?_
      refine V.blk_r ?_
      refine V.then_r ?_
      refine V.then_r ?_
      refine V.blk_r ?_
      refine V.then_r ?_
      refine V.r1 h77 (.int .i64 80) ?_
      exact ⟨congrArg Ending.returned (int_eq (chkL_not (by omega) (adj_not (by omega) (by omega) ht74)).symm), hF_61⟩
     ·
      refine V.skip ?_
      refine V.blk_n ?_
      refine V.then_n (k56 _ _ ?_)
      refine V.rr h73 [(1, .i ((j : Int) + 1))] 16 17 [(5, .int .i64 ((j : Int) + 1))] fun a h78 => ?_
      refine V.then_n ?_
      refine ⟨j + 1, by omega, ?_⟩
      refine ⟨(h78.eq 5 (v := (.int .i64 ((j : Int) + 1))) (u := (.int .i64 ((j + 1) : Int))) (V.int_eq (by omega))).only _, hF_61, hL_62, hS35_63, (by omega), (adj_step hadj (by omega) (by omega) (Decidable.of_not_not ht74))⟩
    ·
     refine V.exit ?_
     refine V.then_e ?_
     refine V.then_e ?_
     refine V.blk_hit ?_
     refine V.blk_n ?_
     refine V.then_n (k24 _ _ ?_)
     refine V.rr h53 [(0, .i ((i : Int) + 1))] 28 28 [(8, .int .i64 ((i : Int) + 1))] fun a h79 => ?_
     refine V.then_n ?_
     refine ⟨i + 1, by omega, ?_⟩
     refine ⟨(h79.eq 8 (v := (.int .i64 ((i : Int) + 1))) (u := (.int .i64 ((i + 1) : Int))) (V.int_eq (by omega))).only _, hF_43, hL_44, (by omega), (all_step hall (by omega) (adj_inc hadj (by omega)))⟩
  ·
   refine V.exit ?_
   refine V.then_e ?_
   refine V.then_e ?_
   refine V.blk_hit ?_
   refine V.then_n (k6 _ _ ?_)
   refine V.sr h19 [] 1 0 [(2, .int .i64 0)] fun a h82 => ?_
   refine V.ret ?_
   refine V.r1 h82 (.int .i64 0) ?_
   exact ⟨congrArg Ending.returned (int_eq (chkL_all hall (by omega)).symm), hF_13⟩
set_option maxHeartbeats 4000000 in
set_option maxRecDepth 20000 in
theorem rcheck_any (w : World) (Al : Option Addr) (cl : Nat) (l : List ByteArray) (hSl : SlR Rp.str (fun k => k < w.heap.size) w (.slice Al l.length cl) l) : Calls Try.prog 23 #[.slice Al l.length cl] w (fun e w' => e = .returned (.int .i64 (chkN l)) ∧ Fr [] w w') := by
 have hF := Fr.refl [] w
 have hlen0 := hSl.len_le
 refine V.en 20 Try.func23 fun a h1 => ?_
 refine V.sr h1 [] 2 2 [] fun a h4 => ?_
 refine V.seq fun K5 k6 => ?_
 refine V.sr h4 [] 1 0 [(3, .int .i64 1)] fun a h9 => ?_
 refine V.block ?_
 refine V.loop1 (fun (j : Nat) a_ w_ => En 20 [] a_ [(0, .slice Al l.length cl), (3, .int .i64 (j : Int))] ∧ Fr [] w w_ ∧ SlR Rp.str (fun k => k < w.heap.size) w_ (.slice Al l.length cl) l ∧ (1 ≤ j ∧ j ≤ l.length + 1) ∧ (Adj l j)) (fun (j : Nat) => l.length + 1 - j) 1 ?_ ?_
 ·
  refine ⟨(h9.eq 3 (v := (.int .i64 1)) (u := (.int .i64 (1 : Int))) (V.int_eq (by omega))).only _, hF, hSl, (by omega), (fun a x y h => by omega)⟩
 ·
  rintro j a10 w11 ⟨h12, hF_13, hSl_14, hj, hadj⟩
  have hfs15 := hF_13.size
  refine V.seq fun K16 k17 => ?_
  refine V.sr h12 [] 4 6 [(7, .bool (decide ((j : Int) < ((l.length : Nat) : Int))))] fun a h20 => ?_
  refine V.cp h20 ((j : Int) < ((l.length : Nat) : Int)) (fun ht21 => ?_) (fun ht21 => ?_)
  ·
   refine V.skip ?_
   refine V.then_n (k17 _ _ ?_)
   refine V.seq fun K22 k23 => ?_
   refine V.block ?_
   refine V.seq fun K24 k25 => ?_
   refine V.pl [([0,1,2,3,4,5,6,7,8,9],none)] fun w26 hF27 hsw26 => ?_
   have hF_28 := hF_13.new hF27
   have hSl_29 := hSl_14.fr0 hF27
   obtain ⟨g30, o31, hA32, hA32l, hA32z⟩ := hSl_29.addr (by omega)
   obtain ⟨cs33, hok34, hE35⟩ := hSl_29.els hA32 (j : Int) (by omega) (by omega)
   obtain rfl : cs33 = [.string (at_ Rp.str l (j : Int))] := hok34
   obtain ⟨cs36, hok37, hE38⟩ := hSl_29.els hA32 ((j : Int) - 1) (by omega) (by omega)
   obtain rfl : cs36 = [.string (at_ Rp.str l ((j : Int) - 1))] := hok37
   refine V.pz h20 [(2, .ix g30 o31 l.length cl .i64 (j : Int) 1 hA32), (0, .l ⟨g30, o31 + (j : Int).toNat * 1, none⟩ (.string (at_ Rp.str l (j : Int))) (hE35.at 0 rfl)), (2, .i ((j : Int) - 1)), (0, .ix g30 o31 l.length cl .i64 ((j : Int) - 1) 1 hA32), (0, .l ⟨g30, o31 + ((j : Int) - 1).toNat * 1, none⟩ (.string (at_ Rp.str l ((j : Int) - 1))) (hE38.at 0 rfl)), (0, .q (.bool (decide (¬ slt (at_ Rp.str l ((j : Int) - 1)) (at_ Rp.str l (j : Int))))) V.t_sleq)] 10 18 [(19, .bool (decide (¬ slt (at_ Rp.str l ((j : Int) - 1)) (at_ Rp.str l (j : Int)))))] fun a h39 => k25 _ _ ?_
   refine V.cp h39 (¬ slt (at_ Rp.str l ((j : Int) - 1)) (at_ Rp.str l (j : Int))) (fun ht40 => ?_) (fun ht40 => ?_)
   ·
    refine V.sr h39 [] 1 0 [(2, .int .i64 80)] fun a h43 => ?_
    refine V.ret ?_
    refine V.blk_r ?_
    refine V.then_r ?_
    refine V.then_r ?_
    refine V.blk_r ?_
    refine V.then_r ?_
    refine V.r1 h43 (.int .i64 80) ?_
    exact ⟨congrArg Ending.returned (int_eq (chk_not (adj_not (by omega) (by omega) ht40)).symm), hF_28⟩
   ·
    refine V.skip ?_
    refine V.blk_n ?_
    refine V.then_n (k23 _ _ ?_)
    refine V.rr h39 [(1, .i ((j : Int) + 1))] 8 9 [(3, .int .i64 ((j : Int) + 1))] fun a h44 => ?_
    refine V.then_n ?_
    refine ⟨j + 1, by omega, ?_⟩
    refine ⟨(h44.eq 3 (v := (.int .i64 ((j : Int) + 1))) (u := (.int .i64 ((j + 1) : Int))) (V.int_eq (by omega))).only _, hF_28, hSl_29, (by omega), (adj_step hadj (by omega) (by omega) (Decidable.of_not_not ht40))⟩
  ·
   refine V.exit ?_
   refine V.then_e ?_
   refine V.then_e ?_
   refine V.blk_hit ?_
   refine V.then_n (k6 _ _ ?_)
   refine V.sr h20 [] 1 0 [(2, .int .i64 0)] fun a h47 => ?_
   refine V.ret ?_
   refine V.r1 h47 (.int .i64 0) ?_
   exact ⟨congrArg Ending.returned (int_eq (chk_inc (adj_inc hadj (by omega))).symm), hF_13⟩
set_option maxHeartbeats 4000000 in
set_option maxRecDepth 20000 in
theorem check_any (w : World) (Al : Option Addr) (cl : Nat) (l : List ByteArray) (hSl : SlR Rp.str (fun k => k < w.heap.size) w (.slice Al l.length cl) l) : Calls Try.prog 22 #[.slice Al l.length cl] w (fun e w' => e = .returned (.int .i64 (chkN l)) ∧ Fr [] w w') := by
 have hF := Fr.refl [] w
 refine V.en 6 Try.func22 fun a h1 => ?_
 refine V.sr h1 [] 2 2 [] fun a h4 => ?_
 refine V.sg fun K5 k6 => ?_
 refine V.run h4 [] 1 1 0 [(3, .slice Al l.length cl)] fun a h7 => ?_
 refine V.go (V.mk [(3, .slice Al l.length cl)] ⟨h7.e, trivial⟩ (by kernel_rfl) [.slice Al l.length cl] 22 (fun b => .slice (some ⟨b, 0, none⟩) 1 1) (by kernel_rfl) ?_)
 intro w9 b8 heb8 hB10 hF11 hsb8
 have hF_12 := hF.new hF11
 have hSl_13 := hSl.fr0 hF11
 refine V.pt h7 fun a h14 => ?_
 refine V.cl h14 (Go.Proofs.enters_of Try.func38 (by kernel_rfl) rfl) (checks_any w9 _ _ [l] (sl_one hB10 hSl_13).old) ?_
 rintro _ w17 ⟨rfl, hF15⟩
 refine ⟨_, rfl, fun a h18 => ?_⟩
 have hsw17 := hF15.size
 have hF_19 := hF_12.new hF15
 have hSl_20 := hSl_13.fr0 hF15
 have hB10_21 := hB10.fr0 hF15
 have hq16 := chkL_one l
 refine V.re h18 [] 1 0 [(2, .int .i64 (chkL [l]))] fun a h22 => k6 _ _ ?_
 refine V.ret ?_
 refine V.r1 h22 (.int .i64 (chkL [l])) ?_
 exact ⟨congrArg Ending.returned (int_eq (chkL_one l)), hF_19⟩
set_option maxHeartbeats 4000000 in
set_option maxRecDepth 20000 in
theorem in_any (w : World) (Al : Option Addr) (cl : Nat) (l : List ByteArray) (hSl : SlR Rp.str (fun k => k < w.heap.size) w (.slice Al l.length cl) l) (x : ByteArray) : Calls Try.prog 14 #[.slice Al l.length cl, .string x] w (fun e w' => e = .returned (.bool (decide (x ∈ l))) ∧ Fr [] w w') := by
 have hF := Fr.refl [] w
 have hlen0 := hSl.len_le
 refine V.en 18 Try.func14 fun a h1 => ?_
 refine V.sr h1 [] 4 4 [] fun a h4 => ?_
 refine V.seq fun K5 k6 => ?_
 refine V.sr h4 [] 1 0 [(5, .int .i64 0)] fun a h9 => ?_
 refine V.block ?_
 refine V.loop1 (fun (i : Nat) a_ w_ => En 18 [] a_ [(0, .slice Al l.length cl), (1, .string x), (5, .int .i64 (i : Int))] ∧ Fr [] w w_ ∧ SlR Rp.str (fun k => k < w.heap.size) w_ (.slice Al l.length cl) l ∧ (i ≤ l.length) ∧ (x ∉ l.take i)) (fun (i : Nat) => l.length - i) 0 ?_ ?_
 ·
  refine ⟨(h9.eq 5 (v := (.int .i64 0)) (u := (.int .i64 (0 : Int))) (V.int_eq (by omega))).only _, hF, hSl, (by omega), (by simp)⟩
 ·
  rintro i a10 w11 ⟨h12, hF_13, hSl_14, hi, hno⟩
  have hfs15 := hF_13.size
  refine V.seq fun K16 k17 => ?_
  refine V.sr h12 [] 6 8 [(9, .bool (decide ((i : Int) < ((l.length : Nat) : Int))))] fun a h20 => ?_
  refine V.cp h20 ((i : Int) < ((l.length : Nat) : Int)) (fun ht21 => ?_) (fun ht21 => ?_)
  ·
   refine V.skip ?_
   refine V.then_n (k17 _ _ ?_)
   refine V.seq fun K22 k23 => ?_
   refine V.block ?_
   obtain ⟨g26, o27, hA28, hA28l, hA28z⟩ := hSl_14.addr (by omega)
   obtain ⟨cs29, hok30, hE31⟩ := hSl_14.els hA28 (i : Int) (by omega) (by omega)
   obtain rfl : cs29 = [.string (at_ Rp.str l (i : Int))] := hok30
   refine V.sr h20 [(2, .ix g26 o27 l.length cl .i64 (i : Int) 1 hA28), (0, .l ⟨g26, o27 + (i : Int).toNat * 1, none⟩ (.string (at_ Rp.str l (i : Int))) (hE31.at 0 rfl)), (1, .seq (at_ Rp.str l (i : Int)) x)] 12 16 [(17, .bool (decide ((at_ Rp.str l (i : Int)) = x)))] fun a h32 => ?_
   refine V.cp h32 ((at_ Rp.str l (i : Int)) = x) (fun ht33 => ?_) (fun ht33 => ?_)
   ·
    refine V.sr h32 [] 1 0 [(4, .bool true)] fun a h36 => ?_
    refine V.ret ?_
    refine V.blk_r ?_
    refine V.then_r ?_
    refine V.then_r ?_
    refine V.blk_r ?_
    refine V.then_r ?_
    refine V.r1 h36 (.bool true) ?_
    exact ⟨congrArg (fun b => Ending.returned (Value.bool b)) (decide_eq_true (in_at (by omega) ht33)).symm, hF_13⟩
   ·
    refine V.skip ?_
    refine V.blk_n ?_
    refine V.then_n (k23 _ _ ?_)
    refine V.rr h32 [(1, .i ((i : Int) + 1))] 10 11 [(5, .int .i64 ((i : Int) + 1))] fun a h37 => ?_
    refine V.then_n ?_
    refine ⟨i + 1, by omega, ?_⟩
    refine ⟨(h37.eq 5 (v := (.int .i64 ((i : Int) + 1))) (u := (.int .i64 ((i + 1) : Int))) (V.int_eq (by omega))).only _, hF_13, hSl_14, (by omega), (in_step hno (by omega) ht33)⟩
  ·
   refine V.exit ?_
   refine V.then_e ?_
   refine V.then_e ?_
   refine V.blk_hit ?_
   refine V.then_n (k6 _ _ ?_)
   refine V.sr h20 [] 1 0 [(4, .bool false)] fun a h40 => ?_
   refine V.ret ?_
   refine V.r1 h40 (.bool false) ?_
   exact ⟨congrArg (fun b => Ending.returned (Value.bool b)) (decide_eq_false (by rw [List.take_of_length_le (by omega)] at hno; exact hno)).symm, hF_13⟩
set_option maxHeartbeats 4000000 in
set_option maxRecDepth 20000 in
theorem same_any (w : World) (Al : Option Addr) (cl : Nat) (l : List ByteArray) (hSl : SlR Rp.str (fun k => k < w.heap.size) w (.slice Al l.length cl) l) (A2 : Option Addr) (c2 : Nat) (hS2 : SlR Rp.str (fun k => k < w.heap.size) w (.slice A2 l.length c2) l) : Calls Try.prog 18 #[.slice Al l.length cl, .slice A2 l.length c2] w (fun e w' => e = .returned (.bool true) ∧ Fr [] w w') := by
 have hF := Fr.refl [] w
 have hlen0 := hSl.len_le
 refine V.en 26 Try.func18 fun a h1 => ?_
 refine V.sr h1 [] 4 4 [] fun a h4 => ?_
 refine V.seq fun K5 k6 => ?_
 refine V.sr h4 [(4, .ne ((l.length : Nat) : Int) ((l.length : Nat) : Int))] 6 9 [(10, .bool (decide (¬ ((l.length : Nat) : Int) = ((l.length : Nat) : Int))))] fun a h9 => ?_
 refine V.cp h9 (¬ ((l.length : Nat) : Int) = ((l.length : Nat) : Int)) (fun ht10 => ?_) (fun ht10 => ?_)
 ·
  refine V.sr h9 [] 1 0 [(4, .bool false)] fun a h13 => ?_
  refine V.ret ?_
  refine V.then_r ?_
  refine V.r1 h13 (.bool false) ?_
  exact absurd rfl ht10
 ·
  refine V.skip ?_
  refine V.then_n (k6 _ _ ?_)
  refine V.seq fun K14 k15 => ?_
  refine V.sr h9 [] 1 0 [(5, .int .i64 0)] fun a h18 => ?_
  refine V.block ?_
  refine V.loop1 (fun (i : Nat) a_ w_ => En 26 [] a_ [(0, .slice Al l.length cl), (1, .slice A2 l.length c2), (5, .int .i64 (i : Int))] ∧ Fr [] w w_ ∧ SlR Rp.str (fun k => k < w.heap.size) w_ (.slice Al l.length cl) l ∧ SlR Rp.str (fun k => k < w.heap.size) w_ (.slice A2 l.length c2) l ∧ (i ≤ l.length)) (fun (i : Nat) => l.length - i) 0 ?_ ?_
  ·
   refine ⟨(h18.eq 5 (v := (.int .i64 0)) (u := (.int .i64 (0 : Int))) (V.int_eq (by omega))).only _, hF, hSl, hS2, (by omega)⟩
  ·
   rintro i a19 w20 ⟨h21, hF_22, hSl_23, hS2_24, hi⟩
   have hfs25 := hF_22.size
   refine V.seq fun K26 k27 => ?_
   refine V.sr h21 [] 11 13 [(14, .bool (decide ((i : Int) < ((l.length : Nat) : Int))))] fun a h30 => ?_
   refine V.cp h30 ((i : Int) < ((l.length : Nat) : Int)) (fun ht31 => ?_) (fun ht31 => ?_)
   ·
    refine V.skip ?_
    refine V.then_n (k27 _ _ ?_)
    refine V.seq fun K32 k33 => ?_
    refine V.block ?_
    refine V.seq fun K34 k35 => ?_
    refine V.pl [([0,1,2,3,4,5,6,7,8],none)] fun w36 hF37 hsw36 => ?_
    have hF_38 := hF_22.new hF37
    have hSl_39 := hSl_23.fr0 hF37
    have hS2_40 := hS2_24.fr0 hF37
    obtain ⟨g41, o42, hA43, hA43l, hA43z⟩ := hSl_39.addr (by omega)
    obtain ⟨cs44, hok45, hE46⟩ := hSl_39.els hA43 (i : Int) (by omega) (by omega)
    obtain rfl : cs44 = [.string (at_ Rp.str l (i : Int))] := hok45
    obtain ⟨g47, o48, hA49, hA49l, hA49z⟩ := hS2_40.addr (by omega)
    obtain ⟨cs50, hok51, hE52⟩ := hS2_40.els hA49 (i : Int) (by omega) (by omega)
    obtain rfl : cs50 = [.string (at_ Rp.str l (i : Int))] := hok51
    refine V.pz h30 [(2, .ix g41 o42 l.length cl .i64 (i : Int) 1 hA43), (0, .l ⟨g41, o42 + (i : Int).toNat * 1, none⟩ (.string (at_ Rp.str l (i : Int))) (hE46.at 0 rfl)), (2, .ix g47 o48 l.length c2 .i64 (i : Int) 1 hA49), (0, .l ⟨g47, o48 + (i : Int).toNat * 1, none⟩ (.string (at_ Rp.str l (i : Int))) (hE52.at 0 rfl)), (0, .q (.bool false) (V.t_snsame (at_ Rp.str l (i : Int))))] 17 24 [(25, .bool false)] fun a h53 => k35 _ _ ?_
    refine V.cf h53 ?_
    refine V.skip ?_
    refine V.blk_n ?_
    refine V.then_n (k33 _ _ ?_)
    refine V.rr h53 [(1, .i ((i : Int) + 1))] 15 16 [(5, .int .i64 ((i : Int) + 1))] fun a h54 => ?_
    refine V.then_n ?_
    refine ⟨i + 1, by omega, ?_⟩
    refine ⟨(h54.eq 5 (v := (.int .i64 ((i : Int) + 1))) (u := (.int .i64 ((i + 1) : Int))) (V.int_eq (by omega))).only _, hF_38, hSl_39, hS2_40, (by omega)⟩
   ·
    refine V.exit ?_
    refine V.then_e ?_
    refine V.then_e ?_
    refine V.blk_hit ?_
    refine V.then_n (k15 _ _ ?_)
    refine V.sr h30 [] 1 0 [(4, .bool true)] fun a h57 => ?_
    refine V.ret ?_
    refine V.r1 h57 (.bool true) ?_
    exact ⟨rfl, hF_22⟩
end Go.Proofs.Ytkepojdmgdgaoaa
