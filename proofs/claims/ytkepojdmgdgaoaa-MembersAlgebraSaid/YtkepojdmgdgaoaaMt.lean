/- Walks: counted, kept. -/
import Derived.Test.YtkepojdmgdgaoaaProg
import Derived.Test.YtkepojdmgdgaoaaMo
import Derived.Test.YtkepojdmgdgaoaaMr
namespace Go.Proofs.Ytkepojdmgdgaoaa
open Go.V Go.Base
open Go.RowKit (Below)
attribute [local irreducible] Act.put Act.eval
set_option linter.unusedVariables false
set_option linter.unusedSimpArgs false
/-! ### How often -/
def cntN (q : List ByteArray) (s : ByteArray) : Nat := q.countP fun y => decide (y = s)
def cntF (q : List ByteArray) : ByteArray → Int := fun s => (cntN q s : Int)
theorem cnt_le (q : List ByteArray) (s : ByteArray) : 0 ≤ cntF q s ∧ cntF q s ≤ (q.length : Int) := by
  unfold cntF cntN
  have := List.countP_le_length (p := fun y => decide (y = s)) (l := q)
  omega
theorem cnt_0 : (fun _ => mI.z) = cntF [] := by funext s; rfl
theorem cnt_up (q : List ByteArray) (s : ByteArray) : upd (cntF q) s (cntF q s + 1) = cntF (q ++ [s]) := by
  funext x
  unfold upd cntF cntN
  by_cases h : x = s
  · subst h; rw [if_pos rfl, List.countP_append]; simp
  · rw [if_neg h, List.countP_append]
    have : s ≠ x := fun e => h e.symm
    simp [this]
theorem at_row_mem {ls : List (List ByteArray)} {i : Nat} (h : i < ls.length) : at_ (Rp.slice Rp.str) ls (i : Int) ∈ ls := List.mem_of_getElem? (at_some (Rp.slice Rp.str) (xs := ls) (i := (i : Int)) (by omega) (by omega))
theorem kp_not (l : List ByteArray) (p : ByteArray → Bool) : kp l (fun x => !p x) l.length = l.filter p := by rw [kp_all]; simp
set_option maxHeartbeats 4000000 in
set_option maxRecDepth 20000 in
theorem counted_any (w : World) (A : Option Addr) (c : Nat) (ls : List (List ByteArray)) (hL : SlR (Rp.slice Rp.str) (fun k => k < w.heap.size) w (.slice A ls.length c) ls) (hf : ls.flatten.length ≤ 1048576) (hz : ∀ l ∈ ls, ∀ s ∈ l, s.size ≤ maxLen) : Calls Try.prog 47 #[.slice A ls.length c] w (fun e w' => ∃ b n, e = .returned (.map (some b)) ∧ Mp mI w' b n (cntF ls.flatten) ∧ w.heap.size ≤ b ∧ b < w'.heap.size ∧ Fr [] w w') := by
 have hF := Fr.refl [] w
 have hlen0 := hL.len_le
 refine V.en 28 Try.func47 fun a h1 => ?_
 refine V.sr h1 [] 2 2 [] fun a h4 => ?_
 refine V.sg fun K5 k6 => ?_
 refine V.go (V.mkM mI ?_)
 intro w8 b7 heb7 hM9 hF10 hsb7
 have hF_11 := hF.new hF10
 have hL_12 := hL.fr0 hF10
 refine V.pt h4 fun a h13 => ?_
 refine V.re h13 [] 1 0 [(3, .map (some b7))] fun a h14 => k6 _ _ ?_
 refine V.seq fun K15 k16 => ?_
 refine V.sr h14 [] 1 0 [(9, .slice A ls.length c), (10, .int .i64 ((ls.length : Nat) : Int)), (11, .int .i64 0)] fun a h19 => ?_
 refine V.block ?_
 refine V.loop1 (fun (i : Nat) a_ w_ => En 28 [] a_ [(3, .map (some b7)), (9, .slice A ls.length c), (10, .int .i64 ((ls.length : Nat) : Int)), (11, .int .i64 (i : Int))] ∧ Mp mI w_ b7 ((ls.take i).flatten.length) (cntF ((ls.take i).flatten)) ∧ Fr [] w w_ ∧ SlR (Rp.slice Rp.str) (fun k => k < w.heap.size) w_ (.slice A ls.length c) ls ∧ (i ≤ ls.length)) (fun (i : Nat) => ls.length - i) 0 ?_ ?_
 ·
  refine ⟨(h19.eq 11 (v := (.int .i64 0)) (u := (.int .i64 (0 : Int))) (V.int_eq (by omega))).only _, (by rw [List.take_zero, List.flatten_nil]; exact hM9.cg cnt_0), hF_11, hL_12, (by omega)⟩
 ·
  rintro i a20 w21 ⟨h22, hM_23, hF_24, hL_25, hi⟩
  have hfs26 := hF_24.size
  refine V.sr h22 [] 1 0 [(12, .bool (decide ((i : Int) < ((ls.length : Nat) : Int))))] fun a h29 => ?_
  refine V.seq fun K30 k31 => ?_
  refine V.cp h29 ((i : Int) < ((ls.length : Nat) : Int)) (fun ht32 => ?_) (fun ht32 => ?_)
  ·
   refine V.skip ?_
   refine V.then_n (k31 _ _ ?_)
   refine V.seq fun K33 k34 => ?_
   refine V.block ?_
   obtain ⟨g37, o38, hA39, hA39l, hA39z⟩ := hL_25.addr (by omega)
   obtain ⟨cs40, hok41, hE42⟩ := hL_25.els hA39 (i : Int) (by omega) (by omega)
   obtain ⟨A43, c44, rfl, hS45⟩ := slice_open hok41
   refine V.sr h29 [(0, .ix g37 o38 ls.length c .i64 (i : Int) 1 hA39), (0, .l ⟨g37, o38 + (i : Int).toNat * 1, none⟩ (.slice A43 ((at_ (Rp.slice Rp.str) ls (i : Int)).length) c44) (hE42.at 0 rfl))] 13 14 [(5, .slice A43 ((at_ (Rp.slice Rp.str) ls (i : Int)).length) c44)] fun a h46 => ?_
   refine V.sr h46 [] 1 0 [(15, .slice A43 ((at_ (Rp.slice Rp.str) ls (i : Int)).length) c44), (16, .int .i64 (((at_ (Rp.slice Rp.str) ls (i : Int)).length : Nat) : Int)), (17, .int .i64 0)] fun a h49 => ?_
   refine V.block ?_
   refine V.loop1 (fun (k : Nat) a_ w_ => En 28 [] a_ [(3, .map (some b7)), (9, .slice A ls.length c), (10, .int .i64 ((ls.length : Nat) : Int)), (11, .int .i64 (i : Int)), (15, .slice A43 ((at_ (Rp.slice Rp.str) ls (i : Int)).length) c44), (16, .int .i64 (((at_ (Rp.slice Rp.str) ls (i : Int)).length : Nat) : Int)), (17, .int .i64 (k : Int))] ∧ Mp mI w_ b7 ((ls.take i).flatten.length + k) (cntF ((ls.take i).flatten ++ (at_ (Rp.slice Rp.str) ls (i : Int)).take k)) ∧ Fr [] w w_ ∧ SlR (Rp.slice Rp.str) (fun k => k < w.heap.size) w_ (.slice A ls.length c) ls ∧ SlR Rp.str (fun k => k < w.heap.size) w_ (.slice A43 ((at_ (Rp.slice Rp.str) ls (i : Int)).length) c44) (at_ (Rp.slice Rp.str) ls (i : Int)) ∧ (k ≤ (at_ (Rp.slice Rp.str) ls (i : Int)).length)) (fun (k : Nat) => (at_ (Rp.slice Rp.str) ls (i : Int)).length - k) 0 ?_ ?_
   ·
    refine ⟨(h49.eq 17 (v := (.int .i64 0)) (u := (.int .i64 (0 : Int))) (V.int_eq (by omega))).only _, (by rw [List.take_zero, List.append_nil, Nat.add_zero]; exact hM_23), hF_24, hL_25, hS45, (by omega)⟩
   ·
    rintro k a50 w51 ⟨h52, hM_53, hF_54, hL_55, hS45_56, hk⟩
    have hfs57 := hF_54.size
    have hft := flat_take_le ls (i + 1)
    have hfn : ((ls.take (i + 1)).flatten).length = _ := (congrArg List.length (flat_next (show i < ls.length by omega))).trans List.length_append
    refine V.sr h52 [] 1 0 [(18, .bool (decide ((k : Int) < (((at_ (Rp.slice Rp.str) ls (i : Int)).length : Nat) : Int))))] fun a h60 => ?_
    refine V.seq fun K61 k62 => ?_
    refine V.cp h60 ((k : Int) < (((at_ (Rp.slice Rp.str) ls (i : Int)).length : Nat) : Int)) (fun ht63 => ?_) (fun ht63 => ?_)
    ·
     refine V.skip ?_
     refine V.then_n (k62 _ _ ?_)
     refine V.seq fun K64 k65 => ?_
     refine V.block ?_
     obtain ⟨g68, o69, hA70, hA70l, hA70z⟩ := hS45_56.addr (by omega)
     obtain ⟨cs71, hok72, hE73⟩ := hS45_56.els hA70 (k : Int) (by omega) (by omega)
     obtain rfl : cs71 = [.string (at_ Rp.str (at_ (Rp.slice Rp.str) ls (i : Int)) (k : Int))] := hok72
     refine V.sr h60 [(0, .ix g68 o69 ((at_ (Rp.slice Rp.str) ls (i : Int)).length) c44 .i64 (k : Int) 1 hA70), (0, .l ⟨g68, o69 + (k : Int).toNat * 1, none⟩ (.string (at_ Rp.str (at_ (Rp.slice Rp.str) ls (i : Int)) (k : Int))) (hE73.at 0 rfl))] 19 20 [(7, .string (at_ Rp.str (at_ (Rp.slice Rp.str) ls (i : Int)) (k : Int)))] fun a h74 => ?_
     have hcn := cnt_le ((ls.take i).flatten ++ (at_ (Rp.slice Rp.str) ls (i : Int)).take k) (at_ Rp.str (at_ (Rp.slice Rp.str) ls (i : Int)) (k : Int))
     have hql : ((ls.take i).flatten ++ (at_ (Rp.slice Rp.str) ls (i : Int)).take k).length = _ := List.length_append
     have htl := List.length_take_le k (at_ (Rp.slice Rp.str) ls (i : Int))
     refine V.rg ?_
     refine V.run h74 [(2, .lk hM_53 (at_ Rp.str (at_ (Rp.slice Rp.str) ls (i : Int)) (k : Int)) (hz _ (at_row_mem (by omega)) _ (at_mem (by omega)))), (0, .i (((cntF ((ls.take i).flatten ++ (at_ (Rp.slice Rp.str) ls (i : Int)).take k)) (at_ Rp.str (at_ (Rp.slice Rp.str) ls (i : Int)) (k : Int))) + 1))] 4 23 23 [(21, .map (some b7)), (22, .string (at_ Rp.str (at_ (Rp.slice Rp.str) ls (i : Int)) (k : Int))), (24, .int .i64 (((cntF ((ls.take i).flatten ++ (at_ (Rp.slice Rp.str) ls (i : Int)).take k)) (at_ Rp.str (at_ (Rp.slice Rp.str) ls (i : Int)) (k : Int))) + 1))] fun a h78 => ?_
     refine V.go (V.upM (E := mI) hM_53 (at_ Rp.str (at_ (Rp.slice Rp.str) ls (i : Int)) (k : Int)) (((cntF ((ls.take i).flatten ++ (at_ (Rp.slice Rp.str) ls (i : Int)).take k)) (at_ Rp.str (at_ (Rp.slice Rp.str) ls (i : Int)) (k : Int))) + 1) (h78.e (v := (.map (some b7)))) (h78.e (v := (.string (at_ Rp.str (at_ (Rp.slice Rp.str) ls (i : Int)) (k : Int))))) (h78.e (v := (.int .i64 (((cntF ((ls.take i).flatten ++ (at_ (Rp.slice Rp.str) ls (i : Int)).take k)) (at_ Rp.str (at_ (Rp.slice Rp.str) ls (i : Int)) (k : Int))) + 1)))) (by kernel_rfl) (hz _ (at_row_mem (by omega)) _ (at_mem (by omega))) ⟨by omega, by omega⟩ (by unfold maxLen; omega) ?_)
     intro w75 hM76 hF77
     have hsw75 := hF77.size
     have hF_79 := hF_54.own hF77 (by simp <;> omega)
     have hL_80 := hL_55.fr hF77 (by simp <;> omega)
     have hS45_81 := hS45_56.fr hF77 (by simp <;> omega)
     have hE73_82 := hE73.fr hF77 (by simp <;> omega)
     refine V.nil ?_
     refine V.blk_n ?_
     refine V.then_n (k65 _ _ ?_)
     refine V.rr h78 [(0, .i ((k : Int) + 1))] 25 25 [(17, .int .i64 ((k : Int) + 1))] fun a h83 => ?_
     refine V.then_n ?_
     refine ⟨k + 1, by omega, ?_⟩
     refine ⟨(h83.eq 17 (v := (.int .i64 ((k : Int) + 1))) (u := (.int .i64 ((k + 1) : Int))) (V.int_eq (by omega))).only _, (by rw [take_one (by omega), ← List.append_assoc]; exact hM76.cg (cnt_up _ _)), hF_79, hL_80, hS45_81, (by omega)⟩
    ·
     refine V.exit ?_
     refine V.then_e ?_
     refine V.then_e ?_
     refine V.blk_hit ?_
     refine V.blk_n ?_
     refine V.then_n (k34 _ _ ?_)
     refine V.rr h60 [(0, .i ((i : Int) + 1))] 26 26 [(11, .int .i64 ((i : Int) + 1))] fun a h84 => ?_
     refine V.then_n ?_
     have hfe : (ls.take (i + 1)).flatten = (ls.take i).flatten ++ (at_ (Rp.slice Rp.str) ls (i : Int)).take k := by rw [List.take_of_length_le (show (at_ (Rp.slice Rp.str) ls (i : Int)).length ≤ k by omega), flat_next (by omega)]
     refine ⟨i + 1, by omega, ?_⟩
     refine ⟨(h84.eq 11 (v := (.int .i64 ((i : Int) + 1))) (u := (.int .i64 ((i + 1) : Int))) (V.int_eq (by omega))).only _, (by rw [hfe]; exact hM_53.up (by rw [List.length_append, List.length_take]; omega)), hF_54, hL_55, (by omega)⟩
  ·
   refine V.exit ?_
   refine V.then_e ?_
   refine V.then_e ?_
   refine V.blk_hit ?_
   refine V.then_n (k16 _ _ ?_)
   refine V.sr h29 [] 27 27 [(2, .map (some b7))] fun a h87 => ?_
   refine V.ret ?_
   refine V.r1 h87 (.map (some b7)) ?_
   have hq : ls.take i = ls := List.take_of_length_le (by omega)
   rw [hq] at hM_23
   exact ⟨_, _, rfl, hM_23, by omega, hM_23.lt, hF_24⟩
set_option maxHeartbeats 4000000 in
set_option maxRecDepth 20000 in
theorem kept1_1 (w : World) (pf : Nat) (u0 : Value) (he : ∀ args w, (callFunc pf args).run Try.prog w = .ok (.enter pf args) w) (p : ByteArray → Bool) (b3 : Nat) (hB : Blk w b3 [.func (.func pf) #[] #[u0]] 57) (x : ByteArray) (hp : ∀ w1, Fr [] w w1 → Calls Try.prog pf #[.string x, u0] w1 (fun e w' => e = .returned (.bool (p x)) ∧ Fr [] w1 w')) : Calls Try.prog 57 #[.string x, .pointer (some ⟨b3, 0, none⟩)] w (fun e w' => e = .returned (.bool (!p x)) ∧ Fr [] w w') := by
 have hF := Fr.refl [] w
 refine V.en 8 Try.func57 fun a h1 => ?_
 refine V.sr h1 [] 3 3 [] fun a h4 => ?_
 refine V.sg fun K5 k6 => ?_
 refine V.run h4 [(0, .b hB 0)] 2 1 0 [(4, .func (.func pf) #[] #[u0]), (5, .string x)] fun a h7 => ?_
 refine V.cl h7 he (hp w hF) ?_
 rintro _ w9 ⟨rfl, hF8⟩
 refine ⟨_, rfl, fun a h10 => ?_⟩
 have hsw9 := hF8.size
 have hF_11 := hF.new hF8
 have hB_12 := hB.fr0 hF8
 refine V.re h10 [] 7 7 [(3, .bool (!(p x)))] fun a h13 => k6 _ _ ?_
 refine V.ret ?_
 refine V.r1 h13 (.bool (!(p x))) ?_
 exact ⟨rfl, hF_11⟩
set_option maxHeartbeats 4000000 in
set_option maxRecDepth 20000 in
theorem kept1_2 (w : World) (pf : Nat) (u0 u1 : Value) (he : ∀ args w, (callFunc pf args).run Try.prog w = .ok (.enter pf args) w) (p : ByteArray → Bool) (b3 : Nat) (hB : Blk w b3 [.func (.func pf) #[] #[u0, u1]] 57) (x : ByteArray) (hp : ∀ w1, Fr [] w w1 → Calls Try.prog pf #[.string x, u0, u1] w1 (fun e w' => e = .returned (.bool (p x)) ∧ Fr [] w1 w')) : Calls Try.prog 57 #[.string x, .pointer (some ⟨b3, 0, none⟩)] w (fun e w' => e = .returned (.bool (!p x)) ∧ Fr [] w w') := by
 have hF := Fr.refl [] w
 refine V.en 8 Try.func57 fun a h1 => ?_
 refine V.sr h1 [] 3 3 [] fun a h4 => ?_
 refine V.sg fun K5 k6 => ?_
 refine V.run h4 [(0, .b hB 0)] 2 1 0 [(4, .func (.func pf) #[] #[u0, u1]), (5, .string x)] fun a h7 => ?_
 refine V.cl h7 he (hp w hF) ?_
 rintro _ w9 ⟨rfl, hF8⟩
 refine ⟨_, rfl, fun a h10 => ?_⟩
 have hsw9 := hF8.size
 have hF_11 := hF.new hF8
 have hB_12 := hB.fr0 hF8
 refine V.re h10 [] 7 7 [(3, .bool (!(p x)))] fun a h13 => k6 _ _ ?_
 refine V.ret ?_
 refine V.r1 h13 (.bool (!(p x))) ?_
 exact ⟨rfl, hF_11⟩
set_option maxHeartbeats 4000000 in
set_option maxRecDepth 20000 in
theorem kept_1 (w : World) (Al : Option Addr) (cl : Nat) (l : List ByteArray) (hSl : SlR Rp.str (fun k => k < w.heap.size) w (.slice Al l.length cl) l) (hl : l.length ≤ 1099511627776) (pf : Nat) (u0 : Value) (he : ∀ args w, (callFunc pf args).run Try.prog w = .ok (.enter pf args) w) (p : ByteArray → Bool) (hp : ∀ w1, Fr [] w w1 → ∀ x ∈ l, Calls Try.prog pf #[.string x, u0] w1 (fun e w' => e = .returned (.bool (p x)) ∧ Fr [] w1 w')) : Calls Try.prog 48 #[.slice Al l.length cl, .func (.func pf) #[] #[u0]] w (fun e w' => ∃ A' c', e = .returned (.slice A' (l.filter p).length c') ∧ OwR Rp.str NoZ w' w.heap.size 9 (.slice A' (l.filter p).length c') (l.filter p) ∧ Fr [] w w') := by
 have hF := Fr.refl [] w
 refine V.en 9 Try.func48 fun a h1 => ?_
 refine V.sg fun K2 k3 => ?_
 refine V.go (V.mk [(1, .func (.func pf) #[] #[u0])] ⟨h1.e, trivial⟩ (by kernel_rfl) [.func (.func pf) #[] #[u0]] 57 (fun b => .pointer (some ⟨b, 0, none⟩)) (by kernel_rfl) ?_)
 intro w5 b4 heb4 hB6 hF7 hsb4
 have hF_8 := hF.new hF7
 have hSl_9 := hSl.fr0 hF7
 refine V.pt h1 fun a h10 => ?_
 refine V.re h10 [] 4 4 [] fun a h11 => k3 _ _ ?_
 refine V.sg fun K12 k13 => ?_
 refine V.run h11 [] 1 1 0 [(5, .slice Al l.length cl)] fun a h14 => ?_
 refine V.cl h14 (Go.Proofs.enters_of Try.func35 (by kernel_rfl) rfl) (clone_any w5 (fun k => k < w.heap.size) Al cl l hSl_9 (by omega)) ?_
 rintro _ w19 ⟨A15, c16, rfl, hO17, hF18⟩
 refine ⟨_, rfl, fun a h20 => ?_⟩
 have hsw19 := hF18.size
 have hF_21 := hF_8.new hF18
 have hSl_22 := hSl_9.fr0 hF18
 have hB6_23 := hB6.fr0 hF18
 have hO17q := hO17.rebase (base' := w.heap.size) (by omega)
 refine V.run h20 [] 1 1 0 [(7, .func (.func 57) #[] #[.pointer (some ⟨b4, 0, none⟩)])] fun a h24 => ?_
 refine V.cl (av := #[.slice A15 l.length c16, .func (.func 57) #[] #[.pointer (some ⟨b4, 0, none⟩)]]) h24 (Go.Proofs.enters_of Try.func44 (by kernel_rfl) rfl) (by (have hz := df_all w19 _ A15 c16 l hO17 (by omega) 57 (.pointer (some ⟨b4, 0, none⟩)) (Go.Proofs.enters_of Try.func57 (by kernel_rfl) rfl) (fun x => !p x) (fun w1 F x hx => kept1_1 w1 pf u0 he p b4 (hB6_23.bel F (by omega)) x (fun w2 G => hp w2 ((Fr.bel hF_21 F (by omega)).new G) x hx)); rw [kp_not] at hz; exact hz)) ?_
 rintro _ w27 ⟨rfl, hO26, hF25⟩
 refine ⟨_, rfl, fun a h28 => ?_⟩
 have hsw27 := hF25.size
 have hF_29 := Fr.bel hF_21 hF25 (by omega)
 have hO26q := hO26.rebase (base' := w.heap.size) (by omega)
 refine V.re h28 [] 1 0 [(4, .slice A15 ((l.filter p).length) c16)] fun a h30 => k13 _ _ ?_
 refine V.ret ?_
 refine V.r1 h30 (.slice A15 ((l.filter p).length) c16) ?_
 exact ⟨_, _, rfl, hO26q, hF_29⟩
set_option maxHeartbeats 4000000 in
set_option maxRecDepth 20000 in
theorem kept_2 (w : World) (Al : Option Addr) (cl : Nat) (l : List ByteArray) (hSl : SlR Rp.str (fun k => k < w.heap.size) w (.slice Al l.length cl) l) (hl : l.length ≤ 1099511627776) (pf : Nat) (u0 u1 : Value) (he : ∀ args w, (callFunc pf args).run Try.prog w = .ok (.enter pf args) w) (p : ByteArray → Bool) (hp : ∀ w1, Fr [] w w1 → ∀ x ∈ l, Calls Try.prog pf #[.string x, u0, u1] w1 (fun e w' => e = .returned (.bool (p x)) ∧ Fr [] w1 w')) : Calls Try.prog 48 #[.slice Al l.length cl, .func (.func pf) #[] #[u0, u1]] w (fun e w' => ∃ A' c', e = .returned (.slice A' (l.filter p).length c') ∧ OwR Rp.str NoZ w' w.heap.size 9 (.slice A' (l.filter p).length c') (l.filter p) ∧ Fr [] w w') := by
 have hF := Fr.refl [] w
 refine V.en 9 Try.func48 fun a h1 => ?_
 refine V.sg fun K2 k3 => ?_
 refine V.go (V.mk [(1, .func (.func pf) #[] #[u0, u1])] ⟨h1.e, trivial⟩ (by kernel_rfl) [.func (.func pf) #[] #[u0, u1]] 57 (fun b => .pointer (some ⟨b, 0, none⟩)) (by kernel_rfl) ?_)
 intro w5 b4 heb4 hB6 hF7 hsb4
 have hF_8 := hF.new hF7
 have hSl_9 := hSl.fr0 hF7
 refine V.pt h1 fun a h10 => ?_
 refine V.re h10 [] 4 4 [] fun a h11 => k3 _ _ ?_
 refine V.sg fun K12 k13 => ?_
 refine V.run h11 [] 1 1 0 [(5, .slice Al l.length cl)] fun a h14 => ?_
 refine V.cl h14 (Go.Proofs.enters_of Try.func35 (by kernel_rfl) rfl) (clone_any w5 (fun k => k < w.heap.size) Al cl l hSl_9 (by omega)) ?_
 rintro _ w19 ⟨A15, c16, rfl, hO17, hF18⟩
 refine ⟨_, rfl, fun a h20 => ?_⟩
 have hsw19 := hF18.size
 have hF_21 := hF_8.new hF18
 have hSl_22 := hSl_9.fr0 hF18
 have hB6_23 := hB6.fr0 hF18
 have hO17q := hO17.rebase (base' := w.heap.size) (by omega)
 refine V.run h20 [] 1 1 0 [(7, .func (.func 57) #[] #[.pointer (some ⟨b4, 0, none⟩)])] fun a h24 => ?_
 refine V.cl (av := #[.slice A15 l.length c16, .func (.func 57) #[] #[.pointer (some ⟨b4, 0, none⟩)]]) h24 (Go.Proofs.enters_of Try.func44 (by kernel_rfl) rfl) (by (have hz := df_all w19 _ A15 c16 l hO17 (by omega) 57 (.pointer (some ⟨b4, 0, none⟩)) (Go.Proofs.enters_of Try.func57 (by kernel_rfl) rfl) (fun x => !p x) (fun w1 F x hx => kept1_2 w1 pf u0 u1 he p b4 (hB6_23.bel F (by omega)) x (fun w2 G => hp w2 ((Fr.bel hF_21 F (by omega)).new G) x hx)); rw [kp_not] at hz; exact hz)) ?_
 rintro _ w27 ⟨rfl, hO26, hF25⟩
 refine ⟨_, rfl, fun a h28 => ?_⟩
 have hsw27 := hF25.size
 have hF_29 := Fr.bel hF_21 hF25 (by omega)
 have hO26q := hO26.rebase (base' := w.heap.size) (by omega)
 refine V.re h28 [] 1 0 [(4, .slice A15 ((l.filter p).length) c16)] fun a h30 => k13 _ _ ?_
 refine V.ret ?_
 refine V.r1 h30 (.slice A15 ((l.filter p).length) c16) ?_
 exact ⟨_, _, rfl, hO26q, hF_29⟩
set_option maxHeartbeats 4000000 in
set_option maxRecDepth 20000 in
theorem meet1_any (w : World) (b5 b n : Nat) (f : ByteArray → Int) (hB : Blk w b5 [.map (some b)] 58) (hM : Mp mI w b n f) (b1 : Nat) (A : Option Addr) (k c : Nat) (hB1 : Blk w b1 [.slice A k c] 44) (x : ByteArray) (hx : x.size ≤ maxLen) : Calls Try.prog 49 #[.string x, .pointer (some ⟨b5, 0, none⟩), .pointer (some ⟨b1, 0, none⟩)] w (fun e w' => e = .returned (.bool (decide (f x = (k : Int)))) ∧ Fr [] w w') := by
 have hF := Fr.refl [] w
 refine V.en 11 Try.func49 fun a h1 => ?_
 refine V.sr h1 [] 4 4 [] fun a h4 => ?_
 refine V.sr h4 [(0, .b hB 0), (1, .lk hM x hx), (0, .b hB1 0), (1, .eq (f x) ((k : Nat) : Int))] 5 10 [(4, .bool (decide ((f x) = ((k : Nat) : Int))))] fun a h7 => ?_
 refine V.ret ?_
 refine V.r1 h7 (.bool (decide ((f x) = ((k : Nat) : Int)))) ?_
 exact ⟨rfl, hF⟩
set_option maxHeartbeats 4000000 in
set_option maxRecDepth 20000 in
theorem less1_any (w : World) (b5 b n : Nat) (f : ByteArray → Int) (hB : Blk w b5 [.map (some b)] 58) (hM : Mp mI w b n f) (x : ByteArray) (hx : x.size ≤ maxLen) : Calls Try.prog 50 #[.string x, .pointer (some ⟨b5, 0, none⟩)] w (fun e w' => e = .returned (.bool (decide (f x = 0))) ∧ Fr [] w w') := by
 have hF := Fr.refl [] w
 refine V.en 8 Try.func50 fun a h1 => ?_
 refine V.sr h1 [] 3 3 [] fun a h4 => ?_
 refine V.sr h4 [(0, .b hB 0), (1, .lk hM x hx), (0, .eq (f x) 0)] 4 7 [(3, .bool (decide ((f x) = 0)))] fun a h7 => ?_
 refine V.ret ?_
 refine V.r1 h7 (.bool (decide ((f x) = 0))) ?_
 exact ⟨rfl, hF⟩
end Go.Proofs.Ytkepojdmgdgaoaa
