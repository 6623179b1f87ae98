/- Walks: the reference: Of, Add. -/
import Derived.Test.YtkepojdmgdgaoaaProg
import Derived.Test.YtkepojdmgdgaoaaMj
namespace Go.Proofs.Ytkepojdmgdgaoaa
open Go.V Go.Base
open Go.RowKit (Below)
attribute [local irreducible] Act.put Act.eval
set_option linter.unusedVariables false
set_option linter.unusedSimpArgs false
set_option maxHeartbeats 4000000 in
set_option maxRecDepth 20000 in
theorem rof_any (w : World) (Al : Option Addr) (cl : Nat) (l : List ByteArray) (hSl : SlR Rp.str (fun k => k < w.heap.size) w (.slice Al l.length cl) l) (hl : l.length ≤ 1099511627776) : Calls Try.prog 21 #[.slice Al l.length cl] w (fun e w' => ∃ A' c', e = .returned (.slice A' (setOf l).length c') ∧ OwR Rp.str NoZ w' w.heap.size 9 (.slice A' (setOf l).length c') (setOf l) ∧ Fr [] w w') := by
 have hF := Fr.refl [] w
 refine V.en 18 Try.func21 fun a h1 => ?_
 refine V.sr h1 [] 2 2 [] fun a h4 => ?_
 refine V.sr h4 [] 1 0 [(3, .slice none 0 0)] fun a h7 => ?_
 refine V.seq fun K8 k9 => ?_
 refine V.sr h7 [] 1 0 [(4, .int .i64 0)] fun a h12 => ?_
 refine V.block ?_
 refine V.loop3 (fun (i : Nat) (A2 : Option Addr) (c2 : Nat) a_ w_ => En 18 [] a_ [(0, .slice Al l.length cl), (3, .slice A2 ((setOf (l.take i)).length) c2), (4, .int .i64 (i : Int))] ∧ OwR Rp.str NoZ w_ w.heap.size 9 (.slice A2 ((setOf (l.take i)).length) c2) (setOf (l.take i)) ∧ Fr [] w w_ ∧ SlR Rp.str (fun k => k < w.heap.size) w_ (.slice Al l.length cl) l ∧ (i ≤ l.length)) (fun (i : Nat) (A2 : Option Addr) (c2 : Nat) => l.length - i) 0 none 0 ?_ ?_
 ·
  refine ⟨((h12.eq 3 (v := (.slice none 0 0)) (u := (.slice none ((setOf (l.take 0)).length) 0)) (V.sl_eq (by rw [List.take_zero, setOf_nil]; rfl))).eq 4 (v := (.int .i64 0)) (u := (.int .i64 (0 : Int))) (V.int_eq (by omega))).only _, (by rw [List.take_zero, setOf_nil]; exact OwR.nil ..), hF, hSl, (by omega)⟩
 ·
  rintro i A2 c2 a13 w14 ⟨h15, hO_16, hF_17, hSl_18, hi⟩
  have hfs19 := hF_17.size
  have hsl := setOf_len (l.take i)
  have htl := List.length_take_le i l
  refine V.seq fun K20 k21 => ?_
  refine V.sr h15 [] 5 7 [(8, .bool (decide ((i : Int) < ((l.length : Nat) : Int))))] fun a h24 => ?_
  refine V.cp h24 ((i : Int) < ((l.length : Nat) : Int)) (fun ht25 => ?_) (fun ht25 => ?_)
  ·
   refine V.skip ?_
   refine V.then_n (k21 _ _ ?_)
   refine V.seq fun K26 k27 => ?_
   refine V.block ?_
   have hst : insS (setOf (l.take i)) (at_ Rp.str l (i : Int)) = setOf (l.take (i + 1)) := by rw [ins_set, take_one (by omega)]
   obtain ⟨g28, o29, hA30, hA30l, hA30z⟩ := hSl_18.addr (by omega)
   obtain ⟨cs31, hok32, hE33⟩ := hSl_18.els hA30 (i : Int) (by omega) (by omega)
   obtain rfl : cs31 = [.string (at_ Rp.str l (i : Int))] := hok32
   refine V.rg ?_
   refine V.run h24 [(3, .ix g28 o29 l.length cl .i64 (i : Int) 1 hA30), (0, .l ⟨g28, o29 + (i : Int).toNat * 1, none⟩ (.string (at_ Rp.str l (i : Int))) (hE33.at 0 rfl))] 5 12 14 [(11, .slice A2 ((setOf (l.take i)).length) c2), (15, .string (at_ Rp.str l (i : Int)))] fun a h34 => ?_
   refine V.cl h34 (Go.Proofs.enters_of Try.func42 (by kernel_rfl) rfl) (put_any w14 w.heap.size A2 c2 (setOf (l.take i)) hO_16 (by omega) (setOf_inc _) (by omega) (at_ Rp.str l (i : Int))) ?_
   rintro _ w39 ⟨A35, c36, rfl, hO37, hF38⟩
   refine ⟨_, rfl, fun a h40 => ?_⟩
   have hsw39 := hF38.size
   have hF_41 := hF_17.new hF38
   have hSl_42 := hSl_18.fr0 hF38
   have hE33_43 := hE33.fr0 hF38
   refine V.re h40 [] 1 0 [(3, .slice A35 ((insS (setOf (l.take i)) (at_ Rp.str l (i : Int))).length) c36)] fun a h44 => ?_
   refine V.blk_n ?_
   refine V.then_n (k27 _ _ ?_)
   refine V.rr h44 [(1, .i ((i : Int) + 1))] 9 10 [(4, .int .i64 ((i : Int) + 1))] fun a h45 => ?_
   refine V.then_n ?_
   refine ⟨i + 1, A35, c36, by omega, ?_⟩
   refine ⟨((h45.eq 3 (v := (.slice A35 ((insS (setOf (l.take i)) (at_ Rp.str l (i : Int))).length) c36)) (u := (.slice A35 ((setOf (l.take (i + 1))).length) c36)) (V.sl_eq (congrArg List.length hst))).eq 4 (v := (.int .i64 ((i : Int) + 1))) (u := (.int .i64 ((i + 1) : Int))) (V.int_eq (by omega))).only _, (by rw [← hst]; exact hO37), hF_41, hSl_42, (by omega)⟩
  ·
   refine V.exit ?_
   refine V.then_e ?_
   refine V.then_e ?_
   refine V.blk_hit ?_
   refine V.then_n (k9 _ _ ?_)
   refine V.sr h24 [] 17 17 [(2, .slice A2 ((setOf (l.take i)).length) c2)] fun a h48 => ?_
   refine V.ret ?_
   refine V.r1 h48 (.slice A2 ((setOf (l.take i)).length) c2) ?_
   have hq : (setOf (l.take i)) = setOf l := by rw [List.take_of_length_le (by omega)]
   rw [hq] at hO_16 ⊢
   exact ⟨_, _, rfl, hO_16, hF_17⟩
set_option maxHeartbeats 4000000 in
set_option maxRecDepth 20000 in
theorem radd_any (w : World) (Al : Option Addr) (cl : Nat) (l : List ByteArray) (hSl : SlR Rp.str (fun k => k < w.heap.size) w (.slice Al l.length cl) l) (Am : Option Addr) (cm : Nat) (m : List ByteArray) (hSm : SlR Rp.str (fun k => k < w.heap.size) w (.slice Am m.length cm) m) (hl : l.length ≤ 1048576) (hm : m.length ≤ 1048576) : Calls Try.prog 25 #[.slice Al l.length cl, .slice Am m.length cm] w (fun e w' => ∃ A c, e = .returned (.tuple #[.slice A (addS l m).length c, .int .i64 (addN l m), .int .i64 (chkN l)]) ∧ OwR Rp.str NoZ w' w.heap.size 9 (.slice A (addS l m).length c) (addS l m) ∧ Fr [] w w') := by
 have hF := Fr.refl [] w
 refine V.en 33 Try.func25 fun a h1 => ?_
 refine V.sr h1 [] 4 6 [] fun a h4 => ?_
 refine V.seq fun K5 k6 => ?_
 refine V.sg fun K7 k8 => ?_
 refine V.run h4 [] 1 1 0 [(9, .slice Al l.length cl)] fun a h9 => ?_
 refine V.cl h9 (Go.Proofs.enters_of Try.func23 (by kernel_rfl) rfl) (rcheck_any w Al cl l hSl.old ) ?_
 rintro _ w11 ⟨rfl, hF10⟩
 refine ⟨_, rfl, fun a h12 => ?_⟩
 have hsw11 := hF10.size
 have hF_13 := hF.new hF10
 have hSl_14 := hSl.fr0 hF10
 have hSm_15 := hSm.fr0 hF10
 have hq10 := chkN_cases l
 refine V.re h12 [(0, .ne (chkN l) 0)] 1 0 [(11, .bool (decide (¬ (chkN l) = 0)))] fun a h16 => k8 _ _ ?_
 refine V.cp h16 (¬ (chkN l) = 0) (fun ht17 => ?_) (fun ht17 => ?_)
 ·
  refine V.sr h16 [] 1 0 [(4, .slice none 0 0), (5, .int .i64 0), (6, .int .i64 80)] fun a h20 => ?_
  refine V.ret ?_
  refine V.then_r ?_
  refine V.r3 h20 (.slice none 0 0) (.int .i64 0) (.int .i64 80) ?_
  rcases chkN_cases l with ⟨hz0, hzi⟩ | ⟨hz0, hzi⟩
  · exfalso; omega
  · rw [show addS l m = [] from if_neg hzi, show addN l m = 0 from if_neg hzi, hz0]; exact ⟨none, 0, rfl, OwR.nil .., hF_13⟩
 ·
  refine V.skip ?_
  refine V.then_n (k6 _ _ ?_)
  refine V.sg fun K21 k22 => ?_
  refine V.go (V.mk [] trivial (by kernel_rfl) [] 9 (fun b => .slice (some ⟨b, 0, none⟩) 0 0) (by kernel_rfl) ?_)
  intro w24 b23 heb23 hB25 hF26 hsb23
  have hF_27 := hF_13.new hF26
  have hSl_28 := hSl_14.fr0 hF26
  have hSm_29 := hSm_15.fr0 hF26
  refine V.pt h16 fun a h30 => ?_
  have hO31 := OwR.empty (R := Rp.str) (base := b23) hB25 (Nat.le_refl _)
  refine V.run h30 [] 1 1 0 [(13, .slice Al l.length cl)] fun a h37 => ?_
  refine V.go (V.appS (R := Rp.str) (h37.e (v := (.slice (some ⟨b23, 0, none⟩) 0 0))) (h37.e (v := (.slice Al l.length cl))) (by kernel_rfl) info9 (by kernel_rfl) (by decide) hO31 hSl_28 (fun _ _ h => h) (by (try simp only [List.length_nil]); omega) (by decide) (by omega) ?_)
  intro A32 c33 w34 hO35 hF36
  have hsw34 := hF36.size
  have hF_38 := hF_27.own hF36 (own_ge hO31 (by omega))
  have hSl_39 := hSl_28.fr hF36 (by intro b hb hz; have := own_ge hO31 (Nat.le_refl _) b hb; (try dsimp only at hz); omega)
  have hSm_40 := hSm_29.fr hF36 (by intro b hb hz; have := own_ge hO31 (Nat.le_refl _) b hb; (try dsimp only at hz); omega)
  refine V.pt h37 fun a h41 => ?_
  refine V.re h41 [] 1 0 [(7, .slice A32 ((([] : List ByteArray)).length + (l).length) c33)] fun a h42 => k22 _ _ ?_
  refine V.seq fun K43 k44 => ?_
  refine V.sr h42 [] 1 0 [(8, .int .i64 0)] fun a h47 => ?_
  refine V.block ?_
  refine V.loop3 (fun (i : Nat) (A2 : Option Addr) (c2 : Nat) a_ w_ => En 33 [] a_ [(0, .slice Al l.length cl), (1, .slice Am m.length cm), (7, .slice A2 ((setOf (l ++ m.take i)).length) c2), (8, .int .i64 (i : Int))] ∧ OwR Rp.str NoZ w_ w.heap.size 9 (.slice A2 ((setOf (l ++ m.take i)).length) c2) (setOf (l ++ m.take i)) ∧ Fr [] w w_ ∧ SlR Rp.str (fun k => k < w.heap.size) w_ (.slice Al l.length cl) l ∧ SlR Rp.str (fun k => k < w.heap.size) w_ (.slice Am m.length cm) m ∧ (i ≤ m.length)) (fun (i : Nat) (A2 : Option Addr) (c2 : Nat) => m.length - i) 0 A32 c33 ?_ ?_
  ·
   have hzi : Inc l := by (rcases chkN_cases l with h | h; exact h.2; omega)
   have hq0 : setOf (l ++ m.take 0) = l := by rw [List.take_zero, List.append_nil, setOf_id hzi]
   refine ⟨((h47.eq 7 (v := (.slice A32 ((([] : List ByteArray)).length + (l).length) c33)) (u := (.slice A32 ((setOf (l ++ m.take 0)).length) c33)) (V.sl_eq (by rw [hq0]; simp))).eq 8 (v := (.int .i64 0)) (u := (.int .i64 (0 : Int))) (V.int_eq (by omega))).only _, (by rw [hq0]; have hz := hO35.rebase (base' := w.heap.size) (by omega); simpa using hz), hF_38, hSl_39, hSm_40, (by omega)⟩
  ·
   rintro i A2 c2 a48 w49 ⟨h50, hO_51, hF_52, hSl_53, hSm_54, hi⟩
   have hfs55 := hF_52.size
   have hsl := setOf_len (l ++ m.take i)
   have htl := List.length_take_le i m
   have hpl : (l ++ m.take i).length = _ := List.length_append
   refine V.seq fun K56 k57 => ?_
   refine V.sr h50 [] 15 17 [(18, .bool (decide ((i : Int) < ((m.length : Nat) : Int))))] fun a h60 => ?_
   refine V.cp h60 ((i : Int) < ((m.length : Nat) : Int)) (fun ht61 => ?_) (fun ht61 => ?_)
   ·
    refine V.skip ?_
    refine V.then_n (k57 _ _ ?_)
    refine V.seq fun K62 k63 => ?_
    refine V.block ?_
    have hst : insS (setOf (l ++ m.take i)) (at_ Rp.str m (i : Int)) = setOf (l ++ m.take (i + 1)) := by rw [ins_set, take_one (by omega), List.append_assoc]
    obtain ⟨g64, o65, hA66, hA66l, hA66z⟩ := hSm_54.addr (by omega)
    obtain ⟨cs67, hok68, hE69⟩ := hSm_54.els hA66 (i : Int) (by omega) (by omega)
    obtain rfl : cs67 = [.string (at_ Rp.str m (i : Int))] := hok68
    refine V.rg ?_
    refine V.run h60 [(3, .ix g64 o65 m.length cm .i64 (i : Int) 1 hA66), (0, .l ⟨g64, o65 + (i : Int).toNat * 1, none⟩ (.string (at_ Rp.str m (i : Int))) (hE69.at 0 rfl))] 5 22 24 [(21, .slice A2 ((setOf (l ++ m.take i)).length) c2), (25, .string (at_ Rp.str m (i : Int)))] fun a h70 => ?_
    refine V.cl h70 (Go.Proofs.enters_of Try.func42 (by kernel_rfl) rfl) (put_any w49 w.heap.size A2 c2 (setOf (l ++ m.take i)) hO_51 (by omega) (setOf_inc _) (by omega) (at_ Rp.str m (i : Int))) ?_
    rintro _ w75 ⟨A71, c72, rfl, hO73, hF74⟩
    refine ⟨_, rfl, fun a h76 => ?_⟩
    have hsw75 := hF74.size
    have hF_77 := hF_52.new hF74
    have hSl_78 := hSl_53.fr0 hF74
    have hSm_79 := hSm_54.fr0 hF74
    have hE69_80 := hE69.fr0 hF74
    refine V.re h76 [] 1 0 [(7, .slice A71 ((insS (setOf (l ++ m.take i)) (at_ Rp.str m (i : Int))).length) c72)] fun a h81 => ?_
    refine V.blk_n ?_
    refine V.then_n (k63 _ _ ?_)
    refine V.rr h81 [(1, .i ((i : Int) + 1))] 19 20 [(8, .int .i64 ((i : Int) + 1))] fun a h82 => ?_
    refine V.then_n ?_
    refine ⟨i + 1, A71, c72, by omega, ?_⟩
    refine ⟨((h82.eq 7 (v := (.slice A71 ((insS (setOf (l ++ m.take i)) (at_ Rp.str m (i : Int))).length) c72)) (u := (.slice A71 ((setOf (l ++ m.take (i + 1))).length) c72)) (V.sl_eq (congrArg List.length hst))).eq 8 (v := (.int .i64 ((i : Int) + 1))) (u := (.int .i64 ((i + 1) : Int))) (V.int_eq (by omega))).only _, (by rw [← hst]; exact hO73), hF_77, hSl_78, hSm_79, (by omega)⟩
   ·
    refine V.exit ?_
    refine V.then_e ?_
    refine V.then_e ?_
    refine V.blk_hit ?_
    refine V.then_n (k44 _ _ ?_)
    refine V.seq fun K83 k84 => ?_
    have hwl := hO_51.len_le
    refine V.rr h60 [(5, .i ((((setOf (l ++ m.take i)).length : Nat) : Int) - ((l.length : Nat) : Int)))] 27 32 [(4, .slice A2 ((setOf (l ++ m.take i)).length) c2), (5, .int .i64 ((((setOf (l ++ m.take i)).length : Nat) : Int) - ((l.length : Nat) : Int))), (6, .int .i64 0)] fun a h85 => ?_
    refine V.then_n (k84 _ _ ?_)
    refine V.ret ?_
    refine V.r3 h85 (.slice A2 ((setOf (l ++ m.take i)).length) c2) (.int .i64 ((((setOf (l ++ m.take i)).length : Nat) : Int) - ((l.length : Nat) : Int))) (.int .i64 0) ?_
    rcases chkN_cases l with ⟨hz0, hzi⟩ | ⟨hz0, hzi⟩
    · have hq : (setOf (l ++ m.take i)) = setOf (l ++ m) := by rw [List.take_of_length_le (by omega)]
      rw [hq] at hO_51 ⊢
      rw [show addS l m = setOf (l ++ m) from if_pos hzi, show addN l m = _ from if_pos hzi, hz0]; exact ⟨_, _, rfl, hO_51, hF_52⟩
    · exfalso; omega
end Go.Proofs.Ytkepojdmgdgaoaa
