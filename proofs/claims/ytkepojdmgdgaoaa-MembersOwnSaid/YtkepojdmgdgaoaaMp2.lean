/- Walks: the reference: Del. -/
import Derived.Test.YtkepojdmgdgaoaaProg
import Derived.Test.YtkepojdmgdgaoaaMn
namespace Go.Proofs.Ytkepojdmgdgaoaa
open Go.V Go.Base
open Go.RowKit (Below)
attribute [local irreducible] Act.put Act.eval
set_option linter.unusedVariables false
set_option linter.unusedSimpArgs false
set_option maxHeartbeats 4000000 in
set_option maxRecDepth 20000 in
theorem rdel_any (w : World) (Al : Option Addr) (cl : Nat) (l : List ByteArray) (hSl : SlR Rp.str (fun k => k < w.heap.size) w (.slice Al l.length cl) l) (Am : Option Addr) (cm : Nat) (m : List ByteArray) (hSm : SlR Rp.str (fun k => k < w.heap.size) w (.slice Am m.length cm) m) (hl : l.length ≤ 1048576) (hm : m.length ≤ 1048576) : Calls Try.prog 27 #[.slice Al l.length cl, .slice Am m.length cm] w (fun e w' => ∃ A c, e = .returned (.tuple #[.slice A (delS l m).length c, .int .i64 (delN l m), .int .i64 (chkN l)]) ∧ OwR Rp.str NoZ w' w.heap.size 9 (.slice A (delS l m).length c) (delS l m) ∧ Fr [] w w') := by
 have hF := Fr.refl [] w
 refine V.en 38 Try.func27 fun a h1 => ?_
 refine V.sr h1 [] 4 6 [] fun a h4 => ?_
 refine V.seq fun K5 k6 => ?_
 refine V.sg fun K7 k8 => ?_
 refine V.run h4 [] 1 1 0 [(9, .slice Al l.length cl)] fun a h9 => ?_
 refine V.cl h9 (Go.Proofs.enters_of Try.func23 (by kernel_rfl) rfl) (rcheck_any w Al cl l hSl.old ) ?_
 rintro _ w11 ⟨rfl, hF10⟩
 refine ⟨_, rfl, fun a h12 => ?_⟩
 have hsw11 := hF10.size
 have hF_13 := hF.new hF10
 have hSl_14 := hSl.fr0 hF10
 have hSm_15 := hSm.fr0 hF10
 have hq10 := chkN_cases l
 refine V.re h12 [(0, .ne (chkN l) 0)] 1 0 [(11, .bool (decide (¬ (chkN l) = 0)))] fun a h16 => k8 _ _ ?_
 refine V.cp h16 (¬ (chkN l) = 0) (fun ht17 => ?_) (fun ht17 => ?_)
 ·
  refine V.sr h16 [] 1 0 [(4, .slice none 0 0), (5, .int .i64 0), (6, .int .i64 80)] fun a h20 => ?_
  refine V.ret ?_
  refine V.then_r ?_
  refine V.r3 h20 (.slice none 0 0) (.int .i64 0) (.int .i64 80) ?_
  rcases chkN_cases l with ⟨hz0, hzi⟩ | ⟨hz0, hzi⟩
  · exfalso; omega
  · rw [show delS l m = [] from if_neg hzi, show delN l m = 0 from if_neg hzi, hz0]; exact ⟨none, 0, rfl, OwR.nil .., hF_13⟩
 ·
  refine V.skip ?_
  refine V.then_n (k6 _ _ ?_)
  refine V.sr h16 [] 1 0 [(7, .slice none 0 0)] fun a h23 => ?_
  refine V.seq fun K24 k25 => ?_
  refine V.sr h23 [] 1 0 [(8, .int .i64 0)] fun a h28 => ?_
  refine V.block ?_
  refine V.loop3 (fun (i : Nat) (A2 : Option Addr) (c2 : Nat) a_ w_ => En 38 [] a_ [(0, .slice Al l.length cl), (1, .slice Am m.length cm), (7, .slice A2 (((l.take i).filter fun x => !decide (x ∈ m)).length) c2), (8, .int .i64 (i : Int))] ∧ OwR Rp.str NoZ w_ w.heap.size 9 (.slice A2 (((l.take i).filter fun x => !decide (x ∈ m)).length) c2) ((l.take i).filter fun x => !decide (x ∈ m)) ∧ Fr [] w w_ ∧ SlR Rp.str (fun k => k < w.heap.size) w_ (.slice Al l.length cl) l ∧ SlR Rp.str (fun k => k < w.heap.size) w_ (.slice Am m.length cm) m ∧ (i ≤ l.length)) (fun (i : Nat) (A2 : Option Addr) (c2 : Nat) => l.length - i) 0 none 0 ?_ ?_
  ·
   refine ⟨((h28.eq 7 (v := (.slice none 0 0)) (u := (.slice none (((l.take 0).filter fun x => !decide (x ∈ m)).length) 0)) (rfl)).eq 8 (v := (.int .i64 0)) (u := (.int .i64 (0 : Int))) (V.int_eq (by omega))).only _, (OwR.nil ..), hF_13, hSl_14, hSm_15, (by omega)⟩
  ·
   rintro i A2 c2 a29 w30 ⟨h31, hO_32, hF_33, hSl_34, hSm_35, hi⟩
   have hfs36 := hF_33.size
   have hfl := List.length_filter_le (fun x => !decide (x ∈ m)) (l.take i)
   have htl := List.length_take_le i l
   refine V.seq fun K37 k38 => ?_
   refine V.sr h31 [] 12 14 [(15, .bool (decide ((i : Int) < ((l.length : Nat) : Int))))] fun a h41 => ?_
   refine V.cp h41 ((i : Int) < ((l.length : Nat) : Int)) (fun ht42 => ?_) (fun ht42 => ?_)
   ·
    refine V.skip ?_
    refine V.then_n (k38 _ _ ?_)
    refine V.seq fun K43 k44 => ?_
    refine V.block ?_
    obtain ⟨g47, o48, hA49, hA49l, hA49z⟩ := hSl_34.addr (by omega)
    obtain ⟨cs50, hok51, hE52⟩ := hSl_34.els hA49 (i : Int) (by omega) (by omega)
    obtain rfl : cs50 = [.string (at_ Rp.str l (i : Int))] := hok51
    refine V.sg fun K45 k46 => ?_
    refine V.run h41 [(3, .ix g47 o48 l.length cl .i64 (i : Int) 1 hA49), (0, .l ⟨g47, o48 + (i : Int).toNat * 1, none⟩ (.string (at_ Rp.str l (i : Int))) (hE52.at 0 rfl))] 5 19 21 [(18, .slice Am m.length cm), (22, .string (at_ Rp.str l (i : Int)))] fun a h53 => ?_
    refine V.cl h53 (Go.Proofs.enters_of Try.func14 (by kernel_rfl) rfl) (in_any w30 Am cm m hSm_35.old (at_ Rp.str l (i : Int))) ?_
    rintro _ w55 ⟨rfl, hF54⟩
    refine ⟨_, rfl, fun a h56 => ?_⟩
    have hsw55 := hF54.size
    have hO_57 := hO_32.fr0 hF54
    have hF_58 := hF_33.new hF54
    have hSl_59 := hSl_34.fr0 hF54
    have hSm_60 := hSm_35.fr0 hF54
    have hE52_61 := hE52.fr0 hF54
    refine V.re h56 [(0, .q (.bool (decide (¬ ((at_ Rp.str l (i : Int)) ∈ m)))) V.t_not)] 1 0 [(24, .bool (decide (¬ ((at_ Rp.str l (i : Int)) ∈ m))))] fun a h62 => k46 _ _ ?_
    refine V.cp h62 (¬ ((at_ Rp.str l (i : Int)) ∈ m)) (fun ht63 => ?_) (fun ht63 => ?_)
    ·
     refine V.rg ?_
     refine V.run h62 [(3, .ix g47 o48 l.length cl .i64 (i : Int) 1 hA49), (0, .l ⟨g47, o48 + (i : Int).toNat * 1, none⟩ (.string (at_ Rp.str l (i : Int))) (hE52_61.at 0 rfl))] 5 26 28 [(25, .slice A2 (((l.take i).filter fun x => !decide (x ∈ m)).length) c2), (29, .string (at_ Rp.str l (i : Int)))] fun a h64 => ?_
     refine V.go (V.mk [(29, .string (at_ Rp.str l (i : Int)))] ⟨h64.e, trivial⟩ (by kernel_rfl) [.string (at_ Rp.str l (i : Int))] 9 (fun b => .slice (some ⟨b, 0, none⟩) 1 1) (by kernel_rfl) ?_)
     intro w66 b65 heb65 hB67 hF68 hsb65
     have hO_69 := hO_57.fr0 hF68
     have hF_70 := hF_58.new hF68
     have hSl_71 := hSl_59.fr0 hF68
     have hSm_72 := hSm_60.fr0 hF68
     have hE52_73 := hE52_61.fr0 hF68
     refine V.pt h64 fun a h74 => ?_
     refine V.go (V.app (R := Rp.str) (ys := ([(at_ Rp.str l (i : Int))])) (news := [.string (at_ Rp.str l (i : Int))]) (h74.e (v := (.slice A2 (((l.take i).filter fun x => !decide (x ∈ m)).length) c2))) ⟨b65, 0, none⟩ 1 1 (h74.e (v := (.slice (some ⟨b65, 0, none⟩) 1 1))) (by kernel_rfl) (info9) (by kernel_rfl) (by decide) hO_69 rfl ⟨_, [], rfl, rfl, rfl⟩ (blk_cells hB67 0 _ rfl) (by first | omega | (simp; omega)) (by decide) (by omega) ?_)
     intro A75 c76 w77 hO78z hF79 hatw77
     have hsw77 := hF79.size
     have hF_80 := hF_70.own hF79 (own_ge hO_69 (by omega))
     have hSl_81 := hSl_71.fr hF79 (by intro b hb hz; have := own_ge hO_69 (Nat.le_refl _) b hb; (try dsimp only at hz); omega)
     have hSm_82 := hSm_72.fr hF79 (by intro b hb hz; have := own_ge hO_69 (Nat.le_refl _) b hb; (try dsimp only at hz); omega)
     have hE52_83 := hE52_73.fr hF79 (by first | exact own_notin hO_69 (by omega) | exact own_notin2 hO_32 (by omega))
     have hO78 := hO78z.zone (Z' := NoZ) (fun _ _ q => q.1) (fun _ _ q => q)
     refine V.pt h74 fun a h84 => ?_
     refine V.re h84 [] 1 0 [(7, .slice A75 ((((l.take i).filter fun x => !decide (x ∈ m)).length) + 1) c76)] fun a h85 => ?_
     refine V.blk_n ?_
     refine V.then_n (k44 _ _ ?_)
     refine V.rr h85 [(1, .i ((i : Int) + 1))] 16 17 [(8, .int .i64 ((i : Int) + 1))] fun a h86 => ?_
     refine V.then_n ?_
     have hqs : ((l.take (i + 1)).filter fun x => !decide (x ∈ m)) = ((l.take i).filter fun x => !decide (x ∈ m)) ++ [(at_ Rp.str l (i : Int))] := by rw [take_one (by omega), List.filter_append]; have hkk := ht63; simp [hkk]
     refine ⟨i + 1, A75, c76, by omega, ?_⟩
     refine ⟨((h86.eq 7 (v := (.slice A75 ((((l.take i).filter fun x => !decide (x ∈ m)).length) + 1) c76)) (u := (.slice A75 (((l.take (i + 1)).filter fun x => !decide (x ∈ m)).length) c76)) (V.sl_eq (by rw [hqs]; simp))).eq 8 (v := (.int .i64 ((i : Int) + 1))) (u := (.int .i64 ((i + 1) : Int))) (V.int_eq (by omega))).only _, (by rw [hqs]; simpa using hO78), hF_80, hSl_81, hSm_82, (by omega)⟩
    ·
     refine V.skip ?_
     refine V.blk_n ?_
     refine V.then_n (k44 _ _ ?_)
     refine V.rr h62 [(1, .i ((i : Int) + 1))] 16 17 [(8, .int .i64 ((i : Int) + 1))] fun a h87 => ?_
     refine V.then_n ?_
     have hqs : ((l.take (i + 1)).filter fun x => !decide (x ∈ m)) = ((l.take i).filter fun x => !decide (x ∈ m)) := by rw [take_one (by omega), List.filter_append]; have hkk := ht63; simp [hkk]
     refine ⟨i + 1, A2, c2, by omega, ?_⟩
     refine ⟨((h87.eq 7 (v := (.slice A2 (((l.take i).filter fun x => !decide (x ∈ m)).length) c2)) (u := (.slice A2 (((l.take (i + 1)).filter fun x => !decide (x ∈ m)).length) c2)) (V.sl_eq (by rw [hqs]))).eq 8 (v := (.int .i64 ((i : Int) + 1))) (u := (.int .i64 ((i + 1) : Int))) (V.int_eq (by omega))).only _, (by rw [hqs]; exact hO_57), hF_58, hSl_59, hSm_60, (by omega)⟩
   ·
    refine V.exit ?_
    refine V.then_e ?_
    refine V.then_e ?_
    refine V.blk_hit ?_
    refine V.then_n (k25 _ _ ?_)
    refine V.sr h41 [(5, .i (((l.length : Nat) : Int) - ((((l.take i).filter fun x => !decide (x ∈ m)).length : Nat) : Int)))] 32 37 [(4, .slice A2 (((l.take i).filter fun x => !decide (x ∈ m)).length) c2), (5, .int .i64 (((l.length : Nat) : Int) - ((((l.take i).filter fun x => !decide (x ∈ m)).length : Nat) : Int))), (6, .int .i64 0)] fun a h90 => ?_
    refine V.ret ?_
    refine V.r3 h90 (.slice A2 (((l.take i).filter fun x => !decide (x ∈ m)).length) c2) (.int .i64 (((l.length : Nat) : Int) - ((((l.take i).filter fun x => !decide (x ∈ m)).length : Nat) : Int))) (.int .i64 0) ?_
    rcases chkN_cases l with ⟨hz0, hzi⟩ | ⟨hz0, hzi⟩
    · rw [List.take_of_length_le (show l.length ≤ i by omega)] at hO_32 ⊢
      rw [show delS l m = _ from if_pos hzi, show delN l m = _ from if_pos hzi, hz0]; exact ⟨_, _, rfl, hO_32, hF_33⟩
    · exfalso; omega
end Go.Proofs.Ytkepojdmgdgaoaa
