/- Walks: the reference: Look, Get, Put, New. -/
import Derived.Test.YtalhmegjomfbaaaProg
import Derived.Test.YtalhmegjomfbaaaRb
namespace Go.Proofs.Ytalhmegjomfbaaa
open Go.V Go.Base
open Go.RowKit (Below)
attribute [local irreducible] Act.put Act.eval
set_option linter.unusedVariables false
set_option linter.unusedSimpArgs false
section
variable {w : World} {H : Nat → Prop} {av : List Nat} {t : Nat} {T : Tb Int}
theorem rfind_any (w : World) (H : Nat → Prop) (av : List Nat) (t : Nat) (T : Tb Int) (hT : TabX 40 42 60 itI w H av t T) (k : ByteArray) (hk : k.size ≤ 9223372036854775807) :
    Calls Try.prog 71 #[.pointer (some ⟨t, 0, none⟩), .string k] w (fun e w' => e = .returned (.tuple #[.int .i64 (rfT T k).1, .int .i64 (rfT T k).2.1, .int .i64 (rfT T k).2.2]) ∧ Fr [] w w') := by
  rcases hT.2 with ⟨hb, gA, vsA, h⟩ | ⟨hb, gA, gB, vsA, vsB, h⟩
  · exact rfind_N w H av t gA vsA T hT.1 h k hk (by rw [hb]; rfl)
  · exact rfind_M w H av t gA gB vsA vsB T hT.1 h k hk (fun h => hb (List.eq_nil_of_length_eq_zero h))
theorem rstep_any (w : World) (H : Nat → Prop) (av : List Nat) (t : Nat) (T : Tb Int) (hT : TabX 40 42 60 itI w H av t T) (hm : T.Mv) :
    Calls Try.prog 49 #[.pointer (some ⟨t, 0, none⟩)] w (fun e w' => e = .returned (.bool (decide ((tbStep T).b.length ≠ 0))) ∧ TabX 40 42 60 itI w' (gr H w w') av t (tbStep T) ∧ FrP (gp H av) w w') := by
  rcases hT.2 with ⟨hb, gA, vsA, h⟩ | ⟨hb, gA, gB, vsA, vsB, h⟩
  · have hb0 : T.b.length = 0 := by rw [hb]; rfl
    have hst : tbStep T = T := by unfold tbStep; rw [if_pos hb0]
    refine (rstep_N w H av t gA vsA T hT.1 h hb0).mono fun e w' q => ⟨?_, ?_, (FrP.refl _ _).tr0 q.2⟩
    · rw [hst, q.1, decide_eq_false (by omega)]
    · rw [hst]; exact (hT.fr0 q.2).gr1
  · exact rstep_M w H av t gA gB vsA vsB T hT.1 h (fun h => hb (List.eq_nil_of_length_eq_zero h)) hm
end
set_option maxHeartbeats 4000000 in
set_option maxRecDepth 20000 in
theorem rlook_any (w : World) (H : Nat → Prop) (av : List Nat) (t : Nat) (T1 : Tb Int) (hT : TabX 40 42 60 itI w H av t T1) (k : ByteArray) (hkz : k.size ≤ 9223372036854775807) : Calls Try.prog 48 #[.pointer (some ⟨t, 0, none⟩), .string k] w (fun e w' => e = .returned (.tuple #[.int .i64 (lookT 0 T1 k).1, .bool (lookT 0 T1 k).2]) ∧ Fr [] w w') := by
 have hFP := FrP.refl (gp H av) w
 have hF := Fr.refl [] w
 refine V.en 43 Try.func48 fun a h1 => ?_
 refine V.sr h1 [] 4 5 [] fun a h4 => ?_
 refine V.sg fun K5 k6 => ?_
 refine V.run h4 [] 2 1 0 [(10, .pointer (some ⟨t, 0, none⟩)), (11, .string k)] fun a h7 => ?_
 have hok1 := hT.1
 rcases findT_cases hok1 k with hf | ⟨j, hf, hj⟩ | ⟨hbn, j, hf, hj⟩
 ·
  rcases hT.2 with ⟨hb0, gA, vsA, hN⟩ | ⟨hb0, gA, gB, vsA, vsB, hN⟩
  ·
   have hb1 : T1.b.length = 0 := by rw [hb0]; rfl
   obtain ⟨hB, hRA, hlA, hK, hne, hpt, hpg⟩ := hN
   replace hK := hK.toH
   have hltt := hB.lt
   have hltg := hRA.lt
   have hE : FrP (gp (H) av) w w := FrP.refl _ _
   have hK0 : ∀ k ∈ av, k < w.heap.size := fun k hk => hK.avl k (by simp [hk])
   obtain ⟨hsd, hpa, hla, hlb, hmv, hmz, hnn, hcn, hks⟩ := (show T1.Ok from hok1)
   have hbl := hok1.bl
   have hFPE := hFP
   refine V.go (V.call 71 #[] #[.pointer (some ⟨t, 0, none⟩), .string k] evf (args2 h7.e h7.e) (Go.Proofs.enters_of Try.func71 (by kernel_rfl) rfl) (by have h := rfind_any w (H) (av) t T1 hT k hkz; rw [rfT_no hf] at h; exact h) ?_)
   rintro _ w9 ⟨rfl, hF8⟩
   refine ⟨_, rfl, ?_⟩
   have hsw9 := hF8.size
   have hF_10 := hF.new hF8
   have hB_11 := hB.fr0 hF8
   have hRA_12 := hRA.fr0 hF8
   have hK_13 := hK.fr0 hF8
   have hE_14 := hE.tr0 hF8
   refine V.pt h7 fun a h15 => ?_
   refine V.re h15 [] 9 15 [(6, .int .i64 (-1)), (7, .int .i64 0), (8, .int .i64 0)] fun a h16 => k6 _ _ ?_
   refine V.seq fun K17 k18 => ?_
   refine V.sr h16 [] 1 0 [(16, .int .i64 (-1))] fun a h21 => ?_
   refine V.block ?_
   refine V.sr h21 [] 18 18 [(17, .bool false)] fun a h24 => ?_
   refine V.cf h24 ?_
   refine V.sr h24 [] 31 31 [(30, .bool false)] fun a h27 => ?_
   refine V.cf h27 ?_
   refine V.skip ?_
   refine V.blk_n ?_
   refine V.then_n (k18 _ _ ?_)
   refine V.sr h27 [] 1 0 [(4, .int .i64 0), (5, .bool false)] fun a h30 => ?_
   refine V.ret ?_
   refine V.r2 h30 (.int .i64 0) (.bool false) ?_
   refine ⟨?_, hF_10⟩
   unfold lookT; rw [hf]
   rfl
  ·
   have hb1 : T1.b.length ≠ 0 := fun h => hb0 (List.eq_nil_of_length_eq_zero h)
   obtain ⟨hB, hRA, hRB, hlA, hlB, hK, hne, hne2, hne3, hpt, hpg, hph⟩ := hN
   replace hK := hK.toH
   have hltt := hB.lt
   have hltg := hRA.lt
   have hltg2 := hRB.lt
   have hE : FrP (gp (H) av) w w := FrP.refl _ _
   have hK0 : ∀ k ∈ av, k < w.heap.size := fun k hk => hK.avl k (by simp [hk])
   obtain ⟨hsd, hpa, hla, hlb, hmv, hmz, hnn, hcn, hks⟩ := (show T1.Ok from hok1)
   have hbl := hok1.bl
   have hFPE := hFP
   refine V.go (V.call 71 #[] #[.pointer (some ⟨t, 0, none⟩), .string k] evf (args2 h7.e h7.e) (Go.Proofs.enters_of Try.func71 (by kernel_rfl) rfl) (by have h := rfind_any w (H) (av) t T1 hT k hkz; rw [rfT_no hf] at h; exact h) ?_)
   rintro _ w32 ⟨rfl, hF31⟩
   refine ⟨_, rfl, ?_⟩
   have hsw32 := hF31.size
   have hF_33 := hF.new hF31
   have hB_34 := hB.fr0 hF31
   have hRA_35 := hRA.fr0 hF31
   have hRB_36 := hRB.fr0 hF31
   have hK_37 := hK.fr0 hF31
   have hE_38 := hE.tr0 hF31
   refine V.pt h7 fun a h39 => ?_
   refine V.re h39 [] 9 15 [(6, .int .i64 (-1)), (7, .int .i64 0), (8, .int .i64 0)] fun a h40 => k6 _ _ ?_
   refine V.seq fun K41 k42 => ?_
   refine V.sr h40 [] 1 0 [(16, .int .i64 (-1))] fun a h45 => ?_
   refine V.block ?_
   refine V.sr h45 [] 18 18 [(17, .bool false)] fun a h48 => ?_
   refine V.cf h48 ?_
   refine V.sr h48 [] 31 31 [(30, .bool false)] fun a h51 => ?_
   refine V.cf h51 ?_
   refine V.skip ?_
   refine V.blk_n ?_
   refine V.then_n (k42 _ _ ?_)
   refine V.sr h51 [] 1 0 [(4, .int .i64 0), (5, .bool false)] fun a h54 => ?_
   refine V.ret ?_
   refine V.r2 h54 (.int .i64 0) (.bool false) ?_
   refine ⟨?_, hF_33⟩
   unfold lookT; rw [hf]
   rfl
 ·
  rcases hT.2 with ⟨hb0, gA, vsA, hN⟩ | ⟨hb0, gA, gB, vsA, vsB, hN⟩
  ·
   have hb1 : T1.b.length = 0 := by rw [hb0]; rfl
   obtain ⟨hB, hRA, hlA, hK, hne, hpt, hpg⟩ := hN
   replace hK := hK.toH
   have hltt := hB.lt
   have hltg := hRA.lt
   have hE : FrP (gp (H) av) w w := FrP.refl _ _
   have hK0 : ∀ k ∈ av, k < w.heap.size := fun k hk => hK.avl k (by simp [hk])
   obtain ⟨hsd, hpa, hla, hlb, hmv, hmz, hnn, hcn, hks⟩ := (show T1.Ok from hok1)
   have hbl := hok1.bl
   have hFPE := hFP
   refine V.go (V.call 71 #[] #[.pointer (some ⟨t, 0, none⟩), .string k] evf (args2 h7.e h7.e) (Go.Proofs.enters_of Try.func71 (by kernel_rfl) rfl) (by have h := rfind_any w (H) (av) t T1 hT k hkz; rw [rfT_yes hf] at h; exact h) ?_)
   rintro _ w56 ⟨rfl, hF55⟩
   refine ⟨_, rfl, ?_⟩
   have hsw56 := hF55.size
   have hF_57 := hF.new hF55
   have hB_58 := hB.fr0 hF55
   have hRA_59 := hRA.fr0 hF55
   have hK_60 := hK.fr0 hF55
   have hE_61 := hE.tr0 hF55
   refine V.pt h7 fun a h62 => ?_
   have hbkl := bkt_lt T1.seed k (n := T1.a.length) (by omega)
   have hbq := hbl (bkt T1.seed T1.a.length k)
   refine V.re h62 [] 9 15 [(6, .int .i64 0), (7, .int .i64 ((bkt T1.seed T1.a.length k : Nat) : Int)), (8, .int .i64 (j : Int))] fun a h63 => k6 _ _ ?_
   refine V.seq fun K64 k65 => ?_
   refine V.sr h63 [] 1 0 [(16, .int .i64 0)] fun a h68 => ?_
   refine V.block ?_
   refine V.sr h68 [] 18 18 [(17, .bool true)] fun a h71 => ?_
   refine V.ct h71 ?_
   obtain ⟨A74, c75, hv76⟩ := hK_60.getA hlA (i := (bkt T1.seed T1.a.length k)) (by omega) nilS
   have hS77 := hK_60.slA hlA (i := (bkt T1.seed T1.a.length k)) (by omega) hv76
   obtain ⟨g78, o79, hA80, hA80l, hA80z⟩ := hS77.addr (by omega)
   obtain ⟨cs81, hok82, hE83⟩ := hS77.els hA80 (j : Int) (by omega) (by omega)
   refine V.sg fun K72 k73 => ?_
   refine V.run h71 [(3, .b hB_58 1), (1, .ix gA 0 T1.a.length T1.a.length .i64 ((bkt T1.seed T1.a.length k : Nat) : Int) 1 rfl), (0, .l ⟨gA, 0 + ((bkt T1.seed T1.a.length k : Nat) : Int).toNat * 1, none⟩ (.slice A74 ((T1.a.getD (bkt T1.seed T1.a.length k) []).length) c75) ((hRA_59.at (bkt T1.seed T1.a.length k) nilS (by omega)).trans (congrArg some hv76))), (1, .ix g78 o79 ((T1.a.getD (bkt T1.seed T1.a.length k) []).length) c75 .i64 (j : Int) 2 hA80)] 10 19 27 [(28, .pointer (some ⟨g78, (o79 + (j : Int).toNat * 2) + 1, none⟩))] fun a h84 => ?_
   obtain rfl : cs81 = [.string (at_ itI (T1.a.getD (bkt T1.seed T1.a.length k) []) (j : Int)).1, .int .i64 (at_ itI (T1.a.getD (bkt T1.seed T1.a.length k) []) (j : Int)).2] := hok82
   refine V.re h84 [(0, .l ⟨g78, (o79 + (j : Int).toNat * 2) + 1, none⟩ (.int .i64 ((at_ itI (T1.a.getD (bkt T1.seed T1.a.length k) []) (j : Int)).2)) (hE83.at 1 rfl))] 29 29 [(4, .int .i64 ((at_ itI (T1.a.getD (bkt T1.seed T1.a.length k) []) (j : Int)).2)), (5, .bool true)] fun a h85 => k73 _ _ ?_
   refine V.ret ?_
   refine V.blk_r ?_
   refine V.then_r ?_
   refine V.r2 h85 (.int .i64 ((at_ itI (T1.a.getD (bkt T1.seed T1.a.length k) []) (j : Int)).2)) (.bool true) ?_
   refine ⟨?_, hF_57⟩
   unfold lookT; rw [hf]
   rfl
  ·
   have hb1 : T1.b.length ≠ 0 := fun h => hb0 (List.eq_nil_of_length_eq_zero h)
   obtain ⟨hB, hRA, hRB, hlA, hlB, hK, hne, hne2, hne3, hpt, hpg, hph⟩ := hN
   replace hK := hK.toH
   have hltt := hB.lt
   have hltg := hRA.lt
   have hltg2 := hRB.lt
   have hE : FrP (gp (H) av) w w := FrP.refl _ _
   have hK0 : ∀ k ∈ av, k < w.heap.size := fun k hk => hK.avl k (by simp [hk])
   obtain ⟨hsd, hpa, hla, hlb, hmv, hmz, hnn, hcn, hks⟩ := (show T1.Ok from hok1)
   have hbl := hok1.bl
   have hFPE := hFP
   refine V.go (V.call 71 #[] #[.pointer (some ⟨t, 0, none⟩), .string k] evf (args2 h7.e h7.e) (Go.Proofs.enters_of Try.func71 (by kernel_rfl) rfl) (by have h := rfind_any w (H) (av) t T1 hT k hkz; rw [rfT_yes hf] at h; exact h) ?_)
   rintro _ w87 ⟨rfl, hF86⟩
   refine ⟨_, rfl, ?_⟩
   have hsw87 := hF86.size
   have hF_88 := hF.new hF86
   have hB_89 := hB.fr0 hF86
   have hRA_90 := hRA.fr0 hF86
   have hRB_91 := hRB.fr0 hF86
   have hK_92 := hK.fr0 hF86
   have hE_93 := hE.tr0 hF86
   refine V.pt h7 fun a h94 => ?_
   have hbkl := bkt_lt T1.seed k (n := T1.a.length) (by omega)
   have hbq := hbl (bkt T1.seed T1.a.length k)
   refine V.re h94 [] 9 15 [(6, .int .i64 0), (7, .int .i64 ((bkt T1.seed T1.a.length k : Nat) : Int)), (8, .int .i64 (j : Int))] fun a h95 => k6 _ _ ?_
   refine V.seq fun K96 k97 => ?_
   refine V.sr h95 [] 1 0 [(16, .int .i64 0)] fun a h100 => ?_
   refine V.block ?_
   refine V.sr h100 [] 18 18 [(17, .bool true)] fun a h103 => ?_
   refine V.ct h103 ?_
   obtain ⟨A106, c107, hv108⟩ := hK_92.getA hlA (i := (bkt T1.seed T1.a.length k)) (by omega) nilS
   have hS109 := hK_92.slA hlA (i := (bkt T1.seed T1.a.length k)) (by omega) hv108
   obtain ⟨g110, o111, hA112, hA112l, hA112z⟩ := hS109.addr (by omega)
   obtain ⟨cs113, hok114, hE115⟩ := hS109.els hA112 (j : Int) (by omega) (by omega)
   refine V.sg fun K104 k105 => ?_
   refine V.run h103 [(3, .b hB_89 1), (1, .ix gA 0 T1.a.length T1.a.length .i64 ((bkt T1.seed T1.a.length k : Nat) : Int) 1 rfl), (0, .l ⟨gA, 0 + ((bkt T1.seed T1.a.length k : Nat) : Int).toNat * 1, none⟩ (.slice A106 ((T1.a.getD (bkt T1.seed T1.a.length k) []).length) c107) ((hRA_90.at (bkt T1.seed T1.a.length k) nilS (by omega)).trans (congrArg some hv108))), (1, .ix g110 o111 ((T1.a.getD (bkt T1.seed T1.a.length k) []).length) c107 .i64 (j : Int) 2 hA112)] 10 19 27 [(28, .pointer (some ⟨g110, (o111 + (j : Int).toNat * 2) + 1, none⟩))] fun a h116 => ?_
   obtain rfl : cs113 = [.string (at_ itI (T1.a.getD (bkt T1.seed T1.a.length k) []) (j : Int)).1, .int .i64 (at_ itI (T1.a.getD (bkt T1.seed T1.a.length k) []) (j : Int)).2] := hok114
   refine V.re h116 [(0, .l ⟨g110, (o111 + (j : Int).toNat * 2) + 1, none⟩ (.int .i64 ((at_ itI (T1.a.getD (bkt T1.seed T1.a.length k) []) (j : Int)).2)) (hE115.at 1 rfl))] 29 29 [(4, .int .i64 ((at_ itI (T1.a.getD (bkt T1.seed T1.a.length k) []) (j : Int)).2)), (5, .bool true)] fun a h117 => k105 _ _ ?_
   refine V.ret ?_
   refine V.blk_r ?_
   refine V.then_r ?_
   refine V.r2 h117 (.int .i64 ((at_ itI (T1.a.getD (bkt T1.seed T1.a.length k) []) (j : Int)).2)) (.bool true) ?_
   refine ⟨?_, hF_88⟩
   unfold lookT; rw [hf]
   rfl
 ·
  rcases hT.2 with ⟨hb0, gA, vsA, hN⟩ | ⟨hb0, gA, gB, vsA, vsB, hN⟩
  ·
   exact absurd (by rw [hb0]; rfl) hbn
  ·
   have hb1 : T1.b.length ≠ 0 := fun h => hb0 (List.eq_nil_of_length_eq_zero h)
   obtain ⟨hB, hRA, hRB, hlA, hlB, hK, hne, hne2, hne3, hpt, hpg, hph⟩ := hN
   replace hK := hK.toH
   have hltt := hB.lt
   have hltg := hRA.lt
   have hltg2 := hRB.lt
   have hE : FrP (gp (H) av) w w := FrP.refl _ _
   have hK0 : ∀ k ∈ av, k < w.heap.size := fun k hk => hK.avl k (by simp [hk])
   obtain ⟨hsd, hpa, hla, hlb, hmv, hmz, hnn, hcn, hks⟩ := (show T1.Ok from hok1)
   have hbl := hok1.bl
   have hFPE := hFP
   refine V.go (V.call 71 #[] #[.pointer (some ⟨t, 0, none⟩), .string k] evf (args2 h7.e h7.e) (Go.Proofs.enters_of Try.func71 (by kernel_rfl) rfl) (by have h := rfind_any w (H) (av) t T1 hT k hkz; rw [rfT_yes hf] at h; exact h) ?_)
   rintro _ w119 ⟨rfl, hF118⟩
   refine ⟨_, rfl, ?_⟩
   have hsw119 := hF118.size
   have hF_120 := hF.new hF118
   have hB_121 := hB.fr0 hF118
   have hRA_122 := hRA.fr0 hF118
   have hRB_123 := hRB.fr0 hF118
   have hK_124 := hK.fr0 hF118
   have hE_125 := hE.tr0 hF118
   refine V.pt h7 fun a h126 => ?_
   have hbkl := bkt_lt T1.seed k (n := T1.b.length) (by omega)
   have hbq := hbl (bkt T1.seed T1.b.length k)
   refine V.re h126 [] 9 15 [(6, .int .i64 1), (7, .int .i64 ((bkt T1.seed T1.b.length k : Nat) : Int)), (8, .int .i64 (j : Int))] fun a h127 => k6 _ _ ?_
   refine V.seq fun K128 k129 => ?_
   refine V.sr h127 [] 1 0 [(16, .int .i64 1)] fun a h132 => ?_
   refine V.block ?_
   refine V.sr h132 [] 18 18 [(17, .bool false)] fun a h135 => ?_
   refine V.cf h135 ?_
   refine V.sr h135 [] 31 31 [(30, .bool true)] fun a h138 => ?_
   refine V.ct h138 ?_
   obtain ⟨A141, c142, hv143⟩ := hK_124.getB hlA (i := (bkt T1.seed T1.b.length k)) (by omega) nilS
   have hS144 := hK_124.slB hlA (i := (bkt T1.seed T1.b.length k)) (by omega) hv143
   obtain ⟨g145, o146, hA147, hA147l, hA147z⟩ := hS144.addr (by omega)
   obtain ⟨cs148, hok149, hE150⟩ := hS144.els hA147 (j : Int) (by omega) (by omega)
   refine V.sg fun K139 k140 => ?_
   refine V.run h138 [(3, .b hB_121 2), (1, .ix gB 0 T1.b.length T1.b.length .i64 ((bkt T1.seed T1.b.length k : Nat) : Int) 1 rfl), (0, .l ⟨gB, 0 + ((bkt T1.seed T1.b.length k : Nat) : Int).toNat * 1, none⟩ (.slice A141 ((T1.b.getD (bkt T1.seed T1.b.length k) []).length) c142) ((hRB_123.at (bkt T1.seed T1.b.length k) nilS (by omega)).trans (congrArg some hv143))), (1, .ix g145 o146 ((T1.b.getD (bkt T1.seed T1.b.length k) []).length) c142 .i64 (j : Int) 2 hA147)] 10 32 40 [(41, .pointer (some ⟨g145, (o146 + (j : Int).toNat * 2) + 1, none⟩))] fun a h151 => ?_
   obtain rfl : cs148 = [.string (at_ itI (T1.b.getD (bkt T1.seed T1.b.length k) []) (j : Int)).1, .int .i64 (at_ itI (T1.b.getD (bkt T1.seed T1.b.length k) []) (j : Int)).2] := hok149
   refine V.re h151 [(0, .l ⟨g145, (o146 + (j : Int).toNat * 2) + 1, none⟩ (.int .i64 ((at_ itI (T1.b.getD (bkt T1.seed T1.b.length k) []) (j : Int)).2)) (hE150.at 1 rfl))] 42 42 [(4, .int .i64 ((at_ itI (T1.b.getD (bkt T1.seed T1.b.length k) []) (j : Int)).2)), (5, .bool true)] fun a h152 => k140 _ _ ?_
   refine V.ret ?_
   refine V.blk_r ?_
   refine V.then_r ?_
   refine V.r2 h152 (.int .i64 ((at_ itI (T1.b.getD (bkt T1.seed T1.b.length k) []) (j : Int)).2)) (.bool true) ?_
   refine ⟨?_, hF_120⟩
   unfold lookT; rw [hf]
   rfl
set_option maxHeartbeats 4000000 in
set_option maxRecDepth 20000 in
theorem rget_any (w : World) (H : Nat → Prop) (av : List Nat) (t : Nat) (T : Tb Int) (hT : TabX 40 42 60 itI w H av t T) (hm : T.Mv) (k : ByteArray) (hkz : k.size ≤ 9223372036854775807) : Calls Try.prog 46 #[.pointer (some ⟨t, 0, none⟩), .string k] w (fun e w' => e = .returned (.tuple #[.int .i64 (lookT 0 (tbStep T) k).1, .bool (lookT 0 (tbStep T) k).2]) ∧ TabX 40 42 60 itI w' (gr H w w') av t (tbStep T) ∧ FrP (gp H av) w w') := by
 have hFP := FrP.refl (gp H av) w
 obtain ⟨hok0, hm1⟩ := tbStep_ok hT.1 hm
 obtain ⟨T1, hT1⟩ : ∃ T1, T1 = tbStep T := ⟨_, rfl⟩
 rw [← hT1] at hok0 hm1 ⊢
 refine V.en 13 Try.func46 fun a h1 => ?_
 refine V.sr h1 [] 4 5 [] fun a h4 => ?_
 refine V.sg fun K5 k6 => ?_
 refine V.run h4 [] 1 1 0 [(6, .pointer (some ⟨t, 0, none⟩))] fun a h7 => ?_
 refine V.cl h7 (Go.Proofs.enters_of Try.func49 (by kernel_rfl) rfl) (rstep_any w (H) (av) t (T) hT hm) ?_
 rintro _ w10 ⟨rfl, hT8, hfp9⟩
 refine ⟨_, rfl, fun a h11 => ?_⟩
 have hsw10 := hfp9.size
 have hFP_12 := hFP.trP hfp9 (fun k hk => .inl hk)
 have hT8q := hT8.grm (w := w) (by omega)
 rw [← hT1] at hT8q
 refine V.nt (k6 _ _ ?_)
 refine V.sg fun K13 k14 => ?_
 refine V.run h11 [] 2 1 0 [(8, .pointer (some ⟨t, 0, none⟩)), (9, .string k)] fun a h15 => ?_
 refine V.cl h15 (Go.Proofs.enters_of Try.func48 (by kernel_rfl) rfl) (rlook_any w10 (gr H w w10) (av) t (T1) hT8q k (by first | exact hkz | decide | omega)) ?_
 rintro _ w17 ⟨rfl, hF16⟩
 refine ⟨_, rfl, fun a h18 => ?_⟩
 have hsw17 := hF16.size
 have hFP_19 := hFP_12.tr0 hF16
 have hT8q_20 := hT8q.fr0 hF16
 refine V.re h18 [] 11 12 [(4, .int .i64 ((lookT 0 (T1) k).1)), (5, .bool ((lookT 0 (T1) k).2))] fun a h21 => k14 _ _ ?_
 refine V.ret ?_
 refine V.r2 h21 (.int .i64 ((lookT 0 (T1) k).1)) (.bool ((lookT 0 (T1) k).2)) ?_
 exact ⟨rfl, hT8q_20.grl (by omega), hFP_19⟩
set_option maxHeartbeats 4000000 in
set_option maxRecDepth 20000 in
theorem rput_any (w : World) (H : Nat → Prop) (av : List Nat) (t : Nat) (T : Tb Int) (hT : TabX 40 42 60 itI w H av t T) (hm : T.Mv) (k : ByteArray) (hkz : k.size ≤ 9223372036854775807) (v : Int) (hv : -9223372036854775808 ≤ v ∧ v ≤ 9223372036854775807) (hn : T.n < 1099511627776) : Calls Try.prog 45 #[.pointer (some ⟨t, 0, none⟩), .string k, .int .i64 v] w (fun e w' => e = .returned (.bool (findT (tbStep T) k).2) ∧ TabX 40 42 60 itI w' (gr H w w') av t (putT T k v) ∧ FrP (gp H av) w w') := by
 have hFP := FrP.refl (gp H av) w
 obtain ⟨hok0, hm1⟩ := tbStep_ok hT.1 hm
 obtain ⟨T1, hT1⟩ : ∃ T1, T1 = tbStep T := ⟨_, rfl⟩
 rw [← hT1] at hok0 hm1 ⊢
 have hn1 : T1.n < 1099511627776 := by rw [hT1, tbStep_n]; exact hn
 refine V.en 131 Try.func45 fun a h1 => ?_
 refine V.sr h1 [] 6 6 [] fun a h4 => ?_
 refine V.sg fun K5 k6 => ?_
 refine V.run h4 [] 1 1 0 [(10, .pointer (some ⟨t, 0, none⟩))] fun a h7 => ?_
 refine V.cl h7 (Go.Proofs.enters_of Try.func49 (by kernel_rfl) rfl) (rstep_any w (H) (av) t (T) hT hm) ?_
 rintro _ w10 ⟨rfl, hT8, hfp9⟩
 refine ⟨_, rfl, fun a h11 => ?_⟩
 have hsw10 := hfp9.size
 have hFP_12 := hFP.trP hfp9 (fun k hk => .inl hk)
 have hT8q := hT8.grm (w := w) (by omega)
 rw [← hT1] at hT8q
 refine V.nt (k6 _ _ ?_)
 refine V.sg fun K13 k14 => ?_
 refine V.run h11 [] 2 1 0 [(13, .pointer (some ⟨t, 0, none⟩)), (14, .string k)] fun a h15 => ?_
 have hok1 := hT8q.1
 rcases findT_cases hok1 k with hf | ⟨j, hf, hj⟩ | ⟨hbn, j, hf, hj⟩
 ·
  rcases hT8q.2 with ⟨hb0, gA, vsA, hN⟩ | ⟨hb0, gA, gB, vsA, vsB, hN⟩
  ·
   have hb1 : T1.b.length = 0 := by rw [hb0]; rfl
   obtain ⟨hB, hRA, hlA, hK, hne, hpt, hpg⟩ := hN
   replace hK := hK.toH
   have hltt := hB.lt
   have hltg := hRA.lt
   have hE : FrP (gp (gr H w w10) av) w10 w10 := FrP.refl _ _
   have hK0 : ∀ k ∈ av, k < w10.heap.size := fun k hk => hK.avl k (by simp [hk])
   obtain ⟨hsd, hpa, hla, hlb, hmv, hmz, hnn, hcn, hks⟩ := (show T1.Ok from hok1)
   have hbl := hok1.bl
   have hFPE := hFP_12
   refine V.go (V.call 71 #[] #[.pointer (some ⟨t, 0, none⟩), .string k] evf (args2 h15.e h15.e) (Go.Proofs.enters_of Try.func71 (by kernel_rfl) rfl) (by have h := rfind_any w10 (gr H w w10) (av) t T1 hT8q k hkz; rw [rfT_no hf] at h; exact h) ?_)
   rintro _ w17 ⟨rfl, hF16⟩
   refine ⟨_, rfl, ?_⟩
   have hsw17 := hF16.size
   have hB_18 := hB.fr0 hF16
   have hRA_19 := hRA.fr0 hF16
   have hK_20 := hK.fr0 hF16
   have hE_21 := hE.tr0 hF16
   refine V.pt h15 fun a h22 => ?_
   refine V.re h22 [] 12 18 [(7, .int .i64 (-1)), (8, .int .i64 0), (9, .int .i64 0)] fun a h23 => k14 _ _ ?_
   refine V.seq fun K24 k25 => ?_
   refine V.sr h23 [] 1 0 [(19, .int .i64 (-1))] fun a h28 => ?_
   refine V.block ?_
   refine V.sr h28 [] 21 21 [(20, .bool false)] fun a h31 => ?_
   refine V.cf h31 ?_
   refine V.sr h31 [] 34 34 [(33, .bool false)] fun a h34 => ?_
   refine V.cf h34 ?_
   refine V.skip ?_
   refine V.blk_n ?_
   refine V.then_n (k25 _ _ ?_)
   refine V.sg fun K35 k36 => ?_
   refine V.run h34 [(3, .b hB_18 4), (0, .i ((T1.n : Int) + 1))] 7 46 51 [(50, .int .i64 ((T1.n : Int) + 1)), (52, .pointer (some ⟨t, 4, none⟩))] fun a h40 => ?_
   refine V.go (V.stn t 4 (.int .i64 ((T1.n : Int) + 1)) [.int .i64 ((T1.n : Int) + 1)] h40.e h40.e rfl rfl (by kernel_rfl) hB_18 (by simp) [.int .u64 (T1.seed : Int), .slice (some ⟨gA, 0, none⟩) T1.a.length T1.a.length, .slice none 0 0, .int .i64 (T1.moved : Int), .int .i64 ((T1.n : Int) + 1)] rfl ?_)
   intro w37 hB38 hF39 hsw37
   have hRA_41 := hRA_19.fr1 hF39 (by omega)
   have hK_42 := hK_20.fr hF39 (by simp)
   have hE_43 := hE_21.tr1 hF39 (by first | exact .inl (by assumption) | exact .inr (by omega) | exact .inl (.inl rfl))
   refine V.nt (k36 _ _ ?_)
   refine V.seq fun K44 k45 => ?_
   refine V.sr h40 [(3, .b hB38 2)] 53 57 [(58, .bool false)] fun a h48 => ?_
   refine V.cf h48 ?_
   refine V.skip ?_
   refine V.then_n (k45 _ _ ?_)
   refine V.sg fun K49 k50 => ?_
   refine V.run h48 [(4, .b hB38 1)] 7 86 89 [(85, .pointer (some ⟨t, 0, none⟩)), (90, .int .i64 ((T1.a.length : Nat) : Int)), (91, .string k)] fun a h51 => ?_
   refine V.cl h51 (Go.Proofs.enters_of Try.func72 (by kernel_rfl) rfl) (rbucket_blk w37 t T1.seed (.slice (some ⟨gA, 0, none⟩) T1.a.length T1.a.length) (.slice none 0 0) (.int .i64 (T1.moved : Int)) (.int .i64 ((T1.n : Int) + 1)) hB38 T1.a.length k  (by omega) (by omega) (by omega) (by omega)) ?_
   rintro _ w53 ⟨rfl, hF52⟩
   refine ⟨_, rfl, fun a h54 => ?_⟩
   have hsw53 := hF52.size
   have hRA_55 := hRA_41.fr0 hF52
   have hK_56 := hK_42.fr0 hF52
   have hE_57 := hE_43.tr0 hF52
   have hB38_58 := hB38.fr0 hF52
   have hbl52 := bkt_lt T1.seed k (n := T1.a.length) (by omega)
   refine V.re h54 [] 1 0 [(8, .int .i64 ((bkt T1.seed T1.a.length k : Nat) : Int))] fun a h59 => k50 _ _ ?_
   refine V.seq fun K60 k61 => ?_
   have hbq := hbl (bkt T1.seed T1.a.length k)
   refine V.pl [([0,1,2,3,4,5,6,7,8,9,10,11,12,13,14],some (15,[3,8,11])),([],some (16,[3])),([17],some (18,[])),([],none)] fun w62 hF63 hsw62 => ?_
   have hRA_64 := hRA_55.fr0 hF63
   have hK_65 := hK_56.fr0 hF63
   have hE_66 := hE_57.tr0 hF63
   have hB38_67 := hB38_58.fr0 hF63
   obtain ⟨A68, c69, hv70⟩ := hK_65.getA hlA (i := (bkt T1.seed T1.a.length k)) (by omega) nilS
   have hS71 := hK_65.slA hlA (i := (bkt T1.seed T1.a.length k)) (by omega) hv70
   refine V.pe h59 [(3, .b hB38_67 1), (4, .b hB38_67 1), (1, .ix gA 0 T1.a.length T1.a.length .i64 ((bkt T1.seed T1.a.length k : Nat) : Int) 1 rfl), (0, .l ⟨gA, 0 + ((bkt T1.seed T1.a.length k : Nat) : Int).toNat * 1, none⟩ (.slice A68 ((T1.a.getD (bkt T1.seed T1.a.length k) []).length) c69) ((hRA_64.at (bkt T1.seed T1.a.length k) nilS (by omega)).trans (congrArg some hv70)))] 93 106 [(95, .pointer (some ⟨t, 1, none⟩)), (96, .slice (some ⟨gA, 0, none⟩) T1.a.length T1.a.length), (97, .int .i64 ((bkt T1.seed T1.a.length k : Nat) : Int)), (100, .pointer (some ⟨t, 1, none⟩)), (103, .pointer (some ⟨gA, 0 + ((bkt T1.seed T1.a.length k : Nat) : Int).toNat * 1, none⟩)), (104, .slice A68 ((T1.a.getD (bkt T1.seed T1.a.length k) []).length) c69), (107, .agg #[.string k, .int .i64 v])] fun a h72 => ?_
   refine V.go (V.mk [(107, .agg #[.string k, .int .i64 v])] ⟨h72.e, trivial⟩ (by kernel_rfl) [.string k, .int .i64 v] 60 (fun b => .slice (some ⟨b, 0, none⟩) 1 1) (by kernel_rfl) ?_)
   intro w74 b73 heb73 hB75 hF76 hsb73
   have hRA_77 := hRA_64.fr0 hF76
   have hK_78 := hK_65.alloc hF76 heb73 (by omega)
   have hE_79 := hE_66.tr0 hF76
   have hB38_80 := hB38_67.fr0 hF76
   have hS71_81 := hS71.fr0 hF76
   refine V.pt h72 fun a h82 => ?_
   refine V.eh ⟨(fun _ => held_blk (n := 1) (hx := (h72.e (v := (.pointer (some ⟨t, 1, none⟩))))) hB38_67 hB38_80 (by kernel_rfl) rfl (by simp only [List.length]; omega)), (fun _ => held_blk (n := 1) (hx := (h72.e (v := (.pointer (some ⟨t, 1, none⟩))))) hB38_67 hB38_80 (by kernel_rfl) rfl (by simp only [List.length]; omega)), (fun _ => held_row (hx := (h72.e (v := (.pointer (some ⟨gA, 0 + ((bkt T1.seed T1.a.length k : Nat) : Int).toNat * 1, none⟩))))) hRA_64 hRA_77 (by kernel_rfl) (by omega))⟩ ?_
   refine V.pe h82 [] 1 0 [] fun a h83 => ?_
   refine V.go (V.appRA (R := itI) (ys := ([(k, v)])) (news := [.string k, .int .i64 v]) hK_78 hlA (i := (bkt T1.seed T1.a.length k)) (by omega) hv70 (h83.e (v := (.slice A68 ((T1.a.getD (bkt T1.seed T1.a.length k) []).length) c69))) ⟨b73, 0, none⟩ 1 1 (h83.e (v := (.slice (some ⟨b73, 0, none⟩) 1 1))) (by kernel_rfl) (info60) (by kernel_rfl) (by decide) rfl ⟨[.string k, .int .i64 v], [], rfl, rfl, rfl⟩ (blk_cells hB75 0 _ rfl) (by omega) (by decide) (.inr (by omega)) ?_)
   intro A84 c85 w86 hK87 hF88 ho89
   have hsw86 := hF88.size
   have hRA_90 := hRA_77.fr hF88 (fun hm => (ho89 _ hm).1 (by simp))
   have hE_91 := hE_79.tr hF88 (fun k hk => ((ho89 k hk).2).imp (fun h => ⟨h, fun hm => (ho89 k hk).1 (by simp [hm])⟩) id)
   have hB38_92 := hB38_80.fr hF88 (fun hm => (ho89 _ hm).1 (by simp))
   refine V.pt h83 fun a h93 => ?_
   refine V.eh (fun _ => held_blk (n := 1) (hx := (h83.e (v := (.pointer (some ⟨t, 1, none⟩))))) hB38_80 hB38_92 (by kernel_rfl) rfl (by simp only [List.length]; omega)) ?_
   refine V.pe h93 [(0, .ix gA 0 T1.a.length T1.a.length .i64 ((bkt T1.seed T1.a.length k : Nat) : Int) 1 rfl)] 1 0 [(110, .pointer (some ⟨gA, 0 + ((bkt T1.seed T1.a.length k : Nat) : Int).toNat * 1, none⟩))] fun a h94 => ?_
   refine V.go (V.strow (enc := idV) gA (((bkt T1.seed T1.a.length k : Nat) : Int).toNat) (.slice A84 ((T1.a.getD (bkt T1.seed T1.a.length k) []).length + 1) c85) h94.e h94.e rfl rfl (by kernel_rfl) hRA_90 (by first | omega | (simp only [List.length_set, List.length_replicate]; omega)) ?_)
   intro w95 hR96 hF97 hsw95
   have hE_98 := hE_91.tr1 hF97 (by first | exact .inl (by assumption) | exact .inr (by omega) | exact .inl (.inl rfl))
   have hB38_99 := hB38_92.fr1 hF97 (by omega)
   have hK87_100 := hK87.fr hF97 (by simp)
   refine V.eh trivial ?_
   refine V.pz h94 [] 1 0 [] fun a h101 => k61 _ _ ?_
   have h102 := h101.only [(0, .pointer (some ⟨t, 0, none⟩))]
   refine V.seq fun K103 k104 => ?_
   refine V.seq fun K105 k106 => ?_
   refine V.pl [([0,1,2,3,4,5,6,7,8,9],none)] fun w107 hF108 hsw107 => ?_
   have hE_109 := hE_98.tr0 hF108
   have hB38_110 := hB38_99.fr0 hF108
   have hK87_111 := hK87_100.fr0 hF108
   have hR96_112 := hR96.fr0 hF108
   refine V.pz h102 [(3, .b hB38_110 4), (3, .b hB38_110 1)] 111 119 [(120, .bool (decide (((T1.n : Int) + 1) > ((T1.a.length : Nat) : Int))))] fun a h113 => k106 _ _ ?_
   refine V.cp h113 (((T1.n : Int) + 1) > ((T1.a.length : Nat) : Int)) (fun ht114 => ?_) (fun ht114 => ?_)
   ·
    refine V.rg ?_
    refine V.run h113 [(4, .b hB38_110 1), (1, .q (.int .i64 ((2 * T1.a.length : Nat) : Int)) (w_mulN (by omega)))] 7 122 126 [(121, .pointer (some ⟨t, 0, none⟩)), (127, .int .i64 ((2 * T1.a.length : Nat) : Int))] fun a h119 => ?_
    refine V.go (V.mks (enc := idV) (2 * T1.a.length) (.slice none 0 0) nilS 24 ((h119.e (v := (.int .i64 ((2 * T1.a.length : Nat) : Int)))).trans (V.int_eq (by omega))) ((h119.e (v := (.int .i64 ((2 * T1.a.length : Nat) : Int)))).trans (V.int_eq (by omega))) (by kernel_rfl) info42 rfl rfl (by omega) (by omega) ?_)
    intro w116 b115 heb115 hR117 hF118
    have hsb115 := hR117.lt
    have hE_120 := hE_109.tr0 hF118
    have hB38_121 := hB38_110.fr0 hF118
    have hK87_122 := hK87_111.alloc hF118 heb115 (by omega)
    have hR96_123 := hR96_112.fr0 hF118
    refine V.pt h119 fun a h124 => ?_
    refine V.run h124 [] 2 129 129 [(130, .pointer (some ⟨t, 2, none⟩))] fun a h128 => ?_
    refine V.go (V.stn t 2 (.slice (some ⟨b115, 0, none⟩) (2 * T1.a.length) (2 * T1.a.length)) [.slice (some ⟨b115, 0, none⟩) (2 * T1.a.length) (2 * T1.a.length)] h128.e h128.e rfl rfl (by kernel_rfl) hB38_121 (by simp) [.int .u64 (T1.seed : Int), .slice (some ⟨gA, 0, none⟩) T1.a.length T1.a.length, .slice (some ⟨b115, 0, none⟩) (2 * T1.a.length) (2 * T1.a.length), .int .i64 (T1.moved : Int), .int .i64 ((T1.n : Int) + 1)] rfl ?_)
    intro w125 hB126 hF127 hsw125
    have hE_129 := hE_120.tr1 hF127 (by first | exact .inl (by assumption) | exact .inr (by omega) | exact .inl (.inl rfl))
    have hK87_130 := hK87_122.fr hF127 (by simp)
    have hR96_131 := hR96_123.fr1 hF127 (by omega)
    have hR117_132 := hR117.fr1 hF127 (by omega)
    refine V.nt (k104 _ _ ?_)
    refine V.sr h128 [] 1 0 [(6, .bool false)] fun a h135 => ?_
    refine V.ret ?_
    refine V.r1 h135 (.bool false) ?_
    have hst : putT T k v = insT T1 k v := by (unfold putT; rw [← hT1]; unfold put1T; rw [hf, if_neg (by simp)])
    have hup := (insT_ok hok1 hm1 (by omega) k hkz v).1
    rw [hst]
    have hu2 : insT T1 k v = startT ({ T1 with a := putB T1.seed T1.a (k, v), n := T1.n + 1 } : Tb Int) (2 * T1.a.length) := by (unfold insT; rw [if_pos hb1, if_pos (by omega)])
    rw [hu2] at hup ⊢
    have hKa136 := hK87_130.addNil (2 * T1.a.length)
    simp only [List.append_nil] at hKa136
    exact ⟨by rw [hf], (TabM.fin (T := (startT ({ T1 with a := putB T1.seed T1.a (k, v), n := T1.n + 1 } : Tb Int) (2 * T1.a.length))) hup (by simp only [startT]; intro h; have := congrArg List.length h; simp at this; omega) hB126 hR96_131 hR117_132 (by rw [List.length_set, List.length_set]; exact hlA) hKa136 (mem4 (l := (b115 :: b73 :: t :: gA :: av)) (by simp) (by simp) (by simp) (by intro k hk; simp [hk])) (by first | assumption | omega) (by first | assumption | omega) (by first | assumption | omega) hpt ⟨.inl hpg.1, hpg.2⟩ ⟨.inr (by omega), fun hm => by have := hK0 _ hm; omega⟩ rfl (putB_length _ _ _).symm (by have h := hmz hb1; show ((T1.moved : Nat) : Int) = ((0 : Nat) : Int); omega) (by simp [startT]) rfl rfl (by simp [startT])).gr3 (by omega), (hFPE.gr hE_129)⟩
   ·
    refine V.skip ?_
    refine V.then_n (k104 _ _ ?_)
    refine V.sr h113 [] 1 0 [(6, .bool false)] fun a h139 => ?_
    refine V.ret ?_
    refine V.r1 h139 (.bool false) ?_
    have hst : putT T k v = insT T1 k v := by (unfold putT; rw [← hT1]; unfold put1T; rw [hf, if_neg (by simp)])
    have hup := (insT_ok hok1 hm1 (by omega) k hkz v).1
    rw [hst]
    have hu2 : insT T1 k v = ({ T1 with a := putB T1.seed T1.a (k, v), n := T1.n + 1 } : Tb Int) := by (unfold insT; rw [if_pos hb1, if_neg (by omega)])
    rw [hu2] at hup ⊢
    exact ⟨by rw [hf], (TabN.fin (T := ({ T1 with a := putB T1.seed T1.a (k, v), n := T1.n + 1 })) hup hb0 hB38_110 hR96_112 (by have h := hK87_111; rw [List.append_nil, List.append_nil] at h; exact h) (mem3 (l := (b73 :: t :: gA :: av)) (by simp) (by simp) (by intro k hk; simp [hk])) (by first | assumption | exact Ne.symm (by assumption) | omega) hpt ⟨.inl hpg.1, hpg.2⟩ rfl (putB_length _ _ _).symm rfl (by simp) rfl).gr3 (by omega), (hFPE.gr hE_109)⟩
  ·
   have hb1 : T1.b.length ≠ 0 := fun h => hb0 (List.eq_nil_of_length_eq_zero h)
   obtain ⟨hB, hRA, hRB, hlA, hlB, hK, hne, hne2, hne3, hpt, hpg, hph⟩ := hN
   replace hK := hK.toH
   have hltt := hB.lt
   have hltg := hRA.lt
   have hltg2 := hRB.lt
   have hE : FrP (gp (gr H w w10) av) w10 w10 := FrP.refl _ _
   have hK0 : ∀ k ∈ av, k < w10.heap.size := fun k hk => hK.avl k (by simp [hk])
   obtain ⟨hsd, hpa, hla, hlb, hmv, hmz, hnn, hcn, hks⟩ := (show T1.Ok from hok1)
   have hbl := hok1.bl
   have hFPE := hFP_12
   refine V.go (V.call 71 #[] #[.pointer (some ⟨t, 0, none⟩), .string k] evf (args2 h15.e h15.e) (Go.Proofs.enters_of Try.func71 (by kernel_rfl) rfl) (by have h := rfind_any w10 (gr H w w10) (av) t T1 hT8q k hkz; rw [rfT_no hf] at h; exact h) ?_)
   rintro _ w141 ⟨rfl, hF140⟩
   refine ⟨_, rfl, ?_⟩
   have hsw141 := hF140.size
   have hB_142 := hB.fr0 hF140
   have hRA_143 := hRA.fr0 hF140
   have hRB_144 := hRB.fr0 hF140
   have hK_145 := hK.fr0 hF140
   have hE_146 := hE.tr0 hF140
   refine V.pt h15 fun a h147 => ?_
   refine V.re h147 [] 12 18 [(7, .int .i64 (-1)), (8, .int .i64 0), (9, .int .i64 0)] fun a h148 => k14 _ _ ?_
   refine V.seq fun K149 k150 => ?_
   refine V.sr h148 [] 1 0 [(19, .int .i64 (-1))] fun a h153 => ?_
   refine V.block ?_
   refine V.sr h153 [] 21 21 [(20, .bool false)] fun a h156 => ?_
   refine V.cf h156 ?_
   refine V.sr h156 [] 34 34 [(33, .bool false)] fun a h159 => ?_
   refine V.cf h159 ?_
   refine V.skip ?_
   refine V.blk_n ?_
   refine V.then_n (k150 _ _ ?_)
   refine V.sg fun K160 k161 => ?_
   refine V.run h159 [(3, .b hB_142 4), (0, .i ((T1.n : Int) + 1))] 7 46 51 [(50, .int .i64 ((T1.n : Int) + 1)), (52, .pointer (some ⟨t, 4, none⟩))] fun a h165 => ?_
   refine V.go (V.stn t 4 (.int .i64 ((T1.n : Int) + 1)) [.int .i64 ((T1.n : Int) + 1)] h165.e h165.e rfl rfl (by kernel_rfl) hB_142 (by simp) [.int .u64 (T1.seed : Int), .slice (some ⟨gA, 0, none⟩) T1.a.length T1.a.length, .slice (some ⟨gB, 0, none⟩) T1.b.length T1.b.length, .int .i64 (T1.moved : Int), .int .i64 ((T1.n : Int) + 1)] rfl ?_)
   intro w162 hB163 hF164 hsw162
   have hRA_166 := hRA_143.fr1 hF164 (by omega)
   have hRB_167 := hRB_144.fr1 hF164 (by omega)
   have hK_168 := hK_145.fr hF164 (by simp)
   have hE_169 := hE_146.tr1 hF164 (by first | exact .inl (by assumption) | exact .inr (by omega) | exact .inl (.inl rfl))
   refine V.nt (k161 _ _ ?_)
   refine V.seq fun K170 k171 => ?_
   refine V.sr h165 [(3, .b hB163 2)] 53 57 [(58, .bool (decide (((T1.b.length : Nat) : Int) > 0)))] fun a h174 => ?_
   refine V.cp h174 (((T1.b.length : Nat) : Int) > 0) (fun ht175 => ?_) (fun ht175 => ?_)
   ·
    refine V.sg fun K176 k177 => ?_
    refine V.run h174 [(4, .b hB163 2)] 7 60 63 [(59, .pointer (some ⟨t, 0, none⟩)), (64, .int .i64 ((T1.b.length : Nat) : Int)), (65, .string k)] fun a h178 => ?_
    refine V.cl h178 (Go.Proofs.enters_of Try.func72 (by kernel_rfl) rfl) (rbucket_blk w162 t T1.seed (.slice (some ⟨gA, 0, none⟩) T1.a.length T1.a.length) (.slice (some ⟨gB, 0, none⟩) T1.b.length T1.b.length) (.int .i64 (T1.moved : Int)) (.int .i64 ((T1.n : Int) + 1)) hB163 T1.b.length k  (by omega) (by omega) (by omega) (by omega)) ?_
    rintro _ w180 ⟨rfl, hF179⟩
    refine ⟨_, rfl, fun a h181 => ?_⟩
    have hsw180 := hF179.size
    have hRA_182 := hRA_166.fr0 hF179
    have hRB_183 := hRB_167.fr0 hF179
    have hK_184 := hK_168.fr0 hF179
    have hE_185 := hE_169.tr0 hF179
    have hB163_186 := hB163.fr0 hF179
    have hbl179 := bkt_lt T1.seed k (n := T1.b.length) (by omega)
    refine V.re h181 [] 1 0 [(8, .int .i64 ((bkt T1.seed T1.b.length k : Nat) : Int))] fun a h187 => k177 _ _ ?_
    refine V.seq fun K188 k189 => ?_
    have hbq := hbl (bkt T1.seed T1.b.length k)
    refine V.pl [([0,1,2,3,4,5,6,7,8,9,10,11,12,13,14],some (15,[3,8,11])),([],some (16,[3])),([17],some (18,[])),([],none)] fun w190 hF191 hsw190 => ?_
    have hRA_192 := hRA_182.fr0 hF191
    have hRB_193 := hRB_183.fr0 hF191
    have hK_194 := hK_184.fr0 hF191
    have hE_195 := hE_185.tr0 hF191
    have hB163_196 := hB163_186.fr0 hF191
    obtain ⟨A197, c198, hv199⟩ := hK_194.getB hlA (i := (bkt T1.seed T1.b.length k)) (by omega) nilS
    have hS200 := hK_194.slB hlA (i := (bkt T1.seed T1.b.length k)) (by omega) hv199
    refine V.pe h187 [(3, .b hB163_196 2), (4, .b hB163_196 2), (1, .ix gB 0 T1.b.length T1.b.length .i64 ((bkt T1.seed T1.b.length k : Nat) : Int) 1 rfl), (0, .l ⟨gB, 0 + ((bkt T1.seed T1.b.length k : Nat) : Int).toNat * 1, none⟩ (.slice A197 ((T1.b.getD (bkt T1.seed T1.b.length k) []).length) c198) ((hRB_193.at (bkt T1.seed T1.b.length k) nilS (by omega)).trans (congrArg some hv199)))] 67 80 [(69, .pointer (some ⟨t, 2, none⟩)), (70, .slice (some ⟨gB, 0, none⟩) T1.b.length T1.b.length), (71, .int .i64 ((bkt T1.seed T1.b.length k : Nat) : Int)), (74, .pointer (some ⟨t, 2, none⟩)), (77, .pointer (some ⟨gB, 0 + ((bkt T1.seed T1.b.length k : Nat) : Int).toNat * 1, none⟩)), (78, .slice A197 ((T1.b.getD (bkt T1.seed T1.b.length k) []).length) c198), (81, .agg #[.string k, .int .i64 v])] fun a h201 => ?_
    refine V.go (V.mk [(81, .agg #[.string k, .int .i64 v])] ⟨h201.e, trivial⟩ (by kernel_rfl) [.string k, .int .i64 v] 60 (fun b => .slice (some ⟨b, 0, none⟩) 1 1) (by kernel_rfl) ?_)
    intro w203 b202 heb202 hB204 hF205 hsb202
    have hRA_206 := hRA_192.fr0 hF205
    have hRB_207 := hRB_193.fr0 hF205
    have hK_208 := hK_194.alloc hF205 heb202 (by omega)
    have hE_209 := hE_195.tr0 hF205
    have hB163_210 := hB163_196.fr0 hF205
    have hS200_211 := hS200.fr0 hF205
    refine V.pt h201 fun a h212 => ?_
    refine V.eh ⟨(fun _ => held_blk (n := 1) (hx := (h201.e (v := (.pointer (some ⟨t, 2, none⟩))))) hB163_196 hB163_210 (by kernel_rfl) rfl (by simp only [List.length]; omega)), (fun _ => held_blk (n := 1) (hx := (h201.e (v := (.pointer (some ⟨t, 2, none⟩))))) hB163_196 hB163_210 (by kernel_rfl) rfl (by simp only [List.length]; omega)), (fun _ => held_row (hx := (h201.e (v := (.pointer (some ⟨gB, 0 + ((bkt T1.seed T1.b.length k : Nat) : Int).toNat * 1, none⟩))))) hRB_193 hRB_207 (by kernel_rfl) (by omega))⟩ ?_
    refine V.pe h212 [] 1 0 [] fun a h213 => ?_
    refine V.go (V.appRB (R := itI) (ys := ([(k, v)])) (news := [.string k, .int .i64 v]) hK_208 hlA (i := (bkt T1.seed T1.b.length k)) (by omega) hv199 (h213.e (v := (.slice A197 ((T1.b.getD (bkt T1.seed T1.b.length k) []).length) c198))) ⟨b202, 0, none⟩ 1 1 (h213.e (v := (.slice (some ⟨b202, 0, none⟩) 1 1))) (by kernel_rfl) (info60) (by kernel_rfl) (by decide) rfl ⟨[.string k, .int .i64 v], [], rfl, rfl, rfl⟩ (blk_cells hB204 0 _ rfl) (by omega) (by decide) (.inr (by omega)) ?_)
    intro A214 c215 w216 hK217 hF218 ho219
    have hsw216 := hF218.size
    have hRA_220 := hRA_206.fr hF218 (fun hm => (ho219 _ hm).1 (by simp))
    have hRB_221 := hRB_207.fr hF218 (fun hm => (ho219 _ hm).1 (by simp))
    have hE_222 := hE_209.tr hF218 (fun k hk => ((ho219 k hk).2).imp (fun h => ⟨h, fun hm => (ho219 k hk).1 (by simp [hm])⟩) id)
    have hB163_223 := hB163_210.fr hF218 (fun hm => (ho219 _ hm).1 (by simp))
    refine V.pt h213 fun a h224 => ?_
    refine V.eh (fun _ => held_blk (n := 1) (hx := (h213.e (v := (.pointer (some ⟨t, 2, none⟩))))) hB163_210 hB163_223 (by kernel_rfl) rfl (by simp only [List.length]; omega)) ?_
    refine V.pe h224 [(0, .ix gB 0 T1.b.length T1.b.length .i64 ((bkt T1.seed T1.b.length k : Nat) : Int) 1 rfl)] 1 0 [(84, .pointer (some ⟨gB, 0 + ((bkt T1.seed T1.b.length k : Nat) : Int).toNat * 1, none⟩))] fun a h225 => ?_
    refine V.go (V.strow (enc := idV) gB (((bkt T1.seed T1.b.length k : Nat) : Int).toNat) (.slice A214 ((T1.b.getD (bkt T1.seed T1.b.length k) []).length + 1) c215) h225.e h225.e rfl rfl (by kernel_rfl) hRB_221 (by first | omega | (simp only [List.length_set, List.length_replicate]; omega)) ?_)
    intro w226 hR227 hF228 hsw226
    have hRA_229 := hRA_220.fr1 hF228 (by omega)
    have hE_230 := hE_222.tr1 hF228 (by first | exact .inl (by assumption) | exact .inr (by omega) | exact .inl (.inl rfl))
    have hB163_231 := hB163_223.fr1 hF228 (by omega)
    have hK217_232 := hK217.fr hF228 (by simp)
    refine V.eh trivial ?_
    refine V.pz h225 [] 1 0 [] fun a h233 => k189 _ _ ?_
    have h234 := h233.only [(0, .pointer (some ⟨t, 0, none⟩)), (1, .string k), (2, .int .i64 v)]
    refine V.sr h234 [] 1 0 [(6, .bool false)] fun a h237 => ?_
    refine V.ret ?_
    refine V.then_r ?_
    refine V.r1 h237 (.bool false) ?_
    have hst : putT T k v = insT T1 k v := by (unfold putT; rw [← hT1]; unfold put1T; rw [hf, if_neg (by simp)])
    have hup := (insT_ok hok1 hm1 (by omega) k hkz v).1
    rw [hst]
    have hu2 : insT T1 k v = ({ T1 with b := putB T1.seed T1.b (k, v), n := T1.n + 1 } : Tb Int) := by (unfold insT; rw [if_neg hb1])
    rw [hu2] at hup ⊢
    exact ⟨by rw [hf], (TabM.fin (T := ({ T1 with b := putB T1.seed T1.b (k, v), n := T1.n + 1 })) hup (fun h => hb1 (by have := congrArg List.length h; rwa [putB_length] at this)) hB163_231 hRA_229 hR227 (by first | exact hlA | (simp only [List.length_set]; exact hlA)) hK217_232 (mem4 (l := (b202 :: t :: gA :: gB :: av)) (by simp) (by simp) (by simp) (by intro k hk; simp [hk])) (by first | assumption | omega) (by first | assumption | omega) (by first | assumption | omega) hpt ⟨.inl hpg.1, hpg.2⟩ ⟨.inl hph.1, hph.2⟩ rfl rfl rfl (by simp) rfl rfl (putB_length _ _ _).symm).gr3 (by omega), (hFPE.gr hE_230)⟩
   ·
    refine V.skip ?_
    refine V.then_n (k171 _ _ ?_)
    refine V.sg fun K238 k239 => ?_
    refine V.run h174 [(4, .b hB163 1)] 7 86 89 [(85, .pointer (some ⟨t, 0, none⟩)), (90, .int .i64 ((T1.a.length : Nat) : Int)), (91, .string k)] fun a h240 => ?_
    refine V.cl h240 (Go.Proofs.enters_of Try.func72 (by kernel_rfl) rfl) (rbucket_blk w162 t T1.seed (.slice (some ⟨gA, 0, none⟩) T1.a.length T1.a.length) (.slice (some ⟨gB, 0, none⟩) T1.b.length T1.b.length) (.int .i64 (T1.moved : Int)) (.int .i64 ((T1.n : Int) + 1)) hB163 T1.a.length k  (by omega) (by omega) (by omega) (by omega)) ?_
    rintro _ w242 ⟨rfl, hF241⟩
    refine ⟨_, rfl, fun a h243 => ?_⟩
    have hsw242 := hF241.size
    have hRA_244 := hRA_166.fr0 hF241
    have hRB_245 := hRB_167.fr0 hF241
    have hK_246 := hK_168.fr0 hF241
    have hE_247 := hE_169.tr0 hF241
    have hB163_248 := hB163.fr0 hF241
    have hbl241 := bkt_lt T1.seed k (n := T1.a.length) (by omega)
    refine V.re h243 [] 1 0 [(8, .int .i64 ((bkt T1.seed T1.a.length k : Nat) : Int))] fun a h249 => k239 _ _ ?_
    refine V.seq fun K250 k251 => ?_
    have hbq := hbl (bkt T1.seed T1.a.length k)
    refine V.pl [([0,1,2,3,4,5,6,7,8,9,10,11,12,13,14],some (15,[3,8,11])),([],some (16,[3])),([17],some (18,[])),([],none)] fun w252 hF253 hsw252 => ?_
    have hRA_254 := hRA_244.fr0 hF253
    have hRB_255 := hRB_245.fr0 hF253
    have hK_256 := hK_246.fr0 hF253
    have hE_257 := hE_247.tr0 hF253
    have hB163_258 := hB163_248.fr0 hF253
    obtain ⟨A259, c260, hv261⟩ := hK_256.getA hlA (i := (bkt T1.seed T1.a.length k)) (by omega) nilS
    have hS262 := hK_256.slA hlA (i := (bkt T1.seed T1.a.length k)) (by omega) hv261
    refine V.pe h249 [(3, .b hB163_258 1), (4, .b hB163_258 1), (1, .ix gA 0 T1.a.length T1.a.length .i64 ((bkt T1.seed T1.a.length k : Nat) : Int) 1 rfl), (0, .l ⟨gA, 0 + ((bkt T1.seed T1.a.length k : Nat) : Int).toNat * 1, none⟩ (.slice A259 ((T1.a.getD (bkt T1.seed T1.a.length k) []).length) c260) ((hRA_254.at (bkt T1.seed T1.a.length k) nilS (by omega)).trans (congrArg some hv261)))] 93 106 [(95, .pointer (some ⟨t, 1, none⟩)), (96, .slice (some ⟨gA, 0, none⟩) T1.a.length T1.a.length), (97, .int .i64 ((bkt T1.seed T1.a.length k : Nat) : Int)), (100, .pointer (some ⟨t, 1, none⟩)), (103, .pointer (some ⟨gA, 0 + ((bkt T1.seed T1.a.length k : Nat) : Int).toNat * 1, none⟩)), (104, .slice A259 ((T1.a.getD (bkt T1.seed T1.a.length k) []).length) c260), (107, .agg #[.string k, .int .i64 v])] fun a h263 => ?_
    refine V.go (V.mk [(107, .agg #[.string k, .int .i64 v])] ⟨h263.e, trivial⟩ (by kernel_rfl) [.string k, .int .i64 v] 60 (fun b => .slice (some ⟨b, 0, none⟩) 1 1) (by kernel_rfl) ?_)
    intro w265 b264 heb264 hB266 hF267 hsb264
    have hRA_268 := hRA_254.fr0 hF267
    have hRB_269 := hRB_255.fr0 hF267
    have hK_270 := hK_256.alloc hF267 heb264 (by omega)
    have hE_271 := hE_257.tr0 hF267
    have hB163_272 := hB163_258.fr0 hF267
    have hS262_273 := hS262.fr0 hF267
    refine V.pt h263 fun a h274 => ?_
    refine V.eh ⟨(fun _ => held_blk (n := 1) (hx := (h263.e (v := (.pointer (some ⟨t, 1, none⟩))))) hB163_258 hB163_272 (by kernel_rfl) rfl (by simp only [List.length]; omega)), (fun _ => held_blk (n := 1) (hx := (h263.e (v := (.pointer (some ⟨t, 1, none⟩))))) hB163_258 hB163_272 (by kernel_rfl) rfl (by simp only [List.length]; omega)), (fun _ => held_row (hx := (h263.e (v := (.pointer (some ⟨gA, 0 + ((bkt T1.seed T1.a.length k : Nat) : Int).toNat * 1, none⟩))))) hRA_254 hRA_268 (by kernel_rfl) (by omega))⟩ ?_
    refine V.pe h274 [] 1 0 [] fun a h275 => ?_
    refine V.go (V.appRA (R := itI) (ys := ([(k, v)])) (news := [.string k, .int .i64 v]) hK_270 hlA (i := (bkt T1.seed T1.a.length k)) (by omega) hv261 (h275.e (v := (.slice A259 ((T1.a.getD (bkt T1.seed T1.a.length k) []).length) c260))) ⟨b264, 0, none⟩ 1 1 (h275.e (v := (.slice (some ⟨b264, 0, none⟩) 1 1))) (by kernel_rfl) (info60) (by kernel_rfl) (by decide) rfl ⟨[.string k, .int .i64 v], [], rfl, rfl, rfl⟩ (blk_cells hB266 0 _ rfl) (by omega) (by decide) (.inr (by omega)) ?_)
    intro A276 c277 w278 hK279 hF280 ho281
    have hsw278 := hF280.size
    have hRA_282 := hRA_268.fr hF280 (fun hm => (ho281 _ hm).1 (by simp))
    have hRB_283 := hRB_269.fr hF280 (fun hm => (ho281 _ hm).1 (by simp))
    have hE_284 := hE_271.tr hF280 (fun k hk => ((ho281 k hk).2).imp (fun h => ⟨h, fun hm => (ho281 k hk).1 (by simp [hm])⟩) id)
    have hB163_285 := hB163_272.fr hF280 (fun hm => (ho281 _ hm).1 (by simp))
    refine V.pt h275 fun a h286 => ?_
    refine V.eh (fun _ => held_blk (n := 1) (hx := (h275.e (v := (.pointer (some ⟨t, 1, none⟩))))) hB163_272 hB163_285 (by kernel_rfl) rfl (by simp only [List.length]; omega)) ?_
    refine V.pe h286 [(0, .ix gA 0 T1.a.length T1.a.length .i64 ((bkt T1.seed T1.a.length k : Nat) : Int) 1 rfl)] 1 0 [(110, .pointer (some ⟨gA, 0 + ((bkt T1.seed T1.a.length k : Nat) : Int).toNat * 1, none⟩))] fun a h287 => ?_
    refine V.go (V.strow (enc := idV) gA (((bkt T1.seed T1.a.length k : Nat) : Int).toNat) (.slice A276 ((T1.a.getD (bkt T1.seed T1.a.length k) []).length + 1) c277) h287.e h287.e rfl rfl (by kernel_rfl) hRA_282 (by first | omega | (simp only [List.length_set, List.length_replicate]; omega)) ?_)
    intro w288 hR289 hF290 hsw288
    have hRB_291 := hRB_283.fr1 hF290 (by omega)
    have hE_292 := hE_284.tr1 hF290 (by first | exact .inl (by assumption) | exact .inr (by omega) | exact .inl (.inl rfl))
    have hB163_293 := hB163_285.fr1 hF290 (by omega)
    have hK279_294 := hK279.fr hF290 (by simp)
    refine V.eh trivial ?_
    refine V.pz h287 [] 1 0 [] fun a h295 => k251 _ _ ?_
    have h296 := h295.only [(0, .pointer (some ⟨t, 0, none⟩))]
    refine V.seq fun K297 k298 => ?_
    refine V.seq fun K299 k300 => ?_
    refine V.pl [([0,1,2,3,4,5,6,7,8,9],none)] fun w301 hF302 hsw301 => ?_
    have hRB_303 := hRB_291.fr0 hF302
    have hE_304 := hE_292.tr0 hF302
    have hB163_305 := hB163_293.fr0 hF302
    have hK279_306 := hK279_294.fr0 hF302
    have hR289_307 := hR289.fr0 hF302
    refine V.pz h296 [(3, .b hB163_305 4), (3, .b hB163_305 1)] 111 119 [(120, .bool (decide (((T1.n : Int) + 1) > ((T1.a.length : Nat) : Int))))] fun a h308 => k300 _ _ ?_
    refine V.cp h308 (((T1.n : Int) + 1) > ((T1.a.length : Nat) : Int)) (fun ht309 => ?_) (fun ht309 => ?_)
    ·
     refine V.rg ?_
     refine V.run h308 [(4, .b hB163_305 1), (1, .q (.int .i64 ((2 * T1.a.length : Nat) : Int)) (w_mulN (by omega)))] 7 122 126 [(121, .pointer (some ⟨t, 0, none⟩)), (127, .int .i64 ((2 * T1.a.length : Nat) : Int))] fun a h314 => ?_
     refine V.go (V.mks (enc := idV) (2 * T1.a.length) (.slice none 0 0) nilS 24 ((h314.e (v := (.int .i64 ((2 * T1.a.length : Nat) : Int)))).trans (V.int_eq (by omega))) ((h314.e (v := (.int .i64 ((2 * T1.a.length : Nat) : Int)))).trans (V.int_eq (by omega))) (by kernel_rfl) info42 rfl rfl (by omega) (by omega) ?_)
     intro w311 b310 heb310 hR312 hF313
     have hsb310 := hR312.lt
     have hRB_315 := hRB_303.fr0 hF313
     have hE_316 := hE_304.tr0 hF313
     have hB163_317 := hB163_305.fr0 hF313
     have hK279_318 := hK279_306.alloc hF313 heb310 (by omega)
     have hR289_319 := hR289_307.fr0 hF313
     refine V.pt h314 fun a h320 => ?_
     refine V.run h320 [] 2 129 129 [(130, .pointer (some ⟨t, 2, none⟩))] fun a h324 => ?_
     refine V.go (V.stn t 2 (.slice (some ⟨b310, 0, none⟩) (2 * T1.a.length) (2 * T1.a.length)) [.slice (some ⟨b310, 0, none⟩) (2 * T1.a.length) (2 * T1.a.length)] h324.e h324.e rfl rfl (by kernel_rfl) hB163_317 (by simp) [.int .u64 (T1.seed : Int), .slice (some ⟨gA, 0, none⟩) T1.a.length T1.a.length, .slice (some ⟨b310, 0, none⟩) (2 * T1.a.length) (2 * T1.a.length), .int .i64 (T1.moved : Int), .int .i64 ((T1.n : Int) + 1)] rfl ?_)
     intro w321 hB322 hF323 hsw321
     have hRB_325 := hRB_315.fr1 hF323 (by omega)
     have hE_326 := hE_316.tr1 hF323 (by first | exact .inl (by assumption) | exact .inr (by omega) | exact .inl (.inl rfl))
     have hK279_327 := hK279_318.fr hF323 (by simp)
     have hR289_328 := hR289_319.fr1 hF323 (by omega)
     have hR312_329 := hR312.fr1 hF323 (by omega)
     refine V.nt (k298 _ _ ?_)
     refine V.sr h324 [] 1 0 [(6, .bool false)] fun a h332 => ?_
     refine V.ret ?_
     refine V.r1 h332 (.bool false) ?_
     exact absurd ht175 (by omega)
    ·
     refine V.skip ?_
     refine V.then_n (k298 _ _ ?_)
     refine V.sr h308 [] 1 0 [(6, .bool false)] fun a h335 => ?_
     refine V.ret ?_
     refine V.r1 h335 (.bool false) ?_
     exact absurd ht175 (by omega)
 ·
  rcases hT8q.2 with ⟨hb0, gA, vsA, hN⟩ | ⟨hb0, gA, gB, vsA, vsB, hN⟩
  ·
   have hb1 : T1.b.length = 0 := by rw [hb0]; rfl
   obtain ⟨hB, hRA, hlA, hK, hne, hpt, hpg⟩ := hN
   replace hK := hK.toH
   have hltt := hB.lt
   have hltg := hRA.lt
   have hE : FrP (gp (gr H w w10) av) w10 w10 := FrP.refl _ _
   have hK0 : ∀ k ∈ av, k < w10.heap.size := fun k hk => hK.avl k (by simp [hk])
   obtain ⟨hsd, hpa, hla, hlb, hmv, hmz, hnn, hcn, hks⟩ := (show T1.Ok from hok1)
   have hbl := hok1.bl
   have hFPE := hFP_12
   refine V.go (V.call 71 #[] #[.pointer (some ⟨t, 0, none⟩), .string k] evf (args2 h15.e h15.e) (Go.Proofs.enters_of Try.func71 (by kernel_rfl) rfl) (by have h := rfind_any w10 (gr H w w10) (av) t T1 hT8q k hkz; rw [rfT_yes hf] at h; exact h) ?_)
   rintro _ w337 ⟨rfl, hF336⟩
   refine ⟨_, rfl, ?_⟩
   have hsw337 := hF336.size
   have hB_338 := hB.fr0 hF336
   have hRA_339 := hRA.fr0 hF336
   have hK_340 := hK.fr0 hF336
   have hE_341 := hE.tr0 hF336
   refine V.pt h15 fun a h342 => ?_
   have hbkl := bkt_lt T1.seed k (n := T1.a.length) (by omega)
   have hbq := hbl (bkt T1.seed T1.a.length k)
   refine V.re h342 [] 12 18 [(7, .int .i64 0), (8, .int .i64 ((bkt T1.seed T1.a.length k : Nat) : Int)), (9, .int .i64 (j : Int))] fun a h343 => k14 _ _ ?_
   refine V.seq fun K344 k345 => ?_
   refine V.sr h343 [] 1 0 [(19, .int .i64 0)] fun a h348 => ?_
   refine V.block ?_
   refine V.sr h348 [] 21 21 [(20, .bool true)] fun a h351 => ?_
   refine V.ct h351 ?_
   obtain ⟨A354, c355, hv356⟩ := hK_340.getA hlA (i := (bkt T1.seed T1.a.length k)) (by omega) nilS
   have hS357 := hK_340.slA hlA (i := (bkt T1.seed T1.a.length k)) (by omega) hv356
   obtain ⟨g358, o359, hA360, hA360l, hA360z⟩ := hS357.addr (by omega)
   refine V.sg fun K352 k353 => ?_
   refine V.run h351 [(3, .b hB_338 1), (1, .ix gA 0 T1.a.length T1.a.length .i64 ((bkt T1.seed T1.a.length k : Nat) : Int) 1 rfl), (0, .l ⟨gA, 0 + ((bkt T1.seed T1.a.length k : Nat) : Int).toNat * 1, none⟩ (.slice A354 ((T1.a.getD (bkt T1.seed T1.a.length k) []).length) c355) ((hRA_339.at (bkt T1.seed T1.a.length k) nilS (by omega)).trans (congrArg some hv356))), (2, .ix g358 o359 ((T1.a.getD (bkt T1.seed T1.a.length k) []).length) c355 .i64 (j : Int) 2 hA360)] 11 22 31 [(30, .int .i64 v), (32, .pointer (some ⟨g358, (o359 + (j : Int).toNat * 2) + 1, none⟩))] fun a h365 => ?_
   refine V.go (V.stRA (R := itI) (j := j) (f := 1) hK_340 hlA (i := (bkt T1.seed T1.a.length k)) (by omega) hv356 hA360 (by omega) (by decide) (.int .i64 v) (fun x => (x.1, v)) (h365.e (v := (.pointer (some ⟨g358, (o359 + (j : Int).toNat * 2) + 1, none⟩)))) (h365.e (v := (.int .i64 v))) rfl rfl (by kernel_rfl) (fun w1 x c hc => by (have hc' : c = [.string x.1, .int .i64 x.2] := hc; subst hc'; rfl)) ?_)
   intro w361 hK362 hF363 hsw361 ho364
   have hB_366 := hB_338.fr hF363 (fun hm => (ho364 _ hm).1 (by simp))
   have hRA_367 := hRA_339.fr hF363 (fun hm => (ho364 _ hm).1 (by simp))
   have hE_368 := hE_341.tr hF363 (fun k hk => ((ho364 k hk).2).imp (fun h => ⟨h, fun hm => (ho364 k hk).1 (by simp [hm])⟩) id)
   refine V.nt (k353 _ _ ?_)
   refine V.sr h365 [] 1 0 [(6, .bool true)] fun a h371 => ?_
   refine V.ret ?_
   refine V.blk_r ?_
   refine V.then_r ?_
   refine V.r1 h371 (.bool true) ?_
   have hst : putT T k v = ({ T1 with a := setV T1.a (bkt T1.seed T1.a.length k) j v } : Tb Int) := by (unfold putT; rw [← hT1]; unfold put1T; rw [hf, if_pos rfl]; unfold updT; rw [hf]; simp)
   have hup := (updT_ok hok1 hm1 k v).1
   have hu2 : updT T1 k v = ({ T1 with a := setV T1.a (bkt T1.seed T1.a.length k) j v } : Tb Int) := by (unfold updT; rw [hf]; simp)
   rw [hu2] at hup
   rw [hst]
   exact ⟨by rw [hf], (TabN.fin (T := ({ T1 with a := setV T1.a (bkt T1.seed T1.a.length k) j v })) hup hb0 hB_366 hRA_367 (by have h := hK362; rw [List.append_nil, List.append_nil] at h; exact h) (mem3 (l := (t :: gA :: av)) (by simp) (by simp) (by intro k hk; simp [hk])) (by first | assumption | exact Ne.symm (by assumption) | omega) hpt ⟨.inl hpg.1, hpg.2⟩ rfl (setV_length _ _ _ _).symm rfl rfl rfl).gr3 (by omega), (hFPE.gr hE_368)⟩
  ·
   have hb1 : T1.b.length ≠ 0 := fun h => hb0 (List.eq_nil_of_length_eq_zero h)
   obtain ⟨hB, hRA, hRB, hlA, hlB, hK, hne, hne2, hne3, hpt, hpg, hph⟩ := hN
   replace hK := hK.toH
   have hltt := hB.lt
   have hltg := hRA.lt
   have hltg2 := hRB.lt
   have hE : FrP (gp (gr H w w10) av) w10 w10 := FrP.refl _ _
   have hK0 : ∀ k ∈ av, k < w10.heap.size := fun k hk => hK.avl k (by simp [hk])
   obtain ⟨hsd, hpa, hla, hlb, hmv, hmz, hnn, hcn, hks⟩ := (show T1.Ok from hok1)
   have hbl := hok1.bl
   have hFPE := hFP_12
   refine V.go (V.call 71 #[] #[.pointer (some ⟨t, 0, none⟩), .string k] evf (args2 h15.e h15.e) (Go.Proofs.enters_of Try.func71 (by kernel_rfl) rfl) (by have h := rfind_any w10 (gr H w w10) (av) t T1 hT8q k hkz; rw [rfT_yes hf] at h; exact h) ?_)
   rintro _ w373 ⟨rfl, hF372⟩
   refine ⟨_, rfl, ?_⟩
   have hsw373 := hF372.size
   have hB_374 := hB.fr0 hF372
   have hRA_375 := hRA.fr0 hF372
   have hRB_376 := hRB.fr0 hF372
   have hK_377 := hK.fr0 hF372
   have hE_378 := hE.tr0 hF372
   refine V.pt h15 fun a h379 => ?_
   have hbkl := bkt_lt T1.seed k (n := T1.a.length) (by omega)
   have hbq := hbl (bkt T1.seed T1.a.length k)
   refine V.re h379 [] 12 18 [(7, .int .i64 0), (8, .int .i64 ((bkt T1.seed T1.a.length k : Nat) : Int)), (9, .int .i64 (j : Int))] fun a h380 => k14 _ _ ?_
   refine V.seq fun K381 k382 => ?_
   refine V.sr h380 [] 1 0 [(19, .int .i64 0)] fun a h385 => ?_
   refine V.block ?_
   refine V.sr h385 [] 21 21 [(20, .bool true)] fun a h388 => ?_
   refine V.ct h388 ?_
   obtain ⟨A391, c392, hv393⟩ := hK_377.getA hlA (i := (bkt T1.seed T1.a.length k)) (by omega) nilS
   have hS394 := hK_377.slA hlA (i := (bkt T1.seed T1.a.length k)) (by omega) hv393
   obtain ⟨g395, o396, hA397, hA397l, hA397z⟩ := hS394.addr (by omega)
   refine V.sg fun K389 k390 => ?_
   refine V.run h388 [(3, .b hB_374 1), (1, .ix gA 0 T1.a.length T1.a.length .i64 ((bkt T1.seed T1.a.length k : Nat) : Int) 1 rfl), (0, .l ⟨gA, 0 + ((bkt T1.seed T1.a.length k : Nat) : Int).toNat * 1, none⟩ (.slice A391 ((T1.a.getD (bkt T1.seed T1.a.length k) []).length) c392) ((hRA_375.at (bkt T1.seed T1.a.length k) nilS (by omega)).trans (congrArg some hv393))), (2, .ix g395 o396 ((T1.a.getD (bkt T1.seed T1.a.length k) []).length) c392 .i64 (j : Int) 2 hA397)] 11 22 31 [(30, .int .i64 v), (32, .pointer (some ⟨g395, (o396 + (j : Int).toNat * 2) + 1, none⟩))] fun a h402 => ?_
   refine V.go (V.stRA (R := itI) (j := j) (f := 1) hK_377 hlA (i := (bkt T1.seed T1.a.length k)) (by omega) hv393 hA397 (by omega) (by decide) (.int .i64 v) (fun x => (x.1, v)) (h402.e (v := (.pointer (some ⟨g395, (o396 + (j : Int).toNat * 2) + 1, none⟩)))) (h402.e (v := (.int .i64 v))) rfl rfl (by kernel_rfl) (fun w1 x c hc => by (have hc' : c = [.string x.1, .int .i64 x.2] := hc; subst hc'; rfl)) ?_)
   intro w398 hK399 hF400 hsw398 ho401
   have hB_403 := hB_374.fr hF400 (fun hm => (ho401 _ hm).1 (by simp))
   have hRA_404 := hRA_375.fr hF400 (fun hm => (ho401 _ hm).1 (by simp))
   have hRB_405 := hRB_376.fr hF400 (fun hm => (ho401 _ hm).1 (by simp))
   have hE_406 := hE_378.tr hF400 (fun k hk => ((ho401 k hk).2).imp (fun h => ⟨h, fun hm => (ho401 k hk).1 (by simp [hm])⟩) id)
   refine V.nt (k390 _ _ ?_)
   refine V.sr h402 [] 1 0 [(6, .bool true)] fun a h409 => ?_
   refine V.ret ?_
   refine V.blk_r ?_
   refine V.then_r ?_
   refine V.r1 h409 (.bool true) ?_
   have hst : putT T k v = ({ T1 with a := setV T1.a (bkt T1.seed T1.a.length k) j v } : Tb Int) := by (unfold putT; rw [← hT1]; unfold put1T; rw [hf, if_pos rfl]; unfold updT; rw [hf]; simp)
   have hup := (updT_ok hok1 hm1 k v).1
   have hu2 : updT T1 k v = ({ T1 with a := setV T1.a (bkt T1.seed T1.a.length k) j v } : Tb Int) := by (unfold updT; rw [hf]; simp)
   rw [hu2] at hup
   rw [hst]
   exact ⟨by rw [hf], (TabM.fin (T := ({ T1 with a := setV T1.a (bkt T1.seed T1.a.length k) j v })) hup hb0 hB_403 hRA_404 hRB_405 (by first | exact hlA | (simp only [List.length_set]; exact hlA)) hK399 (mem4 (l := (t :: gA :: gB :: av)) (by simp) (by simp) (by simp) (by intro k hk; simp [hk])) (by first | assumption | omega) (by first | assumption | omega) (by first | assumption | omega) hpt ⟨.inl hpg.1, hpg.2⟩ ⟨.inl hph.1, hph.2⟩ rfl (setV_length _ _ _ _).symm rfl rfl rfl rfl rfl).gr3 (by omega), (hFPE.gr hE_406)⟩
 ·
  rcases hT8q.2 with ⟨hb0, gA, vsA, hN⟩ | ⟨hb0, gA, gB, vsA, vsB, hN⟩
  ·
   exact absurd (by rw [hb0]; rfl) hbn
  ·
   have hb1 : T1.b.length ≠ 0 := fun h => hb0 (List.eq_nil_of_length_eq_zero h)
   obtain ⟨hB, hRA, hRB, hlA, hlB, hK, hne, hne2, hne3, hpt, hpg, hph⟩ := hN
   replace hK := hK.toH
   have hltt := hB.lt
   have hltg := hRA.lt
   have hltg2 := hRB.lt
   have hE : FrP (gp (gr H w w10) av) w10 w10 := FrP.refl _ _
   have hK0 : ∀ k ∈ av, k < w10.heap.size := fun k hk => hK.avl k (by simp [hk])
   obtain ⟨hsd, hpa, hla, hlb, hmv, hmz, hnn, hcn, hks⟩ := (show T1.Ok from hok1)
   have hbl := hok1.bl
   have hFPE := hFP_12
   refine V.go (V.call 71 #[] #[.pointer (some ⟨t, 0, none⟩), .string k] evf (args2 h15.e h15.e) (Go.Proofs.enters_of Try.func71 (by kernel_rfl) rfl) (by have h := rfind_any w10 (gr H w w10) (av) t T1 hT8q k hkz; rw [rfT_yes hf] at h; exact h) ?_)
   rintro _ w411 ⟨rfl, hF410⟩
   refine ⟨_, rfl, ?_⟩
   have hsw411 := hF410.size
   have hB_412 := hB.fr0 hF410
   have hRA_413 := hRA.fr0 hF410
   have hRB_414 := hRB.fr0 hF410
   have hK_415 := hK.fr0 hF410
   have hE_416 := hE.tr0 hF410
   refine V.pt h15 fun a h417 => ?_
   have hbkl := bkt_lt T1.seed k (n := T1.b.length) (by omega)
   have hbq := hbl (bkt T1.seed T1.b.length k)
   refine V.re h417 [] 12 18 [(7, .int .i64 1), (8, .int .i64 ((bkt T1.seed T1.b.length k : Nat) : Int)), (9, .int .i64 (j : Int))] fun a h418 => k14 _ _ ?_
   refine V.seq fun K419 k420 => ?_
   refine V.sr h418 [] 1 0 [(19, .int .i64 1)] fun a h423 => ?_
   refine V.block ?_
   refine V.sr h423 [] 21 21 [(20, .bool false)] fun a h426 => ?_
   refine V.cf h426 ?_
   refine V.sr h426 [] 34 34 [(33, .bool true)] fun a h429 => ?_
   refine V.ct h429 ?_
   obtain ⟨A432, c433, hv434⟩ := hK_415.getB hlA (i := (bkt T1.seed T1.b.length k)) (by omega) nilS
   have hS435 := hK_415.slB hlA (i := (bkt T1.seed T1.b.length k)) (by omega) hv434
   obtain ⟨g436, o437, hA438, hA438l, hA438z⟩ := hS435.addr (by omega)
   refine V.sg fun K430 k431 => ?_
   refine V.run h429 [(3, .b hB_412 2), (1, .ix gB 0 T1.b.length T1.b.length .i64 ((bkt T1.seed T1.b.length k : Nat) : Int) 1 rfl), (0, .l ⟨gB, 0 + ((bkt T1.seed T1.b.length k : Nat) : Int).toNat * 1, none⟩ (.slice A432 ((T1.b.getD (bkt T1.seed T1.b.length k) []).length) c433) ((hRB_414.at (bkt T1.seed T1.b.length k) nilS (by omega)).trans (congrArg some hv434))), (2, .ix g436 o437 ((T1.b.getD (bkt T1.seed T1.b.length k) []).length) c433 .i64 (j : Int) 2 hA438)] 11 35 44 [(43, .int .i64 v), (45, .pointer (some ⟨g436, (o437 + (j : Int).toNat * 2) + 1, none⟩))] fun a h443 => ?_
   refine V.go (V.stRB (R := itI) (j := j) (f := 1) hK_415 hlA (i := (bkt T1.seed T1.b.length k)) (by omega) hv434 hA438 (by omega) (by decide) (.int .i64 v) (fun x => (x.1, v)) (h443.e (v := (.pointer (some ⟨g436, (o437 + (j : Int).toNat * 2) + 1, none⟩)))) (h443.e (v := (.int .i64 v))) rfl rfl (by kernel_rfl) (fun w1 x c hc => by (have hc' : c = [.string x.1, .int .i64 x.2] := hc; subst hc'; rfl)) ?_)
   intro w439 hK440 hF441 hsw439 ho442
   have hB_444 := hB_412.fr hF441 (fun hm => (ho442 _ hm).1 (by simp))
   have hRA_445 := hRA_413.fr hF441 (fun hm => (ho442 _ hm).1 (by simp))
   have hRB_446 := hRB_414.fr hF441 (fun hm => (ho442 _ hm).1 (by simp))
   have hE_447 := hE_416.tr hF441 (fun k hk => ((ho442 k hk).2).imp (fun h => ⟨h, fun hm => (ho442 k hk).1 (by simp [hm])⟩) id)
   refine V.nt (k431 _ _ ?_)
   refine V.sr h443 [] 1 0 [(6, .bool true)] fun a h450 => ?_
   refine V.ret ?_
   refine V.blk_r ?_
   refine V.then_r ?_
   refine V.r1 h450 (.bool true) ?_
   have hst : putT T k v = ({ T1 with b := setV T1.b (bkt T1.seed T1.b.length k) j v } : Tb Int) := by (unfold putT; rw [← hT1]; unfold put1T; rw [hf, if_pos rfl]; unfold updT; rw [hf]; simp)
   have hup := (updT_ok hok1 hm1 k v).1
   have hu2 : updT T1 k v = ({ T1 with b := setV T1.b (bkt T1.seed T1.b.length k) j v } : Tb Int) := by (unfold updT; rw [hf]; simp)
   rw [hu2] at hup
   rw [hst]
   exact ⟨by rw [hf], (TabM.fin (T := ({ T1 with b := setV T1.b (bkt T1.seed T1.b.length k) j v })) hup (fun h => hb1 (by have := congrArg List.length h; rwa [setV_length] at this)) hB_444 hRA_445 hRB_446 (by first | exact hlA | (simp only [List.length_set]; exact hlA)) hK440 (mem4 (l := (t :: gA :: gB :: av)) (by simp) (by simp) (by simp) (by intro k hk; simp [hk])) (by first | assumption | omega) (by first | assumption | omega) (by first | assumption | omega) hpt ⟨.inl hpg.1, hpg.2⟩ ⟨.inl hph.1, hph.2⟩ rfl rfl rfl rfl rfl rfl (setV_length _ _ _ _).symm).gr3 (by omega), (hFPE.gr hE_447)⟩
set_option maxHeartbeats 4000000 in
set_option maxRecDepth 20000 in
theorem rnew_any (w : World) (av : List Nat) (hav : ∀ k ∈ av, k < w.heap.size) (seed : Nat) (hsd : seed < 18446744073709551616) : Calls Try.prog 15 #[.int .u64 (seed : Int)] w (fun e w' => ∃ t, e = .returned (.pointer (some ⟨t, 0, none⟩)) ∧ TabX 40 42 60 itI w' (gr (fun _ => False) w w') av t (newT seed) ∧ Fr [] w w') := by
 have hF := Fr.refl [] w
 refine V.en 7 Try.func15 fun a h1 => ?_
 refine V.sr h1 [] 2 2 [] fun a h4 => ?_
 refine V.sg fun K5 k6 => ?_
 refine V.run h4 [] 1 1 0 [(3, .int .u64 (seed : Int))] fun a h11 => ?_
 refine V.go (V.mks (enc := idV) (4) (.slice none 0 0) nilS 24 (evc.trans (V.int_eq (by omega))) (evc.trans (V.int_eq (by omega))) (by kernel_rfl) info42 rfl rfl (by omega) (by omega) ?_)
 intro w8 b7 heb7 hR9 hF10
 have hsb7 := hR9.lt
 have hF_12 := hF.new hF10
 refine V.pt h11 fun a h13 => ?_
 refine V.run h13 [] 1 1 0 [(5, .agg #[.int .u64 (seed : Int), .slice (some ⟨b7, 0, none⟩) 4 4, .slice none 0 0, .int .i64 0, .int .i64 0])] fun a h14 => ?_
 refine V.go (V.mk [(5, .agg #[.int .u64 (seed : Int), .slice (some ⟨b7, 0, none⟩) 4 4, .slice none 0 0, .int .i64 0, .int .i64 0])] ⟨h14.e, trivial⟩ (by kernel_rfl) [.int .u64 (seed : Int), .slice (some ⟨b7, 0, none⟩) 4 4, .slice none 0 0, .int .i64 0, .int .i64 0] 40 (fun b => .pointer (some ⟨b, 0, none⟩)) (by kernel_rfl) ?_)
 intro w16 b15 heb15 hB17 hF18 hsb15
 have hF_19 := hF_12.new hF18
 have hR9_20 := hR9.fr0 hF18
 refine V.pt h14 fun a h21 => ?_
 refine V.re h21 [] 1 0 [(2, .pointer (some ⟨b15, 0, none⟩))] fun a h22 => k6 _ _ ?_
 refine V.ret ?_
 refine V.r1 h22 (.pointer (some ⟨b15, 0, none⟩)) ?_
 exact ⟨b15, rfl, newT_tab hB17 hR9_20 (by omega) (by omega) (by omega) hsd hav, hF_19⟩
end Go.Proofs.Ytalhmegjomfbaaa
