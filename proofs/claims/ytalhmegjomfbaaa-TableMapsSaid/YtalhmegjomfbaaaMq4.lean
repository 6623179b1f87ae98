/- Joined texts: Rc, TabW, Rd, Re, RunM, Rf, Ac, Th, Lp, OpenO, Lo. -/
import Derived.Test.YtalhmegjomfbaaaProg
import Derived.Deep.Slices
import Derived.Lib.SmallJoins
import Derived.ProofKit
import Derived.Test.YtalhmegjomfbaaaMq3
section
namespace Go.Proofs.Ytalhmegjomfbaaa
open Go.V Go.Base
open Go.RowKit (Below)
attribute [local irreducible] Act.put Act.eval
set_option linter.unusedVariables false
set_option linter.unusedSimpArgs false
set_option maxHeartbeats 4000000
set_option maxRecDepth 20000
section
variable {w : World} {H : Nat → Prop} {av : List Nat} {t : Nat} {T : Tb Int}
theorem rfind_any (w : World) (H : Nat → Prop) (av : List Nat) (t : Nat) (T : Tb Int) (hT : TabX 40 42 60 itI w H av t T) (k : ByteArray) (hk : k.size ≤ 9223372036854775807) :
    Calls Try.prog 71 #[.pointer (some ⟨t, 0, none⟩), .string k] w (fun e w' => e = .returned (.tuple #[.int .i64 (rfT T k).1, .int .i64 (rfT T k).2.1, .int .i64 (rfT T k).2.2]) ∧ Fr [] w w') := by
  rcases hT.2 with ⟨hb, gA, vsA, h⟩ | ⟨hb, gA, gB, vsA, vsB, h⟩
  · exact rfind_N w H av t gA vsA T hT.1 h k hk (by rw [hb]; rfl)
  · exact rfind_M w H av t gA gB vsA vsB T hT.1 h k hk (fun h => hb (List.eq_nil_of_length_eq_zero h))
theorem rstep_any (w : World) (H : Nat → Prop) (av : List Nat) (t : Nat) (T : Tb Int) (hT : TabX 40 42 60 itI w H av t T) (hm : T.Mv) :
    Calls Try.prog 49 #[.pointer (some ⟨t, 0, none⟩)] w (fun e w' => e = .returned (.bool (decide ((tbStep T).b.length ≠ 0))) ∧ TabX 40 42 60 itI w' (gr H w w') av t (tbStep T) ∧ FrP (gp H av) w w') := by
  rcases hT.2 with ⟨hb, gA, vsA, h⟩ | ⟨hb, gA, gB, vsA, vsB, h⟩
  · have hb0 : T.b.length = 0 := by rw [hb]; rfl
    have hst : tbStep T = T := by unfold tbStep; rw [if_pos hb0]
    refine (rstep_N w H av t gA vsA T hT.1 h hb0).mono fun e w' q => ⟨?_, ?_, (FrP.refl _ _).tr0 q.2⟩
    · rw [hst, q.1, decide_eq_false (by omega)]
    · rw [hst]; exact (hT.fr0 q.2).gr1
  · exact rstep_M w H av t gA gB vsA vsB T hT.1 h (fun h => hb (List.eq_nil_of_length_eq_zero h)) hm
end
theorem rlook_any (w : World) (H : Nat → Prop) (av : List Nat) (t : Nat) (T1 : Tb Int) (hT : TabX 40 42 60 itI w H av t T1) (k : ByteArray) (hkz : k.size ≤ 9223372036854775807) : Calls Try.prog 48 #[.pointer (some ⟨t, 0, none⟩), .string k] w (fun e w' => e = .returned (.tuple #[.int .i64 (lookT 0 T1 k).1, .bool (lookT 0 T1 k).2]) ∧ Fr [] w w') := by
 have hFP := FrP.refl (gp H av) w
 have hF := Fr.refl [] w
 refine V.en 43 Try.func48 fun a h1 => ?_
 refine V.sr h1 [] 4 5 [] fun a h4 => ?_
 refine V.sg fun K5 k6 => ?_
 refine V.run h4 [] 2 1 0 [(10, .pointer (some ⟨t, 0, none⟩)), (11, .string k)] fun a h7 => ?_
 have hok1 := hT.1
 rcases findT_cases hok1 k with hf | ⟨j, hf, hj⟩ | ⟨hbn, j, hf, hj⟩
 ·
  rcases hT.2 with ⟨hb0, gA, vsA, hN⟩ | ⟨hb0, gA, gB, vsA, vsB, hN⟩
  ·
   have hb1 : T1.b.length = 0 := by rw [hb0]; rfl
   obtain ⟨hB, hRA, hlA, hK, hne, hpt, hpg⟩ := hN
   replace hK := hK.toH
   have hltt := hB.lt
   have hltg := hRA.lt
   have hE : FrP (gp (H) av) w w := FrP.refl _ _
   have hK0 : ∀ k ∈ av, k < w.heap.size := fun k hk => hK.avl k (by simp [hk])
   obtain ⟨hsd, hpa, hla, hlb, hmv, hmz, hnn, hcn, hks⟩ := (show T1.Ok from hok1)
   have hbl := hok1.bl
   have hFPE := hFP
   refine V.go (V.call 71 #[] #[.pointer (some ⟨t, 0, none⟩), .string k] evf (args2 h7.e h7.e) (Go.Proofs.enters_of Try.func71 (by kernel_rfl) rfl) (by have h := rfind_any w (H) (av) t T1 hT k hkz; rw [rfT_no hf] at h; exact h) ?_)
   rintro _ w9 ⟨rfl, hF8⟩
   refine ⟨_, rfl, ?_⟩
   have hsw9 := hF8.size
   have hF_10 := hF.new hF8
   refine V.pt h7 fun a h15 => ?_
   refine V.re h15 [] 9 15 [(6, .int .i64 (-1)), (7, .int .i64 0), (8, .int .i64 0)] fun a h16 => k6 _ _ ?_
   refine V.seq fun K17 k18 => ?_
   refine V.sr h16 [] 1 0 [(16, .int .i64 (-1))] fun a h21 => ?_
   refine V.block ?_
   refine V.sr h21 [] 18 18 [(17, .bool false)] fun a h24 => ?_
   refine V.cf h24 ?_
   refine V.sr h24 [] 31 31 [(30, .bool false)] fun a h27 => ?_
   refine V.cf h27 ?_
   refine V.skip (V.blk_n ?_)
   refine V.then_n (k18 _ _ ?_)
   refine V.sr h27 [] 1 0 [(4, .int .i64 0), (5, .bool false)] fun a h30 => ?_
   refine V.ret ?_
   refine V.r2 h30 (.int .i64 0) (.bool false) ?_
   refine ⟨?_, hF_10⟩
   unfold lookT; rw [hf]
   rfl
  ·
   have hb1 : T1.b.length ≠ 0 := fun h => hb0 (List.eq_nil_of_length_eq_zero h)
   obtain ⟨hB, hRA, hRB, hlA, hlB, hK, hne, hne2, hne3, hpt, hpg, hph⟩ := hN
   replace hK := hK.toH
   have hltt := hB.lt
   have hltg := hRA.lt
   have hltg2 := hRB.lt
   have hE : FrP (gp (H) av) w w := FrP.refl _ _
   have hK0 : ∀ k ∈ av, k < w.heap.size := fun k hk => hK.avl k (by simp [hk])
   obtain ⟨hsd, hpa, hla, hlb, hmv, hmz, hnn, hcn, hks⟩ := (show T1.Ok from hok1)
   have hbl := hok1.bl
   have hFPE := hFP
   refine V.go (V.call 71 #[] #[.pointer (some ⟨t, 0, none⟩), .string k] evf (args2 h7.e h7.e) (Go.Proofs.enters_of Try.func71 (by kernel_rfl) rfl) (by have h := rfind_any w (H) (av) t T1 hT k hkz; rw [rfT_no hf] at h; exact h) ?_)
   rintro _ w32 ⟨rfl, hF31⟩
   refine ⟨_, rfl, ?_⟩
   have hsw32 := hF31.size
   have hF_33 := hF.new hF31
   refine V.pt h7 fun a h39 => ?_
   refine V.re h39 [] 9 15 [(6, .int .i64 (-1)), (7, .int .i64 0), (8, .int .i64 0)] fun a h40 => k6 _ _ ?_
   refine V.seq fun K41 k42 => ?_
   refine V.sr h40 [] 1 0 [(16, .int .i64 (-1))] fun a h45 => ?_
   refine V.block ?_
   refine V.sr h45 [] 18 18 [(17, .bool false)] fun a h48 => ?_
   refine V.cf h48 ?_
   refine V.sr h48 [] 31 31 [(30, .bool false)] fun a h51 => ?_
   refine V.cf h51 ?_
   refine V.skip (V.blk_n ?_)
   refine V.then_n (k42 _ _ ?_)
   refine V.sr h51 [] 1 0 [(4, .int .i64 0), (5, .bool false)] fun a h54 => ?_
   refine V.ret ?_
   refine V.r2 h54 (.int .i64 0) (.bool false) ?_
   refine ⟨?_, hF_33⟩
   unfold lookT; rw [hf]
   rfl
 ·
  rcases hT.2 with ⟨hb0, gA, vsA, hN⟩ | ⟨hb0, gA, gB, vsA, vsB, hN⟩
  ·
   have hb1 : T1.b.length = 0 := by rw [hb0]; rfl
   obtain ⟨hB, hRA, hlA, hK, hne, hpt, hpg⟩ := hN
   replace hK := hK.toH
   have hltt := hB.lt
   have hltg := hRA.lt
   have hE : FrP (gp (H) av) w w := FrP.refl _ _
   have hK0 : ∀ k ∈ av, k < w.heap.size := fun k hk => hK.avl k (by simp [hk])
   obtain ⟨hsd, hpa, hla, hlb, hmv, hmz, hnn, hcn, hks⟩ := (show T1.Ok from hok1)
   have hbl := hok1.bl
   have hFPE := hFP
   refine V.go (V.call 71 #[] #[.pointer (some ⟨t, 0, none⟩), .string k] evf (args2 h7.e h7.e) (Go.Proofs.enters_of Try.func71 (by kernel_rfl) rfl) (by have h := rfind_any w (H) (av) t T1 hT k hkz; rw [rfT_yes hf] at h; exact h) ?_)
   rintro _ w56 ⟨rfl, hF55⟩
   refine ⟨_, rfl, ?_⟩
   have hsw56 := hF55.size
   have hF_57 := hF.new hF55
   have hB_58 := hB.fr0 hF55
   have hRA_59 := hRA.fr0 hF55
   have hK_60 := hK.fr0 hF55
   refine V.pt h7 fun a h62 => ?_
   have hbkl := bkt_lt T1.seed k (n := T1.a.length) (by omega)
   have hbq := hbl (bkt T1.seed T1.a.length k)
   refine V.re h62 [] 9 15 [(6, .int .i64 0), (7, .int .i64 ((bkt T1.seed T1.a.length k : Nat) : Int)), (8, .int .i64 (j : Int))] fun a h63 => k6 _ _ ?_
   refine V.seq fun K64 k65 => ?_
   refine V.sr h63 [] 1 0 [(16, .int .i64 0)] fun a h68 => ?_
   refine V.block ?_
   refine V.sr h68 [] 18 18 [(17, .bool true)] fun a h71 => ?_
   refine V.ct h71 ?_
   obtain ⟨A74, c75, hv76⟩ := hK_60.getA hlA (i := (bkt T1.seed T1.a.length k)) (by omega) nilS
   have hS77 := hK_60.slA hlA (i := (bkt T1.seed T1.a.length k)) (by omega) hv76
   obtain ⟨g78, o79, hA80, hA80l, hA80z⟩ := hS77.addr (by omega)
   obtain ⟨cs81, hok82, hE83⟩ := hS77.els hA80 (j : Int) (by omega) (by omega)
   refine V.sg fun K72 k73 => ?_
   refine V.run h71 [(3, .b hB_58 1), (1, .ix gA 0 T1.a.length T1.a.length .i64 ((bkt T1.seed T1.a.length k : Nat) : Int) 1 rfl), (0, .l ⟨gA, 0 + ((bkt T1.seed T1.a.length k : Nat) : Int).toNat * 1, none⟩ (.slice A74 ((T1.a.getD (bkt T1.seed T1.a.length k) []).length) c75) ((hRA_59.at (bkt T1.seed T1.a.length k) nilS (by omega)).trans (congrArg some hv76))), (1, .ix g78 o79 ((T1.a.getD (bkt T1.seed T1.a.length k) []).length) c75 .i64 (j : Int) 2 hA80)] 10 19 27 [(28, .pointer (some ⟨g78, (o79 + (j : Int).toNat * 2) + 1, none⟩))] fun a h84 => ?_
   obtain rfl : cs81 = [.string (at_ itI (T1.a.getD (bkt T1.seed T1.a.length k) []) (j : Int)).1, .int .i64 (at_ itI (T1.a.getD (bkt T1.seed T1.a.length k) []) (j : Int)).2] := hok82
   refine V.re h84 [(0, .l ⟨g78, (o79 + (j : Int).toNat * 2) + 1, none⟩ (.int .i64 ((at_ itI (T1.a.getD (bkt T1.seed T1.a.length k) []) (j : Int)).2)) (hE83.at 1 rfl))] 29 29 [(4, .int .i64 ((at_ itI (T1.a.getD (bkt T1.seed T1.a.length k) []) (j : Int)).2)), (5, .bool true)] fun a h85 => k73 _ _ ?_
   refine V.ret (V.blk_r (V.then_r ?_))
   refine V.r2 h85 (.int .i64 ((at_ itI (T1.a.getD (bkt T1.seed T1.a.length k) []) (j : Int)).2)) (.bool true) ?_
   refine ⟨?_, hF_57⟩
   unfold lookT; rw [hf]
   rfl
  ·
   have hb1 : T1.b.length ≠ 0 := fun h => hb0 (List.eq_nil_of_length_eq_zero h)
   obtain ⟨hB, hRA, hRB, hlA, hlB, hK, hne, hne2, hne3, hpt, hpg, hph⟩ := hN
   replace hK := hK.toH
   have hltt := hB.lt
   have hltg := hRA.lt
   have hltg2 := hRB.lt
   have hE : FrP (gp (H) av) w w := FrP.refl _ _
   have hK0 : ∀ k ∈ av, k < w.heap.size := fun k hk => hK.avl k (by simp [hk])
   obtain ⟨hsd, hpa, hla, hlb, hmv, hmz, hnn, hcn, hks⟩ := (show T1.Ok from hok1)
   have hbl := hok1.bl
   have hFPE := hFP
   refine V.go (V.call 71 #[] #[.pointer (some ⟨t, 0, none⟩), .string k] evf (args2 h7.e h7.e) (Go.Proofs.enters_of Try.func71 (by kernel_rfl) rfl) (by have h := rfind_any w (H) (av) t T1 hT k hkz; rw [rfT_yes hf] at h; exact h) ?_)
   rintro _ w87 ⟨rfl, hF86⟩
   refine ⟨_, rfl, ?_⟩
   have hsw87 := hF86.size
   have hF_88 := hF.new hF86
   have hB_89 := hB.fr0 hF86
   have hRA_90 := hRA.fr0 hF86
   have hK_92 := hK.fr0 hF86
   refine V.pt h7 fun a h94 => ?_
   have hbkl := bkt_lt T1.seed k (n := T1.a.length) (by omega)
   have hbq := hbl (bkt T1.seed T1.a.length k)
   refine V.re h94 [] 9 15 [(6, .int .i64 0), (7, .int .i64 ((bkt T1.seed T1.a.length k : Nat) : Int)), (8, .int .i64 (j : Int))] fun a h95 => k6 _ _ ?_
   refine V.seq fun K96 k97 => ?_
   refine V.sr h95 [] 1 0 [(16, .int .i64 0)] fun a h100 => ?_
   refine V.block ?_
   refine V.sr h100 [] 18 18 [(17, .bool true)] fun a h103 => ?_
   refine V.ct h103 ?_
   obtain ⟨A106, c107, hv108⟩ := hK_92.getA hlA (i := (bkt T1.seed T1.a.length k)) (by omega) nilS
   have hS109 := hK_92.slA hlA (i := (bkt T1.seed T1.a.length k)) (by omega) hv108
   obtain ⟨g110, o111, hA112, hA112l, hA112z⟩ := hS109.addr (by omega)
   obtain ⟨cs113, hok114, hE115⟩ := hS109.els hA112 (j : Int) (by omega) (by omega)
   refine V.sg fun K104 k105 => ?_
   refine V.run h103 [(3, .b hB_89 1), (1, .ix gA 0 T1.a.length T1.a.length .i64 ((bkt T1.seed T1.a.length k : Nat) : Int) 1 rfl), (0, .l ⟨gA, 0 + ((bkt T1.seed T1.a.length k : Nat) : Int).toNat * 1, none⟩ (.slice A106 ((T1.a.getD (bkt T1.seed T1.a.length k) []).length) c107) ((hRA_90.at (bkt T1.seed T1.a.length k) nilS (by omega)).trans (congrArg some hv108))), (1, .ix g110 o111 ((T1.a.getD (bkt T1.seed T1.a.length k) []).length) c107 .i64 (j : Int) 2 hA112)] 10 19 27 [(28, .pointer (some ⟨g110, (o111 + (j : Int).toNat * 2) + 1, none⟩))] fun a h116 => ?_
   obtain rfl : cs113 = [.string (at_ itI (T1.a.getD (bkt T1.seed T1.a.length k) []) (j : Int)).1, .int .i64 (at_ itI (T1.a.getD (bkt T1.seed T1.a.length k) []) (j : Int)).2] := hok114
   refine V.re h116 [(0, .l ⟨g110, (o111 + (j : Int).toNat * 2) + 1, none⟩ (.int .i64 ((at_ itI (T1.a.getD (bkt T1.seed T1.a.length k) []) (j : Int)).2)) (hE115.at 1 rfl))] 29 29 [(4, .int .i64 ((at_ itI (T1.a.getD (bkt T1.seed T1.a.length k) []) (j : Int)).2)), (5, .bool true)] fun a h117 => k105 _ _ ?_
   refine V.ret (V.blk_r (V.then_r ?_))
   refine V.r2 h117 (.int .i64 ((at_ itI (T1.a.getD (bkt T1.seed T1.a.length k) []) (j : Int)).2)) (.bool true) ?_
   refine ⟨?_, hF_88⟩
   unfold lookT; rw [hf]
   rfl
 ·
  rcases hT.2 with ⟨hb0, gA, vsA, hN⟩ | ⟨hb0, gA, gB, vsA, vsB, hN⟩
  ·
   exact absurd (by rw [hb0]; rfl) hbn
  ·
   have hb1 : T1.b.length ≠ 0 := fun h => hb0 (List.eq_nil_of_length_eq_zero h)
   obtain ⟨hB, hRA, hRB, hlA, hlB, hK, hne, hne2, hne3, hpt, hpg, hph⟩ := hN
   replace hK := hK.toH
   have hltt := hB.lt
   have hltg := hRA.lt
   have hltg2 := hRB.lt
   have hE : FrP (gp (H) av) w w := FrP.refl _ _
   have hK0 : ∀ k ∈ av, k < w.heap.size := fun k hk => hK.avl k (by simp [hk])
   obtain ⟨hsd, hpa, hla, hlb, hmv, hmz, hnn, hcn, hks⟩ := (show T1.Ok from hok1)
   have hbl := hok1.bl
   have hFPE := hFP
   refine V.go (V.call 71 #[] #[.pointer (some ⟨t, 0, none⟩), .string k] evf (args2 h7.e h7.e) (Go.Proofs.enters_of Try.func71 (by kernel_rfl) rfl) (by have h := rfind_any w (H) (av) t T1 hT k hkz; rw [rfT_yes hf] at h; exact h) ?_)
   rintro _ w119 ⟨rfl, hF118⟩
   refine ⟨_, rfl, ?_⟩
   have hsw119 := hF118.size
   have hF_120 := hF.new hF118
   have hB_121 := hB.fr0 hF118
   have hRB_123 := hRB.fr0 hF118
   have hK_124 := hK.fr0 hF118
   refine V.pt h7 fun a h126 => ?_
   have hbkl := bkt_lt T1.seed k (n := T1.b.length) (by omega)
   have hbq := hbl (bkt T1.seed T1.b.length k)
   refine V.re h126 [] 9 15 [(6, .int .i64 1), (7, .int .i64 ((bkt T1.seed T1.b.length k : Nat) : Int)), (8, .int .i64 (j : Int))] fun a h127 => k6 _ _ ?_
   refine V.seq fun K128 k129 => ?_
   refine V.sr h127 [] 1 0 [(16, .int .i64 1)] fun a h132 => ?_
   refine V.block ?_
   refine V.sr h132 [] 18 18 [(17, .bool false)] fun a h135 => ?_
   refine V.cf h135 ?_
   refine V.sr h135 [] 31 31 [(30, .bool true)] fun a h138 => ?_
   refine V.ct h138 ?_
   obtain ⟨A141, c142, hv143⟩ := hK_124.getB hlA (i := (bkt T1.seed T1.b.length k)) (by omega) nilS
   have hS144 := hK_124.slB hlA (i := (bkt T1.seed T1.b.length k)) (by omega) hv143
   obtain ⟨g145, o146, hA147, hA147l, hA147z⟩ := hS144.addr (by omega)
   obtain ⟨cs148, hok149, hE150⟩ := hS144.els hA147 (j : Int) (by omega) (by omega)
   refine V.sg fun K139 k140 => ?_
   refine V.run h138 [(3, .b hB_121 2), (1, .ix gB 0 T1.b.length T1.b.length .i64 ((bkt T1.seed T1.b.length k : Nat) : Int) 1 rfl), (0, .l ⟨gB, 0 + ((bkt T1.seed T1.b.length k : Nat) : Int).toNat * 1, none⟩ (.slice A141 ((T1.b.getD (bkt T1.seed T1.b.length k) []).length) c142) ((hRB_123.at (bkt T1.seed T1.b.length k) nilS (by omega)).trans (congrArg some hv143))), (1, .ix g145 o146 ((T1.b.getD (bkt T1.seed T1.b.length k) []).length) c142 .i64 (j : Int) 2 hA147)] 10 32 40 [(41, .pointer (some ⟨g145, (o146 + (j : Int).toNat * 2) + 1, none⟩))] fun a h151 => ?_
   obtain rfl : cs148 = [.string (at_ itI (T1.b.getD (bkt T1.seed T1.b.length k) []) (j : Int)).1, .int .i64 (at_ itI (T1.b.getD (bkt T1.seed T1.b.length k) []) (j : Int)).2] := hok149
   refine V.re h151 [(0, .l ⟨g145, (o146 + (j : Int).toNat * 2) + 1, none⟩ (.int .i64 ((at_ itI (T1.b.getD (bkt T1.seed T1.b.length k) []) (j : Int)).2)) (hE150.at 1 rfl))] 42 42 [(4, .int .i64 ((at_ itI (T1.b.getD (bkt T1.seed T1.b.length k) []) (j : Int)).2)), (5, .bool true)] fun a h152 => k140 _ _ ?_
   refine V.ret (V.blk_r (V.then_r ?_))
   refine V.r2 h152 (.int .i64 ((at_ itI (T1.b.getD (bkt T1.seed T1.b.length k) []) (j : Int)).2)) (.bool true) ?_
   refine ⟨?_, hF_120⟩
   unfold lookT; rw [hf]
   rfl
theorem rget_any (w : World) (H : Nat → Prop) (av : List Nat) (t : Nat) (T : Tb Int) (hT : TabX 40 42 60 itI w H av t T) (hm : T.Mv) (k : ByteArray) (hkz : k.size ≤ 9223372036854775807) : Calls Try.prog 46 #[.pointer (some ⟨t, 0, none⟩), .string k] w (fun e w' => e = .returned (.tuple #[.int .i64 (lookT 0 (tbStep T) k).1, .bool (lookT 0 (tbStep T) k).2]) ∧ TabX 40 42 60 itI w' (gr H w w') av t (tbStep T) ∧ FrP (gp H av) w w') := by
 have hFP := FrP.refl (gp H av) w
 obtain ⟨hok0, hm1⟩ := tbStep_ok hT.1 hm
 obtain ⟨T1, hT1⟩ : ∃ T1, T1 = tbStep T := ⟨_, rfl⟩
 rw [← hT1] at hok0 hm1 ⊢
 refine V.en 13 Try.func46 fun a h1 => ?_
 refine V.sr h1 [] 4 5 [] fun a h4 => ?_
 refine V.sg fun K5 k6 => ?_
 refine V.run h4 [] 1 1 0 [(6, .pointer (some ⟨t, 0, none⟩))] fun a h7 => ?_
 refine V.cl h7 (Go.Proofs.enters_of Try.func49 (by kernel_rfl) rfl) (rstep_any w (H) (av) t (T) hT hm) ?_
 rintro _ w10 ⟨rfl, hT8, hfp9⟩
 refine ⟨_, rfl, fun a h11 => ?_⟩
 have hsw10 := hfp9.size
 have hFP_12 := hFP.trP hfp9 (fun k hk => .inl hk)
 have hT8q := hT8.grm (w := w) (by omega)
 rw [← hT1] at hT8q
 refine V.nt (k6 _ _ ?_)
 refine V.sg fun K13 k14 => ?_
 refine V.run h11 [] 2 1 0 [(8, .pointer (some ⟨t, 0, none⟩)), (9, .string k)] fun a h15 => ?_
 refine V.cl h15 (Go.Proofs.enters_of Try.func48 (by kernel_rfl) rfl) (rlook_any w10 (gr H w w10) (av) t (T1) hT8q k (by first | exact hkz | decide | omega)) ?_
 rintro _ w17 ⟨rfl, hF16⟩
 refine ⟨_, rfl, fun a h18 => ?_⟩
 have hsw17 := hF16.size
 have hFP_19 := hFP_12.tr0 hF16
 have hT8q_20 := hT8q.fr0 hF16
 refine V.re h18 [] 11 12 [(4, .int .i64 ((lookT 0 (T1) k).1)), (5, .bool ((lookT 0 (T1) k).2))] fun a h21 => k14 _ _ ?_
 refine V.ret ?_
 refine V.r2 h21 (.int .i64 ((lookT 0 (T1) k).1)) (.bool ((lookT 0 (T1) k).2)) ?_
 exact ⟨rfl, hT8q_20.grl (by omega), hFP_19⟩
theorem rput_any (w : World) (H : Nat → Prop) (av : List Nat) (t : Nat) (T : Tb Int) (hT : TabX 40 42 60 itI w H av t T) (hm : T.Mv) (k : ByteArray) (hkz : k.size ≤ 9223372036854775807) (v : Int) (hv : -9223372036854775808 ≤ v ∧ v ≤ 9223372036854775807) (hn : T.n < 1099511627776) : Calls Try.prog 45 #[.pointer (some ⟨t, 0, none⟩), .string k, .int .i64 v] w (fun e w' => e = .returned (.bool (findT (tbStep T) k).2) ∧ TabX 40 42 60 itI w' (gr H w w') av t (putT T k v) ∧ FrP (gp H av) w w') := by
 have hFP := FrP.refl (gp H av) w
 obtain ⟨hok0, hm1⟩ := tbStep_ok hT.1 hm
 obtain ⟨T1, hT1⟩ : ∃ T1, T1 = tbStep T := ⟨_, rfl⟩
 rw [← hT1] at hok0 hm1 ⊢
 have hn1 : T1.n < 1099511627776 := by rw [hT1, tbStep_n]; exact hn
 refine V.en 131 Try.func45 fun a h1 => ?_
 refine V.sr h1 [] 6 6 [] fun a h4 => ?_
 refine V.sg fun K5 k6 => ?_
 refine V.run h4 [] 1 1 0 [(10, .pointer (some ⟨t, 0, none⟩))] fun a h7 => ?_
 refine V.cl h7 (Go.Proofs.enters_of Try.func49 (by kernel_rfl) rfl) (rstep_any w (H) (av) t (T) hT hm) ?_
 rintro _ w10 ⟨rfl, hT8, hfp9⟩
 refine ⟨_, rfl, fun a h11 => ?_⟩
 have hsw10 := hfp9.size
 have hFP_12 := hFP.trP hfp9 (fun k hk => .inl hk)
 have hT8q := hT8.grm (w := w) (by omega)
 rw [← hT1] at hT8q
 refine V.nt (k6 _ _ ?_)
 refine V.sg fun K13 k14 => ?_
 refine V.run h11 [] 2 1 0 [(13, .pointer (some ⟨t, 0, none⟩)), (14, .string k)] fun a h15 => ?_
 have hok1 := hT8q.1
 rcases findT_cases hok1 k with hf | ⟨j, hf, hj⟩ | ⟨hbn, j, hf, hj⟩
 ·
  rcases hT8q.2 with ⟨hb0, gA, vsA, hN⟩ | ⟨hb0, gA, gB, vsA, vsB, hN⟩
  ·
   have hb1 : T1.b.length = 0 := by rw [hb0]; rfl
   obtain ⟨hB, hRA, hlA, hK, hne, hpt, hpg⟩ := hN
   replace hK := hK.toH
   have hltt := hB.lt
   have hltg := hRA.lt
   have hE : FrP (gp (gr H w w10) av) w10 w10 := FrP.refl _ _
   have hK0 : ∀ k ∈ av, k < w10.heap.size := fun k hk => hK.avl k (by simp [hk])
   obtain ⟨hsd, hpa, hla, hlb, hmv, hmz, hnn, hcn, hks⟩ := (show T1.Ok from hok1)
   have hbl := hok1.bl
   have hFPE := hFP_12
   refine V.go (V.call 71 #[] #[.pointer (some ⟨t, 0, none⟩), .string k] evf (args2 h15.e h15.e) (Go.Proofs.enters_of Try.func71 (by kernel_rfl) rfl) (by have h := rfind_any w10 (gr H w w10) (av) t T1 hT8q k hkz; rw [rfT_no hf] at h; exact h) ?_)
   rintro _ w17 ⟨rfl, hF16⟩
   refine ⟨_, rfl, ?_⟩
   have hsw17 := hF16.size
   have hB_18 := hB.fr0 hF16
   have hRA_19 := hRA.fr0 hF16
   have hK_20 := hK.fr0 hF16
   have hE_21 := hE.tr0 hF16
   refine V.pt h15 fun a h22 => ?_
   refine V.re h22 [] 12 18 [(7, .int .i64 (-1)), (8, .int .i64 0), (9, .int .i64 0)] fun a h23 => k14 _ _ ?_
   refine V.seq fun K24 k25 => ?_
   refine V.sr h23 [] 1 0 [(19, .int .i64 (-1))] fun a h28 => ?_
   refine V.block ?_
   refine V.sr h28 [] 21 21 [(20, .bool false)] fun a h31 => ?_
   refine V.cf h31 ?_
   refine V.sr h31 [] 34 34 [(33, .bool false)] fun a h34 => ?_
   refine V.cf h34 ?_
   refine V.skip (V.blk_n ?_)
   refine V.then_n (k25 _ _ ?_)
   refine V.sg fun K35 k36 => ?_
   refine V.run h34 [(3, .b hB_18 4), (0, .i ((T1.n : Int) + 1))] 7 46 51 [(50, .int .i64 ((T1.n : Int) + 1)), (52, .pointer (some ⟨t, 4, none⟩))] fun a h40 => ?_
   refine V.go (V.stn t 4 (.int .i64 ((T1.n : Int) + 1)) [.int .i64 ((T1.n : Int) + 1)] h40.e h40.e rfl rfl (by kernel_rfl) hB_18 (by simp) [.int .u64 (T1.seed : Int), .slice (some ⟨gA, 0, none⟩) T1.a.length T1.a.length, .slice none 0 0, .int .i64 (T1.moved : Int), .int .i64 ((T1.n : Int) + 1)] rfl ?_)
   intro w37 hB38 hF39 hsw37
   have hRA_41 := hRA_19.fr1 hF39 (by omega)
   have hK_42 := hK_20.fr hF39 (by simp)
   have hE_43 := hE_21.tr1 hF39 (by first | exact .inl (by assumption) | exact .inr (by omega) | exact .inl (.inl rfl))
   refine V.nt (k36 _ _ ?_)
   refine V.seq fun K44 k45 => ?_
   refine V.sr h40 [(3, .b hB38 2)] 53 57 [(58, .bool false)] fun a h48 => ?_
   refine V.cf h48 ?_
   refine V.skip ?_
   refine V.then_n (k45 _ _ ?_)
   refine V.sg fun K49 k50 => ?_
   refine V.run h48 [(4, .b hB38 1)] 7 86 89 [(85, .pointer (some ⟨t, 0, none⟩)), (90, .int .i64 ((T1.a.length : Nat) : Int)), (91, .string k)] fun a h51 => ?_
   refine V.cl h51 (Go.Proofs.enters_of Try.func72 (by kernel_rfl) rfl) (rbucket_blk w37 t T1.seed (.slice (some ⟨gA, 0, none⟩) T1.a.length T1.a.length) (.slice none 0 0) (.int .i64 (T1.moved : Int)) (.int .i64 ((T1.n : Int) + 1)) hB38 T1.a.length k  (by omega) (by omega) (by omega) (by omega)) ?_
   rintro _ w53 ⟨rfl, hF52⟩
   refine ⟨_, rfl, fun a h54 => ?_⟩
   have hsw53 := hF52.size
   have hRA_55 := hRA_41.fr0 hF52
   have hK_56 := hK_42.fr0 hF52
   have hE_57 := hE_43.tr0 hF52
   have hB38_58 := hB38.fr0 hF52
   have hbl52 := bkt_lt T1.seed k (n := T1.a.length) (by omega)
   refine V.re h54 [] 1 0 [(8, .int .i64 ((bkt T1.seed T1.a.length k : Nat) : Int))] fun a h59 => k50 _ _ ?_
   refine V.seq fun K60 k61 => ?_
   have hbq := hbl (bkt T1.seed T1.a.length k)
   refine V.pl [([0,1,2,3,4,5,6,7,8,9,10,11,12,13,14],some (15,[3,8,11])),([],some (16,[3])),([17],some (18,[])),([],none)] fun w62 hF63 hsw62 => ?_
   have hRA_64 := hRA_55.fr0 hF63
   have hK_65 := hK_56.fr0 hF63
   have hE_66 := hE_57.tr0 hF63
   have hB38_67 := hB38_58.fr0 hF63
   obtain ⟨A68, c69, hv70⟩ := hK_65.getA hlA (i := (bkt T1.seed T1.a.length k)) (by omega) nilS
   have hS71 := hK_65.slA hlA (i := (bkt T1.seed T1.a.length k)) (by omega) hv70
   refine V.pe h59 [(3, .b hB38_67 1), (4, .b hB38_67 1), (1, .ix gA 0 T1.a.length T1.a.length .i64 ((bkt T1.seed T1.a.length k : Nat) : Int) 1 rfl), (0, .l ⟨gA, 0 + ((bkt T1.seed T1.a.length k : Nat) : Int).toNat * 1, none⟩ (.slice A68 ((T1.a.getD (bkt T1.seed T1.a.length k) []).length) c69) ((hRA_64.at (bkt T1.seed T1.a.length k) nilS (by omega)).trans (congrArg some hv70)))] 93 106 [(95, .pointer (some ⟨t, 1, none⟩)), (96, .slice (some ⟨gA, 0, none⟩) T1.a.length T1.a.length), (97, .int .i64 ((bkt T1.seed T1.a.length k : Nat) : Int)), (100, .pointer (some ⟨t, 1, none⟩)), (103, .pointer (some ⟨gA, 0 + ((bkt T1.seed T1.a.length k : Nat) : Int).toNat * 1, none⟩)), (104, .slice A68 ((T1.a.getD (bkt T1.seed T1.a.length k) []).length) c69), (107, .agg #[.string k, .int .i64 v])] fun a h72 => ?_
   refine V.go (V.mk [(107, .agg #[.string k, .int .i64 v])] ⟨h72.e, trivial⟩ (by kernel_rfl) [.string k, .int .i64 v] 60 (fun b => .slice (some ⟨b, 0, none⟩) 1 1) (by kernel_rfl) ?_)
   intro w74 b73 heb73 hB75 hF76 hsb73
   have hRA_77 := hRA_64.fr0 hF76
   have hK_78 := hK_65.alloc hF76 heb73 (by omega)
   have hE_79 := hE_66.tr0 hF76
   have hB38_80 := hB38_67.fr0 hF76
   refine V.pt h72 fun a h82 => ?_
   refine V.eh ⟨(fun _ => held_blk (n := 1) (hx := (h72.e (v := (.pointer (some ⟨t, 1, none⟩))))) hB38_67 hB38_80 (by kernel_rfl) rfl (by simp only [List.length]; omega)), (fun _ => held_blk (n := 1) (hx := (h72.e (v := (.pointer (some ⟨t, 1, none⟩))))) hB38_67 hB38_80 (by kernel_rfl) rfl (by simp only [List.length]; omega)), (fun _ => held_row (hx := (h72.e (v := (.pointer (some ⟨gA, 0 + ((bkt T1.seed T1.a.length k : Nat) : Int).toNat * 1, none⟩))))) hRA_64 hRA_77 (by kernel_rfl) (by omega))⟩ ?_
   refine V.pe h82 [] 1 0 [] fun a h83 => ?_
   refine V.go (V.appRA (R := itI) (ys := ([(k, v)])) (news := [.string k, .int .i64 v]) hK_78 hlA (i := (bkt T1.seed T1.a.length k)) (by omega) hv70 (h83.e (v := (.slice A68 ((T1.a.getD (bkt T1.seed T1.a.length k) []).length) c69))) ⟨b73, 0, none⟩ 1 1 (h83.e (v := (.slice (some ⟨b73, 0, none⟩) 1 1))) (by kernel_rfl) (info60) (by kernel_rfl) (by decide) rfl ⟨[.string k, .int .i64 v], [], rfl, rfl, rfl⟩ (blk_cells hB75 0 _ rfl) (by omega) (by decide) (.inr (by omega)) ?_)
   intro A84 c85 w86 hK87 hF88 ho89
   have hsw86 := hF88.size
   have hRA_90 := hRA_77.fr hF88 (fun hm => (ho89 _ hm).1 (by simp))
   have hE_91 := hE_79.tr hF88 (fun k hk => ((ho89 k hk).2).imp (fun h => ⟨h, fun hm => (ho89 k hk).1 (by simp [hm])⟩) id)
   have hB38_92 := hB38_80.fr hF88 (fun hm => (ho89 _ hm).1 (by simp))
   refine V.pt h83 fun a h93 => ?_
   refine V.eh (fun _ => held_blk (n := 1) (hx := (h83.e (v := (.pointer (some ⟨t, 1, none⟩))))) hB38_80 hB38_92 (by kernel_rfl) rfl (by simp only [List.length]; omega)) ?_
   refine V.pe h93 [(0, .ix gA 0 T1.a.length T1.a.length .i64 ((bkt T1.seed T1.a.length k : Nat) : Int) 1 rfl)] 1 0 [(110, .pointer (some ⟨gA, 0 + ((bkt T1.seed T1.a.length k : Nat) : Int).toNat * 1, none⟩))] fun a h94 => ?_
   refine V.go (V.strow (enc := idV) gA (((bkt T1.seed T1.a.length k : Nat) : Int).toNat) (.slice A84 ((T1.a.getD (bkt T1.seed T1.a.length k) []).length + 1) c85) h94.e h94.e rfl rfl (by kernel_rfl) hRA_90 (by first | omega | (simp only [List.length_set, List.length_replicate]; omega)) ?_)
   intro w95 hR96 hF97 hsw95
   have hE_98 := hE_91.tr1 hF97 (by first | exact .inl (by assumption) | exact .inr (by omega) | exact .inl (.inl rfl))
   have hB38_99 := hB38_92.fr1 hF97 (by omega)
   have hK87_100 := hK87.fr hF97 (by simp)
   refine V.eh trivial ?_
   refine V.pz h94 [] 1 0 [] fun a h101 => k61 _ _ ?_
   have h102 := h101.only [(0, .pointer (some ⟨t, 0, none⟩))]
   refine V.seq fun K103 k104 => ?_
   refine V.seq fun K105 k106 => ?_
   refine V.pl [([0,1,2,3,4,5,6,7,8,9],none)] fun w107 hF108 hsw107 => ?_
   have hE_109 := hE_98.tr0 hF108
   have hB38_110 := hB38_99.fr0 hF108
   have hK87_111 := hK87_100.fr0 hF108
   have hR96_112 := hR96.fr0 hF108
   refine V.pz h102 [(3, .b hB38_110 4), (3, .b hB38_110 1)] 111 119 [(120, .bool (decide (((T1.n : Int) + 1) > ((T1.a.length : Nat) : Int))))] fun a h113 => k106 _ _ ?_
   refine V.cp h113 (((T1.n : Int) + 1) > ((T1.a.length : Nat) : Int)) (fun ht114 => ?_) (fun ht114 => ?_)
   ·
    refine V.rg ?_
    refine V.run h113 [(4, .b hB38_110 1), (1, .q (.int .i64 ((2 * T1.a.length : Nat) : Int)) (w_mulN (by omega)))] 7 122 126 [(121, .pointer (some ⟨t, 0, none⟩)), (127, .int .i64 ((2 * T1.a.length : Nat) : Int))] fun a h119 => ?_
    refine V.go (V.mks (enc := idV) (2 * T1.a.length) (.slice none 0 0) nilS 24 ((h119.e (v := (.int .i64 ((2 * T1.a.length : Nat) : Int)))).trans (V.int_eq (by omega))) ((h119.e (v := (.int .i64 ((2 * T1.a.length : Nat) : Int)))).trans (V.int_eq (by omega))) (by kernel_rfl) info42 rfl rfl (by omega) (by omega) ?_)
    intro w116 b115 heb115 hR117 hF118
    have hsb115 := hR117.lt
    have hE_120 := hE_109.tr0 hF118
    have hB38_121 := hB38_110.fr0 hF118
    have hK87_122 := hK87_111.alloc hF118 heb115 (by omega)
    have hR96_123 := hR96_112.fr0 hF118
    refine V.pt h119 fun a h124 => ?_
    refine V.run h124 [] 2 129 129 [(130, .pointer (some ⟨t, 2, none⟩))] fun a h128 => ?_
    refine V.go (V.stn t 2 (.slice (some ⟨b115, 0, none⟩) (2 * T1.a.length) (2 * T1.a.length)) [.slice (some ⟨b115, 0, none⟩) (2 * T1.a.length) (2 * T1.a.length)] h128.e h128.e rfl rfl (by kernel_rfl) hB38_121 (by simp) [.int .u64 (T1.seed : Int), .slice (some ⟨gA, 0, none⟩) T1.a.length T1.a.length, .slice (some ⟨b115, 0, none⟩) (2 * T1.a.length) (2 * T1.a.length), .int .i64 (T1.moved : Int), .int .i64 ((T1.n : Int) + 1)] rfl ?_)
    intro w125 hB126 hF127 hsw125
    have hE_129 := hE_120.tr1 hF127 (by first | exact .inl (by assumption) | exact .inr (by omega) | exact .inl (.inl rfl))
    have hK87_130 := hK87_122.fr hF127 (by simp)
    have hR96_131 := hR96_123.fr1 hF127 (by omega)
    have hR117_132 := hR117.fr1 hF127 (by omega)
    refine V.nt (k104 _ _ ?_)
    refine V.sr h128 [] 1 0 [(6, .bool false)] fun a h135 => ?_
    refine V.ret ?_
    refine V.r1 h135 (.bool false) ?_
    have hst : putT T k v = insT T1 k v := by (unfold putT; rw [← hT1]; unfold put1T; rw [hf, if_neg (by simp)])
    have hup := (insT_ok hok1 hm1 (by omega) k hkz v).1
    rw [hst]
    have hu2 : insT T1 k v = startT ({ T1 with a := putB T1.seed T1.a (k, v), n := T1.n + 1 } : Tb Int) (2 * T1.a.length) := by (unfold insT; rw [if_pos hb1, if_pos (by omega)])
    rw [hu2] at hup ⊢
    have hKa136 := hK87_130.addNil (2 * T1.a.length)
    simp only [List.append_nil] at hKa136
    exact ⟨by rw [hf], (TabM.fin (T := (startT ({ T1 with a := putB T1.seed T1.a (k, v), n := T1.n + 1 } : Tb Int) (2 * T1.a.length))) hup (by simp only [startT]; intro h; have := congrArg List.length h; simp at this; omega) hB126 hR96_131 hR117_132 (by rw [List.length_set, List.length_set]; exact hlA) hKa136 (mem4 (l := (b115 :: b73 :: t :: gA :: av)) (by simp) (by simp) (by simp) (by intro k hk; simp [hk])) (by first | assumption | omega) (by first | assumption | omega) (by first | assumption | omega) hpt ⟨.inl hpg.1, hpg.2⟩ ⟨.inr (by omega), fun hm => by have := hK0 _ hm; omega⟩ rfl (putB_length _ _ _).symm (by have h := hmz hb1; show ((T1.moved : Nat) : Int) = ((0 : Nat) : Int); omega) (by simp [startT]) rfl rfl (by simp [startT])).gr3 (by omega), (hFPE.gr hE_129)⟩
   ·
    refine V.skip ?_
    refine V.then_n (k104 _ _ ?_)
    refine V.sr h113 [] 1 0 [(6, .bool false)] fun a h139 => ?_
    refine V.ret ?_
    refine V.r1 h139 (.bool false) ?_
    have hst : putT T k v = insT T1 k v := by (unfold putT; rw [← hT1]; unfold put1T; rw [hf, if_neg (by simp)])
    have hup := (insT_ok hok1 hm1 (by omega) k hkz v).1
    rw [hst]
    have hu2 : insT T1 k v = ({ T1 with a := putB T1.seed T1.a (k, v), n := T1.n + 1 } : Tb Int) := by (unfold insT; rw [if_pos hb1, if_neg (by omega)])
    rw [hu2] at hup ⊢
    exact ⟨by rw [hf], (TabN.fin (T := ({ T1 with a := putB T1.seed T1.a (k, v), n := T1.n + 1 })) hup hb0 hB38_110 hR96_112 (by have h := hK87_111; rw [List.append_nil, List.append_nil] at h; exact h) (mem3 (l := (b73 :: t :: gA :: av)) (by simp) (by simp) (by intro k hk; simp [hk])) (by first | assumption | exact Ne.symm (by assumption) | omega) hpt ⟨.inl hpg.1, hpg.2⟩ rfl (putB_length _ _ _).symm rfl (by simp) rfl).gr3 (by omega), (hFPE.gr hE_109)⟩
  ·
   have hb1 : T1.b.length ≠ 0 := fun h => hb0 (List.eq_nil_of_length_eq_zero h)
   obtain ⟨hB, hRA, hRB, hlA, hlB, hK, hne, hne2, hne3, hpt, hpg, hph⟩ := hN
   replace hK := hK.toH
   have hltt := hB.lt
   have hltg := hRA.lt
   have hltg2 := hRB.lt
   have hE : FrP (gp (gr H w w10) av) w10 w10 := FrP.refl _ _
   have hK0 : ∀ k ∈ av, k < w10.heap.size := fun k hk => hK.avl k (by simp [hk])
   obtain ⟨hsd, hpa, hla, hlb, hmv, hmz, hnn, hcn, hks⟩ := (show T1.Ok from hok1)
   have hbl := hok1.bl
   have hFPE := hFP_12
   refine V.go (V.call 71 #[] #[.pointer (some ⟨t, 0, none⟩), .string k] evf (args2 h15.e h15.e) (Go.Proofs.enters_of Try.func71 (by kernel_rfl) rfl) (by have h := rfind_any w10 (gr H w w10) (av) t T1 hT8q k hkz; rw [rfT_no hf] at h; exact h) ?_)
   rintro _ w141 ⟨rfl, hF140⟩
   refine ⟨_, rfl, ?_⟩
   have hsw141 := hF140.size
   have hB_142 := hB.fr0 hF140
   have hRA_143 := hRA.fr0 hF140
   have hRB_144 := hRB.fr0 hF140
   have hK_145 := hK.fr0 hF140
   have hE_146 := hE.tr0 hF140
   refine V.pt h15 fun a h147 => ?_
   refine V.re h147 [] 12 18 [(7, .int .i64 (-1)), (8, .int .i64 0), (9, .int .i64 0)] fun a h148 => k14 _ _ ?_
   refine V.seq fun K149 k150 => ?_
   refine V.sr h148 [] 1 0 [(19, .int .i64 (-1))] fun a h153 => ?_
   refine V.block ?_
   refine V.sr h153 [] 21 21 [(20, .bool false)] fun a h156 => ?_
   refine V.cf h156 ?_
   refine V.sr h156 [] 34 34 [(33, .bool false)] fun a h159 => ?_
   refine V.cf h159 ?_
   refine V.skip (V.blk_n ?_)
   refine V.then_n (k150 _ _ ?_)
   refine V.sg fun K160 k161 => ?_
   refine V.run h159 [(3, .b hB_142 4), (0, .i ((T1.n : Int) + 1))] 7 46 51 [(50, .int .i64 ((T1.n : Int) + 1)), (52, .pointer (some ⟨t, 4, none⟩))] fun a h165 => ?_
   refine V.go (V.stn t 4 (.int .i64 ((T1.n : Int) + 1)) [.int .i64 ((T1.n : Int) + 1)] h165.e h165.e rfl rfl (by kernel_rfl) hB_142 (by simp) [.int .u64 (T1.seed : Int), .slice (some ⟨gA, 0, none⟩) T1.a.length T1.a.length, .slice (some ⟨gB, 0, none⟩) T1.b.length T1.b.length, .int .i64 (T1.moved : Int), .int .i64 ((T1.n : Int) + 1)] rfl ?_)
   intro w162 hB163 hF164 hsw162
   have hRA_166 := hRA_143.fr1 hF164 (by omega)
   have hRB_167 := hRB_144.fr1 hF164 (by omega)
   have hK_168 := hK_145.fr hF164 (by simp)
   have hE_169 := hE_146.tr1 hF164 (by first | exact .inl (by assumption) | exact .inr (by omega) | exact .inl (.inl rfl))
   refine V.nt (k161 _ _ ?_)
   refine V.seq fun K170 k171 => ?_
   refine V.sr h165 [(3, .b hB163 2)] 53 57 [(58, .bool (decide (((T1.b.length : Nat) : Int) > 0)))] fun a h174 => ?_
   refine V.cp h174 (((T1.b.length : Nat) : Int) > 0) (fun ht175 => ?_) (fun ht175 => ?_)
   ·
    refine V.sg fun K176 k177 => ?_
    refine V.run h174 [(4, .b hB163 2)] 7 60 63 [(59, .pointer (some ⟨t, 0, none⟩)), (64, .int .i64 ((T1.b.length : Nat) : Int)), (65, .string k)] fun a h178 => ?_
    refine V.cl h178 (Go.Proofs.enters_of Try.func72 (by kernel_rfl) rfl) (rbucket_blk w162 t T1.seed (.slice (some ⟨gA, 0, none⟩) T1.a.length T1.a.length) (.slice (some ⟨gB, 0, none⟩) T1.b.length T1.b.length) (.int .i64 (T1.moved : Int)) (.int .i64 ((T1.n : Int) + 1)) hB163 T1.b.length k  (by omega) (by omega) (by omega) (by omega)) ?_
    rintro _ w180 ⟨rfl, hF179⟩
    refine ⟨_, rfl, fun a h181 => ?_⟩
    have hsw180 := hF179.size
    have hRA_182 := hRA_166.fr0 hF179
    have hRB_183 := hRB_167.fr0 hF179
    have hK_184 := hK_168.fr0 hF179
    have hE_185 := hE_169.tr0 hF179
    have hB163_186 := hB163.fr0 hF179
    have hbl179 := bkt_lt T1.seed k (n := T1.b.length) (by omega)
    refine V.re h181 [] 1 0 [(8, .int .i64 ((bkt T1.seed T1.b.length k : Nat) : Int))] fun a h187 => k177 _ _ ?_
    refine V.seq fun K188 k189 => ?_
    have hbq := hbl (bkt T1.seed T1.b.length k)
    refine V.pl [([0,1,2,3,4,5,6,7,8,9,10,11,12,13,14],some (15,[3,8,11])),([],some (16,[3])),([17],some (18,[])),([],none)] fun w190 hF191 hsw190 => ?_
    have hRA_192 := hRA_182.fr0 hF191
    have hRB_193 := hRB_183.fr0 hF191
    have hK_194 := hK_184.fr0 hF191
    have hE_195 := hE_185.tr0 hF191
    have hB163_196 := hB163_186.fr0 hF191
    obtain ⟨A197, c198, hv199⟩ := hK_194.getB hlA (i := (bkt T1.seed T1.b.length k)) (by omega) nilS
    have hS200 := hK_194.slB hlA (i := (bkt T1.seed T1.b.length k)) (by omega) hv199
    refine V.pe h187 [(3, .b hB163_196 2), (4, .b hB163_196 2), (1, .ix gB 0 T1.b.length T1.b.length .i64 ((bkt T1.seed T1.b.length k : Nat) : Int) 1 rfl), (0, .l ⟨gB, 0 + ((bkt T1.seed T1.b.length k : Nat) : Int).toNat * 1, none⟩ (.slice A197 ((T1.b.getD (bkt T1.seed T1.b.length k) []).length) c198) ((hRB_193.at (bkt T1.seed T1.b.length k) nilS (by omega)).trans (congrArg some hv199)))] 67 80 [(69, .pointer (some ⟨t, 2, none⟩)), (70, .slice (some ⟨gB, 0, none⟩) T1.b.length T1.b.length), (71, .int .i64 ((bkt T1.seed T1.b.length k : Nat) : Int)), (74, .pointer (some ⟨t, 2, none⟩)), (77, .pointer (some ⟨gB, 0 + ((bkt T1.seed T1.b.length k : Nat) : Int).toNat * 1, none⟩)), (78, .slice A197 ((T1.b.getD (bkt T1.seed T1.b.length k) []).length) c198), (81, .agg #[.string k, .int .i64 v])] fun a h201 => ?_
    refine V.go (V.mk [(81, .agg #[.string k, .int .i64 v])] ⟨h201.e, trivial⟩ (by kernel_rfl) [.string k, .int .i64 v] 60 (fun b => .slice (some ⟨b, 0, none⟩) 1 1) (by kernel_rfl) ?_)
    intro w203 b202 heb202 hB204 hF205 hsb202
    have hRA_206 := hRA_192.fr0 hF205
    have hRB_207 := hRB_193.fr0 hF205
    have hK_208 := hK_194.alloc hF205 heb202 (by omega)
    have hE_209 := hE_195.tr0 hF205
    have hB163_210 := hB163_196.fr0 hF205
    refine V.pt h201 fun a h212 => ?_
    refine V.eh ⟨(fun _ => held_blk (n := 1) (hx := (h201.e (v := (.pointer (some ⟨t, 2, none⟩))))) hB163_196 hB163_210 (by kernel_rfl) rfl (by simp only [List.length]; omega)), (fun _ => held_blk (n := 1) (hx := (h201.e (v := (.pointer (some ⟨t, 2, none⟩))))) hB163_196 hB163_210 (by kernel_rfl) rfl (by simp only [List.length]; omega)), (fun _ => held_row (hx := (h201.e (v := (.pointer (some ⟨gB, 0 + ((bkt T1.seed T1.b.length k : Nat) : Int).toNat * 1, none⟩))))) hRB_193 hRB_207 (by kernel_rfl) (by omega))⟩ ?_
    refine V.pe h212 [] 1 0 [] fun a h213 => ?_
    refine V.go (V.appRB (R := itI) (ys := ([(k, v)])) (news := [.string k, .int .i64 v]) hK_208 hlA (i := (bkt T1.seed T1.b.length k)) (by omega) hv199 (h213.e (v := (.slice A197 ((T1.b.getD (bkt T1.seed T1.b.length k) []).length) c198))) ⟨b202, 0, none⟩ 1 1 (h213.e (v := (.slice (some ⟨b202, 0, none⟩) 1 1))) (by kernel_rfl) (info60) (by kernel_rfl) (by decide) rfl ⟨[.string k, .int .i64 v], [], rfl, rfl, rfl⟩ (blk_cells hB204 0 _ rfl) (by omega) (by decide) (.inr (by omega)) ?_)
    intro A214 c215 w216 hK217 hF218 ho219
    have hsw216 := hF218.size
    have hRA_220 := hRA_206.fr hF218 (fun hm => (ho219 _ hm).1 (by simp))
    have hRB_221 := hRB_207.fr hF218 (fun hm => (ho219 _ hm).1 (by simp))
    have hE_222 := hE_209.tr hF218 (fun k hk => ((ho219 k hk).2).imp (fun h => ⟨h, fun hm => (ho219 k hk).1 (by simp [hm])⟩) id)
    have hB163_223 := hB163_210.fr hF218 (fun hm => (ho219 _ hm).1 (by simp))
    refine V.pt h213 fun a h224 => ?_
    refine V.eh (fun _ => held_blk (n := 1) (hx := (h213.e (v := (.pointer (some ⟨t, 2, none⟩))))) hB163_210 hB163_223 (by kernel_rfl) rfl (by simp only [List.length]; omega)) ?_
    refine V.pe h224 [(0, .ix gB 0 T1.b.length T1.b.length .i64 ((bkt T1.seed T1.b.length k : Nat) : Int) 1 rfl)] 1 0 [(84, .pointer (some ⟨gB, 0 + ((bkt T1.seed T1.b.length k : Nat) : Int).toNat * 1, none⟩))] fun a h225 => ?_
    refine V.go (V.strow (enc := idV) gB (((bkt T1.seed T1.b.length k : Nat) : Int).toNat) (.slice A214 ((T1.b.getD (bkt T1.seed T1.b.length k) []).length + 1) c215) h225.e h225.e rfl rfl (by kernel_rfl) hRB_221 (by first | omega | (simp only [List.length_set, List.length_replicate]; omega)) ?_)
    intro w226 hR227 hF228 hsw226
    have hRA_229 := hRA_220.fr1 hF228 (by omega)
    have hE_230 := hE_222.tr1 hF228 (by first | exact .inl (by assumption) | exact .inr (by omega) | exact .inl (.inl rfl))
    have hB163_231 := hB163_223.fr1 hF228 (by omega)
    have hK217_232 := hK217.fr hF228 (by simp)
    refine V.eh trivial ?_
    refine V.pz h225 [] 1 0 [] fun a h233 => k189 _ _ ?_
    have h234 := h233.only [(0, .pointer (some ⟨t, 0, none⟩)), (1, .string k), (2, .int .i64 v)]
    refine V.sr h234 [] 1 0 [(6, .bool false)] fun a h237 => ?_
    refine V.ret (V.then_r ?_)
    refine V.r1 h237 (.bool false) ?_
    have hst : putT T k v = insT T1 k v := by (unfold putT; rw [← hT1]; unfold put1T; rw [hf, if_neg (by simp)])
    have hup := (insT_ok hok1 hm1 (by omega) k hkz v).1
    rw [hst]
    have hu2 : insT T1 k v = ({ T1 with b := putB T1.seed T1.b (k, v), n := T1.n + 1 } : Tb Int) := by (unfold insT; rw [if_neg hb1])
    rw [hu2] at hup ⊢
    exact ⟨by rw [hf], (TabM.fin (T := ({ T1 with b := putB T1.seed T1.b (k, v), n := T1.n + 1 })) hup (fun h => hb1 (by have := congrArg List.length h; rwa [putB_length] at this)) hB163_231 hRA_229 hR227 (by first | exact hlA | (simp only [List.length_set]; exact hlA)) hK217_232 (mem4 (l := (b202 :: t :: gA :: gB :: av)) (by simp) (by simp) (by simp) (by intro k hk; simp [hk])) (by first | assumption | omega) (by first | assumption | omega) (by first | assumption | omega) hpt ⟨.inl hpg.1, hpg.2⟩ ⟨.inl hph.1, hph.2⟩ rfl rfl rfl (by simp) rfl rfl (putB_length _ _ _).symm).gr3 (by omega), (hFPE.gr hE_230)⟩
   ·
    refine V.skip ?_
    refine V.then_n (k171 _ _ ?_)
    refine V.sg fun K238 k239 => ?_
    refine V.run h174 [(4, .b hB163 1)] 7 86 89 [(85, .pointer (some ⟨t, 0, none⟩)), (90, .int .i64 ((T1.a.length : Nat) : Int)), (91, .string k)] fun a h240 => ?_
    refine V.cl h240 (Go.Proofs.enters_of Try.func72 (by kernel_rfl) rfl) (rbucket_blk w162 t T1.seed (.slice (some ⟨gA, 0, none⟩) T1.a.length T1.a.length) (.slice (some ⟨gB, 0, none⟩) T1.b.length T1.b.length) (.int .i64 (T1.moved : Int)) (.int .i64 ((T1.n : Int) + 1)) hB163 T1.a.length k  (by omega) (by omega) (by omega) (by omega)) ?_
    rintro _ w242 ⟨rfl, hF241⟩
    refine ⟨_, rfl, fun a h243 => ?_⟩
    have hsw242 := hF241.size
    have hRA_244 := hRA_166.fr0 hF241
    have hK_246 := hK_168.fr0 hF241
    have hB163_248 := hB163.fr0 hF241
    have hbl241 := bkt_lt T1.seed k (n := T1.a.length) (by omega)
    refine V.re h243 [] 1 0 [(8, .int .i64 ((bkt T1.seed T1.a.length k : Nat) : Int))] fun a h249 => k239 _ _ ?_
    refine V.seq fun K250 k251 => ?_
    have hbq := hbl (bkt T1.seed T1.a.length k)
    refine V.pl [([0,1,2,3,4,5,6,7,8,9,10,11,12,13,14],some (15,[3,8,11])),([],some (16,[3])),([17],some (18,[])),([],none)] fun w252 hF253 hsw252 => ?_
    have hRA_254 := hRA_244.fr0 hF253
    have hK_256 := hK_246.fr0 hF253
    have hB163_258 := hB163_248.fr0 hF253
    obtain ⟨A259, c260, hv261⟩ := hK_256.getA hlA (i := (bkt T1.seed T1.a.length k)) (by omega) nilS
    have hS262 := hK_256.slA hlA (i := (bkt T1.seed T1.a.length k)) (by omega) hv261
    refine V.pe h249 [(3, .b hB163_258 1), (4, .b hB163_258 1), (1, .ix gA 0 T1.a.length T1.a.length .i64 ((bkt T1.seed T1.a.length k : Nat) : Int) 1 rfl), (0, .l ⟨gA, 0 + ((bkt T1.seed T1.a.length k : Nat) : Int).toNat * 1, none⟩ (.slice A259 ((T1.a.getD (bkt T1.seed T1.a.length k) []).length) c260) ((hRA_254.at (bkt T1.seed T1.a.length k) nilS (by omega)).trans (congrArg some hv261)))] 93 106 [(95, .pointer (some ⟨t, 1, none⟩)), (96, .slice (some ⟨gA, 0, none⟩) T1.a.length T1.a.length), (97, .int .i64 ((bkt T1.seed T1.a.length k : Nat) : Int)), (100, .pointer (some ⟨t, 1, none⟩)), (103, .pointer (some ⟨gA, 0 + ((bkt T1.seed T1.a.length k : Nat) : Int).toNat * 1, none⟩)), (104, .slice A259 ((T1.a.getD (bkt T1.seed T1.a.length k) []).length) c260), (107, .agg #[.string k, .int .i64 v])] fun a h263 => ?_
    refine V.go (V.mk [(107, .agg #[.string k, .int .i64 v])] ⟨h263.e, trivial⟩ (by kernel_rfl) [.string k, .int .i64 v] 60 (fun b => .slice (some ⟨b, 0, none⟩) 1 1) (by kernel_rfl) ?_)
    intro w265 b264 heb264 hB266 hF267 hsb264
    have hRA_268 := hRA_254.fr0 hF267
    have hK_270 := hK_256.alloc hF267 heb264 (by omega)
    have hB163_272 := hB163_258.fr0 hF267
    refine V.pt h263 fun a h274 => ?_
    refine V.eh ⟨(fun _ => held_blk (n := 1) (hx := (h263.e (v := (.pointer (some ⟨t, 1, none⟩))))) hB163_258 hB163_272 (by kernel_rfl) rfl (by simp only [List.length]; omega)), (fun _ => held_blk (n := 1) (hx := (h263.e (v := (.pointer (some ⟨t, 1, none⟩))))) hB163_258 hB163_272 (by kernel_rfl) rfl (by simp only [List.length]; omega)), (fun _ => held_row (hx := (h263.e (v := (.pointer (some ⟨gA, 0 + ((bkt T1.seed T1.a.length k : Nat) : Int).toNat * 1, none⟩))))) hRA_254 hRA_268 (by kernel_rfl) (by omega))⟩ ?_
    refine V.pe h274 [] 1 0 [] fun a h275 => ?_
    refine V.go (V.appRA (R := itI) (ys := ([(k, v)])) (news := [.string k, .int .i64 v]) hK_270 hlA (i := (bkt T1.seed T1.a.length k)) (by omega) hv261 (h275.e (v := (.slice A259 ((T1.a.getD (bkt T1.seed T1.a.length k) []).length) c260))) ⟨b264, 0, none⟩ 1 1 (h275.e (v := (.slice (some ⟨b264, 0, none⟩) 1 1))) (by kernel_rfl) (info60) (by kernel_rfl) (by decide) rfl ⟨[.string k, .int .i64 v], [], rfl, rfl, rfl⟩ (blk_cells hB266 0 _ rfl) (by omega) (by decide) (.inr (by omega)) ?_)
    intro A276 c277 w278 hK279 hF280 ho281
    have hsw278 := hF280.size
    have hRA_282 := hRA_268.fr hF280 (fun hm => (ho281 _ hm).1 (by simp))
    have hB163_285 := hB163_272.fr hF280 (fun hm => (ho281 _ hm).1 (by simp))
    refine V.pt h275 fun a h286 => ?_
    refine V.eh (fun _ => held_blk (n := 1) (hx := (h275.e (v := (.pointer (some ⟨t, 1, none⟩))))) hB163_272 hB163_285 (by kernel_rfl) rfl (by simp only [List.length]; omega)) ?_
    refine V.pe h286 [(0, .ix gA 0 T1.a.length T1.a.length .i64 ((bkt T1.seed T1.a.length k : Nat) : Int) 1 rfl)] 1 0 [(110, .pointer (some ⟨gA, 0 + ((bkt T1.seed T1.a.length k : Nat) : Int).toNat * 1, none⟩))] fun a h287 => ?_
    refine V.go (V.strow (enc := idV) gA (((bkt T1.seed T1.a.length k : Nat) : Int).toNat) (.slice A276 ((T1.a.getD (bkt T1.seed T1.a.length k) []).length + 1) c277) h287.e h287.e rfl rfl (by kernel_rfl) hRA_282 (by first | omega | (simp only [List.length_set, List.length_replicate]; omega)) ?_)
    intro w288 hR289 hF290 hsw288
    have hB163_293 := hB163_285.fr1 hF290 (by omega)
    refine V.eh trivial ?_
    refine V.pz h287 [] 1 0 [] fun a h295 => k251 _ _ ?_
    have h296 := h295.only [(0, .pointer (some ⟨t, 0, none⟩))]
    refine V.seq fun K297 k298 => ?_
    refine V.seq fun K299 k300 => ?_
    refine V.pl [([0,1,2,3,4,5,6,7,8,9],none)] fun w301 hF302 hsw301 => ?_
    have hB163_305 := hB163_293.fr0 hF302
    refine V.pz h296 [(3, .b hB163_305 4), (3, .b hB163_305 1)] 111 119 [(120, .bool (decide (((T1.n : Int) + 1) > ((T1.a.length : Nat) : Int))))] fun a h308 => k300 _ _ ?_
    refine V.cp h308 (((T1.n : Int) + 1) > ((T1.a.length : Nat) : Int)) (fun ht309 => ?_) (fun ht309 => ?_)
    ·
     refine V.rg ?_
     refine V.run h308 [(4, .b hB163_305 1), (1, .q (.int .i64 ((2 * T1.a.length : Nat) : Int)) (w_mulN (by omega)))] 7 122 126 [(121, .pointer (some ⟨t, 0, none⟩)), (127, .int .i64 ((2 * T1.a.length : Nat) : Int))] fun a h314 => ?_
     refine V.go (V.mks (enc := idV) (2 * T1.a.length) (.slice none 0 0) nilS 24 ((h314.e (v := (.int .i64 ((2 * T1.a.length : Nat) : Int)))).trans (V.int_eq (by omega))) ((h314.e (v := (.int .i64 ((2 * T1.a.length : Nat) : Int)))).trans (V.int_eq (by omega))) (by kernel_rfl) info42 rfl rfl (by omega) (by omega) ?_)
     intro w311 b310 heb310 hR312 hF313
     have hsb310 := hR312.lt
     have hB163_317 := hB163_305.fr0 hF313
     refine V.pt h314 fun a h320 => ?_
     refine V.run h320 [] 2 129 129 [(130, .pointer (some ⟨t, 2, none⟩))] fun a h324 => ?_
     refine V.go (V.stn t 2 (.slice (some ⟨b310, 0, none⟩) (2 * T1.a.length) (2 * T1.a.length)) [.slice (some ⟨b310, 0, none⟩) (2 * T1.a.length) (2 * T1.a.length)] h324.e h324.e rfl rfl (by kernel_rfl) hB163_317 (by simp) [.int .u64 (T1.seed : Int), .slice (some ⟨gA, 0, none⟩) T1.a.length T1.a.length, .slice (some ⟨b310, 0, none⟩) (2 * T1.a.length) (2 * T1.a.length), .int .i64 (T1.moved : Int), .int .i64 ((T1.n : Int) + 1)] rfl ?_)
     intro w321 hB322 hF323 hsw321
     refine V.nt (k298 _ _ ?_)
     refine V.sr h324 [] 1 0 [(6, .bool false)] fun a h332 => ?_
     refine V.ret ?_
     refine V.r1 h332 (.bool false) ?_
     exact absurd ht175 (by omega)
    ·
     refine V.skip ?_
     refine V.then_n (k298 _ _ ?_)
     refine V.sr h308 [] 1 0 [(6, .bool false)] fun a h335 => ?_
     refine V.ret ?_
     refine V.r1 h335 (.bool false) ?_
     exact absurd ht175 (by omega)
 ·
  rcases hT8q.2 with ⟨hb0, gA, vsA, hN⟩ | ⟨hb0, gA, gB, vsA, vsB, hN⟩
  ·
   have hb1 : T1.b.length = 0 := by rw [hb0]; rfl
   obtain ⟨hB, hRA, hlA, hK, hne, hpt, hpg⟩ := hN
   replace hK := hK.toH
   have hltt := hB.lt
   have hltg := hRA.lt
   have hE : FrP (gp (gr H w w10) av) w10 w10 := FrP.refl _ _
   have hK0 : ∀ k ∈ av, k < w10.heap.size := fun k hk => hK.avl k (by simp [hk])
   obtain ⟨hsd, hpa, hla, hlb, hmv, hmz, hnn, hcn, hks⟩ := (show T1.Ok from hok1)
   have hbl := hok1.bl
   have hFPE := hFP_12
   refine V.go (V.call 71 #[] #[.pointer (some ⟨t, 0, none⟩), .string k] evf (args2 h15.e h15.e) (Go.Proofs.enters_of Try.func71 (by kernel_rfl) rfl) (by have h := rfind_any w10 (gr H w w10) (av) t T1 hT8q k hkz; rw [rfT_yes hf] at h; exact h) ?_)
   rintro _ w337 ⟨rfl, hF336⟩
   refine ⟨_, rfl, ?_⟩
   have hsw337 := hF336.size
   have hB_338 := hB.fr0 hF336
   have hRA_339 := hRA.fr0 hF336
   have hK_340 := hK.fr0 hF336
   have hE_341 := hE.tr0 hF336
   refine V.pt h15 fun a h342 => ?_
   have hbkl := bkt_lt T1.seed k (n := T1.a.length) (by omega)
   have hbq := hbl (bkt T1.seed T1.a.length k)
   refine V.re h342 [] 12 18 [(7, .int .i64 0), (8, .int .i64 ((bkt T1.seed T1.a.length k : Nat) : Int)), (9, .int .i64 (j : Int))] fun a h343 => k14 _ _ ?_
   refine V.seq fun K344 k345 => ?_
   refine V.sr h343 [] 1 0 [(19, .int .i64 0)] fun a h348 => ?_
   refine V.block ?_
   refine V.sr h348 [] 21 21 [(20, .bool true)] fun a h351 => ?_
   refine V.ct h351 ?_
   obtain ⟨A354, c355, hv356⟩ := hK_340.getA hlA (i := (bkt T1.seed T1.a.length k)) (by omega) nilS
   have hS357 := hK_340.slA hlA (i := (bkt T1.seed T1.a.length k)) (by omega) hv356
   obtain ⟨g358, o359, hA360, hA360l, hA360z⟩ := hS357.addr (by omega)
   refine V.sg fun K352 k353 => ?_
   refine V.run h351 [(3, .b hB_338 1), (1, .ix gA 0 T1.a.length T1.a.length .i64 ((bkt T1.seed T1.a.length k : Nat) : Int) 1 rfl), (0, .l ⟨gA, 0 + ((bkt T1.seed T1.a.length k : Nat) : Int).toNat * 1, none⟩ (.slice A354 ((T1.a.getD (bkt T1.seed T1.a.length k) []).length) c355) ((hRA_339.at (bkt T1.seed T1.a.length k) nilS (by omega)).trans (congrArg some hv356))), (2, .ix g358 o359 ((T1.a.getD (bkt T1.seed T1.a.length k) []).length) c355 .i64 (j : Int) 2 hA360)] 11 22 31 [(30, .int .i64 v), (32, .pointer (some ⟨g358, (o359 + (j : Int).toNat * 2) + 1, none⟩))] fun a h365 => ?_
   refine V.go (V.stRA (R := itI) (j := j) (f := 1) hK_340 hlA (i := (bkt T1.seed T1.a.length k)) (by omega) hv356 hA360 (by omega) (by decide) (.int .i64 v) (fun x => (x.1, v)) (h365.e (v := (.pointer (some ⟨g358, (o359 + (j : Int).toNat * 2) + 1, none⟩)))) (h365.e (v := (.int .i64 v))) rfl rfl (by kernel_rfl) (fun w1 x c hc => by (have hc' : c = [.string x.1, .int .i64 x.2] := hc; subst hc'; rfl)) ?_)
   intro w361 hK362 hF363 hsw361 ho364
   have hB_366 := hB_338.fr hF363 (fun hm => (ho364 _ hm).1 (by simp))
   have hRA_367 := hRA_339.fr hF363 (fun hm => (ho364 _ hm).1 (by simp))
   have hE_368 := hE_341.tr hF363 (fun k hk => ((ho364 k hk).2).imp (fun h => ⟨h, fun hm => (ho364 k hk).1 (by simp [hm])⟩) id)
   refine V.nt (k353 _ _ ?_)
   refine V.sr h365 [] 1 0 [(6, .bool true)] fun a h371 => ?_
   refine V.ret (V.blk_r (V.then_r ?_))
   refine V.r1 h371 (.bool true) ?_
   have hst : putT T k v = ({ T1 with a := setV T1.a (bkt T1.seed T1.a.length k) j v } : Tb Int) := by (unfold putT; rw [← hT1]; unfold put1T; rw [hf, if_pos rfl]; unfold updT; rw [hf]; simp)
   have hup := (updT_ok hok1 hm1 k v).1
   have hu2 : updT T1 k v = ({ T1 with a := setV T1.a (bkt T1.seed T1.a.length k) j v } : Tb Int) := by (unfold updT; rw [hf]; simp)
   rw [hu2] at hup
   rw [hst]
   exact ⟨by rw [hf], (TabN.fin (T := ({ T1 with a := setV T1.a (bkt T1.seed T1.a.length k) j v })) hup hb0 hB_366 hRA_367 (by have h := hK362; rw [List.append_nil, List.append_nil] at h; exact h) (mem3 (l := (t :: gA :: av)) (by simp) (by simp) (by intro k hk; simp [hk])) (by first | assumption | exact Ne.symm (by assumption) | omega) hpt ⟨.inl hpg.1, hpg.2⟩ rfl (setV_length _ _ _ _).symm rfl rfl rfl).gr3 (by omega), (hFPE.gr hE_368)⟩
  ·
   have hb1 : T1.b.length ≠ 0 := fun h => hb0 (List.eq_nil_of_length_eq_zero h)
   obtain ⟨hB, hRA, hRB, hlA, hlB, hK, hne, hne2, hne3, hpt, hpg, hph⟩ := hN
   replace hK := hK.toH
   have hltt := hB.lt
   have hltg := hRA.lt
   have hltg2 := hRB.lt
   have hE : FrP (gp (gr H w w10) av) w10 w10 := FrP.refl _ _
   have hK0 : ∀ k ∈ av, k < w10.heap.size := fun k hk => hK.avl k (by simp [hk])
   obtain ⟨hsd, hpa, hla, hlb, hmv, hmz, hnn, hcn, hks⟩ := (show T1.Ok from hok1)
   have hbl := hok1.bl
   have hFPE := hFP_12
   refine V.go (V.call 71 #[] #[.pointer (some ⟨t, 0, none⟩), .string k] evf (args2 h15.e h15.e) (Go.Proofs.enters_of Try.func71 (by kernel_rfl) rfl) (by have h := rfind_any w10 (gr H w w10) (av) t T1 hT8q k hkz; rw [rfT_yes hf] at h; exact h) ?_)
   rintro _ w373 ⟨rfl, hF372⟩
   refine ⟨_, rfl, ?_⟩
   have hsw373 := hF372.size
   have hB_374 := hB.fr0 hF372
   have hRA_375 := hRA.fr0 hF372
   have hRB_376 := hRB.fr0 hF372
   have hK_377 := hK.fr0 hF372
   have hE_378 := hE.tr0 hF372
   refine V.pt h15 fun a h379 => ?_
   have hbkl := bkt_lt T1.seed k (n := T1.a.length) (by omega)
   have hbq := hbl (bkt T1.seed T1.a.length k)
   refine V.re h379 [] 12 18 [(7, .int .i64 0), (8, .int .i64 ((bkt T1.seed T1.a.length k : Nat) : Int)), (9, .int .i64 (j : Int))] fun a h380 => k14 _ _ ?_
   refine V.seq fun K381 k382 => ?_
   refine V.sr h380 [] 1 0 [(19, .int .i64 0)] fun a h385 => ?_
   refine V.block ?_
   refine V.sr h385 [] 21 21 [(20, .bool true)] fun a h388 => ?_
   refine V.ct h388 ?_
   obtain ⟨A391, c392, hv393⟩ := hK_377.getA hlA (i := (bkt T1.seed T1.a.length k)) (by omega) nilS
   have hS394 := hK_377.slA hlA (i := (bkt T1.seed T1.a.length k)) (by omega) hv393
   obtain ⟨g395, o396, hA397, hA397l, hA397z⟩ := hS394.addr (by omega)
   refine V.sg fun K389 k390 => ?_
   refine V.run h388 [(3, .b hB_374 1), (1, .ix gA 0 T1.a.length T1.a.length .i64 ((bkt T1.seed T1.a.length k : Nat) : Int) 1 rfl), (0, .l ⟨gA, 0 + ((bkt T1.seed T1.a.length k : Nat) : Int).toNat * 1, none⟩ (.slice A391 ((T1.a.getD (bkt T1.seed T1.a.length k) []).length) c392) ((hRA_375.at (bkt T1.seed T1.a.length k) nilS (by omega)).trans (congrArg some hv393))), (2, .ix g395 o396 ((T1.a.getD (bkt T1.seed T1.a.length k) []).length) c392 .i64 (j : Int) 2 hA397)] 11 22 31 [(30, .int .i64 v), (32, .pointer (some ⟨g395, (o396 + (j : Int).toNat * 2) + 1, none⟩))] fun a h402 => ?_
   refine V.go (V.stRA (R := itI) (j := j) (f := 1) hK_377 hlA (i := (bkt T1.seed T1.a.length k)) (by omega) hv393 hA397 (by omega) (by decide) (.int .i64 v) (fun x => (x.1, v)) (h402.e (v := (.pointer (some ⟨g395, (o396 + (j : Int).toNat * 2) + 1, none⟩)))) (h402.e (v := (.int .i64 v))) rfl rfl (by kernel_rfl) (fun w1 x c hc => by (have hc' : c = [.string x.1, .int .i64 x.2] := hc; subst hc'; rfl)) ?_)
   intro w398 hK399 hF400 hsw398 ho401
   have hB_403 := hB_374.fr hF400 (fun hm => (ho401 _ hm).1 (by simp))
   have hRA_404 := hRA_375.fr hF400 (fun hm => (ho401 _ hm).1 (by simp))
   have hRB_405 := hRB_376.fr hF400 (fun hm => (ho401 _ hm).1 (by simp))
   have hE_406 := hE_378.tr hF400 (fun k hk => ((ho401 k hk).2).imp (fun h => ⟨h, fun hm => (ho401 k hk).1 (by simp [hm])⟩) id)
   refine V.nt (k390 _ _ ?_)
   refine V.sr h402 [] 1 0 [(6, .bool true)] fun a h409 => ?_
   refine V.ret (V.blk_r (V.then_r ?_))
   refine V.r1 h409 (.bool true) ?_
   have hst : putT T k v = ({ T1 with a := setV T1.a (bkt T1.seed T1.a.length k) j v } : Tb Int) := by (unfold putT; rw [← hT1]; unfold put1T; rw [hf, if_pos rfl]; unfold updT; rw [hf]; simp)
   have hup := (updT_ok hok1 hm1 k v).1
   have hu2 : updT T1 k v = ({ T1 with a := setV T1.a (bkt T1.seed T1.a.length k) j v } : Tb Int) := by (unfold updT; rw [hf]; simp)
   rw [hu2] at hup
   rw [hst]
   exact ⟨by rw [hf], (TabM.fin (T := ({ T1 with a := setV T1.a (bkt T1.seed T1.a.length k) j v })) hup hb0 hB_403 hRA_404 hRB_405 (by first | exact hlA | (simp only [List.length_set]; exact hlA)) hK399 (mem4 (l := (t :: gA :: gB :: av)) (by simp) (by simp) (by simp) (by intro k hk; simp [hk])) (by first | assumption | omega) (by first | assumption | omega) (by first | assumption | omega) hpt ⟨.inl hpg.1, hpg.2⟩ ⟨.inl hph.1, hph.2⟩ rfl (setV_length _ _ _ _).symm rfl rfl rfl rfl rfl).gr3 (by omega), (hFPE.gr hE_406)⟩
 ·
  rcases hT8q.2 with ⟨hb0, gA, vsA, hN⟩ | ⟨hb0, gA, gB, vsA, vsB, hN⟩
  ·
   exact absurd (by rw [hb0]; rfl) hbn
  ·
   have hb1 : T1.b.length ≠ 0 := fun h => hb0 (List.eq_nil_of_length_eq_zero h)
   obtain ⟨hB, hRA, hRB, hlA, hlB, hK, hne, hne2, hne3, hpt, hpg, hph⟩ := hN
   replace hK := hK.toH
   have hltt := hB.lt
   have hltg := hRA.lt
   have hltg2 := hRB.lt
   have hE : FrP (gp (gr H w w10) av) w10 w10 := FrP.refl _ _
   have hK0 : ∀ k ∈ av, k < w10.heap.size := fun k hk => hK.avl k (by simp [hk])
   obtain ⟨hsd, hpa, hla, hlb, hmv, hmz, hnn, hcn, hks⟩ := (show T1.Ok from hok1)
   have hbl := hok1.bl
   have hFPE := hFP_12
   refine V.go (V.call 71 #[] #[.pointer (some ⟨t, 0, none⟩), .string k] evf (args2 h15.e h15.e) (Go.Proofs.enters_of Try.func71 (by kernel_rfl) rfl) (by have h := rfind_any w10 (gr H w w10) (av) t T1 hT8q k hkz; rw [rfT_yes hf] at h; exact h) ?_)
   rintro _ w411 ⟨rfl, hF410⟩
   refine ⟨_, rfl, ?_⟩
   have hsw411 := hF410.size
   have hB_412 := hB.fr0 hF410
   have hRA_413 := hRA.fr0 hF410
   have hRB_414 := hRB.fr0 hF410
   have hK_415 := hK.fr0 hF410
   have hE_416 := hE.tr0 hF410
   refine V.pt h15 fun a h417 => ?_
   have hbkl := bkt_lt T1.seed k (n := T1.b.length) (by omega)
   have hbq := hbl (bkt T1.seed T1.b.length k)
   refine V.re h417 [] 12 18 [(7, .int .i64 1), (8, .int .i64 ((bkt T1.seed T1.b.length k : Nat) : Int)), (9, .int .i64 (j : Int))] fun a h418 => k14 _ _ ?_
   refine V.seq fun K419 k420 => ?_
   refine V.sr h418 [] 1 0 [(19, .int .i64 1)] fun a h423 => ?_
   refine V.block ?_
   refine V.sr h423 [] 21 21 [(20, .bool false)] fun a h426 => ?_
   refine V.cf h426 ?_
   refine V.sr h426 [] 34 34 [(33, .bool true)] fun a h429 => ?_
   refine V.ct h429 ?_
   obtain ⟨A432, c433, hv434⟩ := hK_415.getB hlA (i := (bkt T1.seed T1.b.length k)) (by omega) nilS
   have hS435 := hK_415.slB hlA (i := (bkt T1.seed T1.b.length k)) (by omega) hv434
   obtain ⟨g436, o437, hA438, hA438l, hA438z⟩ := hS435.addr (by omega)
   refine V.sg fun K430 k431 => ?_
   refine V.run h429 [(3, .b hB_412 2), (1, .ix gB 0 T1.b.length T1.b.length .i64 ((bkt T1.seed T1.b.length k : Nat) : Int) 1 rfl), (0, .l ⟨gB, 0 + ((bkt T1.seed T1.b.length k : Nat) : Int).toNat * 1, none⟩ (.slice A432 ((T1.b.getD (bkt T1.seed T1.b.length k) []).length) c433) ((hRB_414.at (bkt T1.seed T1.b.length k) nilS (by omega)).trans (congrArg some hv434))), (2, .ix g436 o437 ((T1.b.getD (bkt T1.seed T1.b.length k) []).length) c433 .i64 (j : Int) 2 hA438)] 11 35 44 [(43, .int .i64 v), (45, .pointer (some ⟨g436, (o437 + (j : Int).toNat * 2) + 1, none⟩))] fun a h443 => ?_
   refine V.go (V.stRB (R := itI) (j := j) (f := 1) hK_415 hlA (i := (bkt T1.seed T1.b.length k)) (by omega) hv434 hA438 (by omega) (by decide) (.int .i64 v) (fun x => (x.1, v)) (h443.e (v := (.pointer (some ⟨g436, (o437 + (j : Int).toNat * 2) + 1, none⟩)))) (h443.e (v := (.int .i64 v))) rfl rfl (by kernel_rfl) (fun w1 x c hc => by (have hc' : c = [.string x.1, .int .i64 x.2] := hc; subst hc'; rfl)) ?_)
   intro w439 hK440 hF441 hsw439 ho442
   have hB_444 := hB_412.fr hF441 (fun hm => (ho442 _ hm).1 (by simp))
   have hRA_445 := hRA_413.fr hF441 (fun hm => (ho442 _ hm).1 (by simp))
   have hRB_446 := hRB_414.fr hF441 (fun hm => (ho442 _ hm).1 (by simp))
   have hE_447 := hE_416.tr hF441 (fun k hk => ((ho442 k hk).2).imp (fun h => ⟨h, fun hm => (ho442 k hk).1 (by simp [hm])⟩) id)
   refine V.nt (k431 _ _ ?_)
   refine V.sr h443 [] 1 0 [(6, .bool true)] fun a h450 => ?_
   refine V.ret (V.blk_r (V.then_r ?_))
   refine V.r1 h450 (.bool true) ?_
   have hst : putT T k v = ({ T1 with b := setV T1.b (bkt T1.seed T1.b.length k) j v } : Tb Int) := by (unfold putT; rw [← hT1]; unfold put1T; rw [hf, if_pos rfl]; unfold updT; rw [hf]; simp)
   have hup := (updT_ok hok1 hm1 k v).1
   have hu2 : updT T1 k v = ({ T1 with b := setV T1.b (bkt T1.seed T1.b.length k) j v } : Tb Int) := by (unfold updT; rw [hf]; simp)
   rw [hu2] at hup
   rw [hst]
   exact ⟨by rw [hf], (TabM.fin (T := ({ T1 with b := setV T1.b (bkt T1.seed T1.b.length k) j v })) hup (fun h => hb1 (by have := congrArg List.length h; rwa [setV_length] at this)) hB_444 hRA_445 hRB_446 (by first | exact hlA | (simp only [List.length_set]; exact hlA)) hK440 (mem4 (l := (t :: gA :: gB :: av)) (by simp) (by simp) (by simp) (by intro k hk; simp [hk])) (by first | assumption | omega) (by first | assumption | omega) (by first | assumption | omega) hpt ⟨.inl hpg.1, hpg.2⟩ ⟨.inl hph.1, hph.2⟩ rfl rfl rfl rfl rfl rfl (setV_length _ _ _ _).symm).gr3 (by omega), (hFPE.gr hE_447)⟩
theorem rnew_any (w : World) (av : List Nat) (hav : ∀ k ∈ av, k < w.heap.size) (seed : Nat) (hsd : seed < 18446744073709551616) : Calls Try.prog 15 #[.int .u64 (seed : Int)] w (fun e w' => ∃ t, e = .returned (.pointer (some ⟨t, 0, none⟩)) ∧ TabX 40 42 60 itI w' (gr (fun _ => False) w w') av t (newT seed) ∧ Fr [] w w') := by
 have hF := Fr.refl [] w
 refine V.en 7 Try.func15 fun a h1 => ?_
 refine V.sr h1 [] 2 2 [] fun a h4 => ?_
 refine V.sg fun K5 k6 => ?_
 refine V.run h4 [] 1 1 0 [(3, .int .u64 (seed : Int))] fun a h11 => ?_
 refine V.go (V.mks (enc := idV) (4) (.slice none 0 0) nilS 24 (evc.trans (V.int_eq (by omega))) (evc.trans (V.int_eq (by omega))) (by kernel_rfl) info42 rfl rfl (by omega) (by omega) ?_)
 intro w8 b7 heb7 hR9 hF10
 have hsb7 := hR9.lt
 have hF_12 := hF.new hF10
 refine V.pt h11 fun a h13 => ?_
 refine V.run h13 [] 1 1 0 [(5, .agg #[.int .u64 (seed : Int), .slice (some ⟨b7, 0, none⟩) 4 4, .slice none 0 0, .int .i64 0, .int .i64 0])] fun a h14 => ?_
 refine V.go (V.mk [(5, .agg #[.int .u64 (seed : Int), .slice (some ⟨b7, 0, none⟩) 4 4, .slice none 0 0, .int .i64 0, .int .i64 0])] ⟨h14.e, trivial⟩ (by kernel_rfl) [.int .u64 (seed : Int), .slice (some ⟨b7, 0, none⟩) 4 4, .slice none 0 0, .int .i64 0, .int .i64 0] 40 (fun b => .pointer (some ⟨b, 0, none⟩)) (by kernel_rfl) ?_)
 intro w16 b15 heb15 hB17 hF18 hsb15
 have hF_19 := hF_12.new hF18
 have hR9_20 := hR9.fr0 hF18
 refine V.pt h14 fun a h21 => ?_
 refine V.re h21 [] 1 0 [(2, .pointer (some ⟨b15, 0, none⟩))] fun a h22 => k6 _ _ ?_
 refine V.ret ?_
 refine V.r1 h22 (.pointer (some ⟨b15, 0, none⟩)) ?_
 exact ⟨b15, rfl, newT_tab hB17 hR9_20 (by omega) (by omega) (by omega) hsd hav, hF_19⟩
end Go.Proofs.Ytalhmegjomfbaaa
end
section
namespace Go.V
set_option linter.unusedVariables false
set_option linter.unusedSimpArgs false
section
variable {α : Type} {T : Tb α}
def P2 (n : Nat) : Prop := ∃ k, n = 2 ^ (k + 2)
theorem P2.dbl {n : Nat} (h : P2 n) : P2 (2 * n) := by obtain ⟨k, rfl⟩ := h; exact ⟨k + 1, by rw [Nat.pow_succ 2 (k + 2)]; omega⟩
theorem P2.half {n : Nat} (h : P2 n) (h4 : 4 < n) : P2 (n / 2) ∧ n = 2 * (n / 2) ∧ n % 8 = 0 := by
  obtain ⟨k, rfl⟩ := h
  cases k with
  | zero => simp at h4
  | succ k =>
    have h1 : 2 ^ (k + 1 + 2) = 2 * 2 ^ (k + 2) := by rw [Nat.pow_succ 2 (k + 2)]; omega
    have h2 : 2 ^ (k + 2) = 4 * 2 ^ k := by rw [Nat.pow_succ, Nat.pow_succ]; omega
    refine ⟨⟨k, by omega⟩, by omega, by omega⟩
theorem P2.pos {n : Nat} (h : P2 n) : 4 ≤ n := by
  obtain ⟨k, rfl⟩ := h
  have h2 : 2 ^ (k + 2) = 4 * 2 ^ k := by rw [Nat.pow_succ, Nat.pow_succ]; omega
  have := Nat.two_pow_pos k
  omega
theorem P2.next {k n : Nat} (hk : P2 k) (hn : P2 n) (h : k ≤ n) (hne : k ≠ n) : 2 * k ≤ n := by
  obtain ⟨i, rfl⟩ := hk
  obtain ⟨j, rfl⟩ := hn
  have hij : i < j := by
    rcases Nat.lt_or_ge i j with h1 | h1
    · exact h1
    · exact absurd (Nat.le_antisymm h (Nat.pow_le_pow_right (by decide) (by omega))) hne
  have h1 : 2 * 2 ^ (i + 2) = 2 ^ (i + 3) := by rw [Nat.pow_succ 2 (i + 2)]; omega
  rw [h1]
  exact Nat.pow_le_pow_right (by decide) (by omega)
/-- The sizes of a table: N bounds how many keys there were. -/
structure Tb.Pw (T : Tb α) (N : Nat) : Prop where
  pa : P2 T.a.length
  pb : T.b.length ≠ 0 → P2 T.b.length ∧ (T.b.length = 2 * T.a.length ∨ T.a.length = 2 * T.b.length)
  ld : T.b.length = 0 → T.n ≤ T.a.length
  ba : T.a.length ≤ 4 + 2 * N
  bb : T.b.length ≤ 4 + 2 * N
theorem Tb.Pw.mono {N M : Nat} (h : T.Pw N) (hm : N ≤ M) : T.Pw M := ⟨h.pa, h.pb, h.ld, by have := h.ba; omega, by have := h.bb; omega⟩
variable {N : Nat}
theorem newT_pw (seed : Nat) : (newT seed : Tb α).Pw N := ⟨⟨0, rfl⟩, fun h => absurd rfl h, fun _ => by simp [newT], by simp [newT], by simp [newT]⟩
theorem tbStep_pw (h : T.Pw N) (hn : T.n ≤ N) : (tbStep T).Pw N := by
  unfold tbStep
  by_cases hb : T.b.length = 0
  · rw [if_pos hb]; exact h
  rw [if_neg hb]
  have hl := movedT_b T
  have hl2 := movedT_a T
  obtain ⟨h1, h2⟩ := h.pb hb
  by_cases hc : T.moved + 1 < T.a.length
  · rw [if_pos hc]
    exact ⟨by rw [hl2]; exact h.pa, fun _ => by rw [hl, hl2]; exact ⟨h1, h2⟩, fun h0 => absurd (hl ▸ h0) hb, by rw [hl2]; exact h.ba, by rw [hl]; exact h.bb⟩
  rw [if_neg hc]
  have hbb := h.bb
  by_cases hg : T.n > (movedT T).b.length
  · rw [if_pos hg]
    have hlen : (startT (swapT (movedT T)) (2 * (movedT T).b.length)).b.length = 2 * T.b.length := by rw [← hl]; simp [startT]
    refine ⟨?_, fun _ => ⟨?_, .inl ?_⟩, fun h0 => ?_, ?_, ?_⟩
    · show P2 (movedT T).b.length; rw [hl]; exact h1
    · rw [hlen]; exact h1.dbl
    · rw [hlen]; show 2 * T.b.length = 2 * (movedT T).b.length; rw [hl]
    · rw [hlen] at h0; omega
    · show (movedT T).b.length ≤ _; rw [hl]; omega
    · rw [hlen]; omega
  · rw [if_neg hg]
    refine ⟨?_, fun h0 => absurd rfl h0, fun _ => ?_, ?_, ?_⟩
    · show P2 (movedT T).b.length; rw [hl]; exact h1
    · show T.n ≤ (movedT T).b.length; omega
    · show (movedT T).b.length ≤ _; rw [hl]; omega
    · show 0 ≤ _; omega
theorem updT_pw (h : T.Pw N) (k : ByteArray) (v : α) : (updT T k v).Pw N := by
  unfold updT
  split
  · exact ⟨by show P2 (setV ..).length; rw [setV_length]; exact h.pa, fun h0 => by show _ ∧ (_ = 2 * (setV ..).length ∨ (setV ..).length = _); rw [setV_length]; exact h.pb h0, fun h0 => by show _ ≤ (setV ..).length; rw [setV_length]; exact h.ld h0, by show (setV ..).length ≤ _; rw [setV_length]; exact h.ba, h.bb⟩
  · have e : ∀ i j, (setV T.b i j v).length = T.b.length := fun i j => setV_length _ _ _ _
    exact ⟨h.pa, fun h0 => by show P2 (setV ..).length ∧ ((setV ..).length = _ ∨ _ = 2 * (setV ..).length); rw [e]; exact h.pb (by rwa [e] at h0), fun h0 => h.ld (by have h1 : (setV ..).length = 0 := h0; rwa [e] at h1), h.ba, by show (setV ..).length ≤ _; rw [e]; exact h.bb⟩
theorem insT_pw (h : T.Pw N) (hn : T.n + 1 ≤ N) (k : ByteArray) (v : α) : (insT T k v).Pw N := by
  have e : (putB T.seed T.a (k, v)).length = T.a.length := putB_length _ _ _
  unfold insT
  by_cases hb : T.b.length = 0
  · rw [if_pos hb]
    by_cases hg : T.n + 1 > T.a.length
    · rw [if_pos hg]
      have hlen : (startT ({ T with a := putB T.seed T.a (k, v), n := T.n + 1 } : Tb α) (2 * T.a.length)).b.length = 2 * T.a.length := by simp [startT]
      have := h.pa.pos
      refine ⟨?_, fun _ => ⟨?_, .inl ?_⟩, fun h0 => ?_, ?_, ?_⟩
      · show P2 (putB ..).length; rw [e]; exact h.pa
      · rw [hlen]; exact h.pa.dbl
      · rw [hlen]; show _ = 2 * (putB ..).length; rw [e]
      · rw [hlen] at h0; omega
      · show (putB ..).length ≤ _; rw [e]; omega
      · rw [hlen]; omega
    · rw [if_neg hg]
      exact ⟨by show P2 (putB ..).length; rw [e]; exact h.pa, fun h0 => absurd hb h0, fun _ => by show T.n + 1 ≤ (putB ..).length; rw [e]; omega, by show (putB ..).length ≤ _; rw [e]; exact h.ba, h.bb⟩
  · rw [if_neg hb]
    have e : (putB T.seed T.b (k, v)).length = T.b.length := putB_length _ _ _
    exact ⟨h.pa, fun h0 => by show P2 (putB ..).length ∧ ((putB ..).length = _ ∨ _ = 2 * (putB ..).length); rw [e]; exact h.pb hb, fun h0 => absurd (by have h1 : (putB ..).length = 0 := h0; rwa [e] at h1) hb, h.ba, by show (putB ..).length ≤ _; rw [e]; exact h.bb⟩
theorem tbStep_n' (T : Tb α) : (tbStep T).n = T.n := by
  unfold tbStep
  split
  · rfl
  · split
    · rfl
    · split <;> rfl
theorem putT_pw (h : T.Pw N) (hn : T.n + 1 ≤ N) (k : ByteArray) (v : α) : (putT T k v).Pw N := by
  have h1 := tbStep_pw h (by omega)
  unfold putT put1T
  split
  · exact updT_pw h1 k v
  · exact insT_pw h1 (by rw [tbStep_n']; exact hn) k v
theorem rm1T_pw (h : T.Pw N) (k : ByteArray) : (rm1T T k).Pw N := by
  unfold rm1T
  split
  · have e : ∀ i j, (rmV T.a i j).length = T.a.length := fun i j => rmV_length _ _ _
    exact ⟨by show P2 (rmV ..).length; rw [e]; exact h.pa, fun h0 => by show _ ∧ (_ = 2 * (rmV ..).length ∨ (rmV ..).length = _); rw [e]; exact h.pb h0, fun h0 => by show T.n - 1 ≤ (rmV ..).length; rw [e]; have := h.ld h0; omega, by show (rmV ..).length ≤ _; rw [e]; exact h.ba, h.bb⟩
  · have e : ∀ i j, (rmV T.b i j).length = T.b.length := fun i j => rmV_length _ _ _
    exact ⟨h.pa, fun h0 => by show P2 (rmV ..).length ∧ ((rmV ..).length = _ ∨ _ = 2 * (rmV ..).length); rw [e]; exact h.pb (by rwa [e] at h0), fun h0 => by show T.n - 1 ≤ T.a.length; have := h.ld (by have h1 : (rmV ..).length = 0 := h0; rwa [e] at h1); omega, h.ba, by show (rmV ..).length ≤ _; rw [e]; exact h.bb⟩
theorem shrT_pw (h : T.Pw N) : (shrT T).Pw N := by
  unfold shrT
  split
  · rename_i hc
    obtain ⟨h1, h2, h3⟩ := h.pa.half hc.2.1
    have hlen : (startT T (T.a.length / 2)).b.length = T.a.length / 2 := by simp [startT]
    have hba := h.ba
    refine ⟨h.pa, fun _ => ⟨?_, .inr ?_⟩, fun h0 => ?_, hba, ?_⟩
    · rw [hlen]; exact h1
    · rw [hlen]; exact h2
    · rw [hlen] at h0; omega
    · rw [hlen]; omega
  · exact h
theorem delT_pw (h : T.Pw N) (hn : T.n ≤ N) (k : ByteArray) : (delT T k).Pw N := by
  have h1 := tbStep_pw h hn
  unfold delT del1T
  split
  · exact shrT_pw (rm1T_pw h1 k)
  · exact h1
theorem updT_n (T : Tb α) (k : ByteArray) (v : α) : (updT T k v).n = T.n := by unfold updT; split <;> rfl
theorem insT_n (T : Tb α) (k : ByteArray) (v : α) : (insT T k v).n = T.n + 1 := by
  unfold insT
  split
  · split <;> rfl
  · rfl
theorem putT_n (T : Tb α) (k : ByteArray) (v : α) : (putT T k v).n ≤ T.n + 1 := by
  unfold putT put1T
  split
  · rw [updT_n, tbStep_n']; omega
  · rw [insT_n, tbStep_n']; omega
theorem delT_n (T : Tb α) (k : ByteArray) : (delT T k).n ≤ T.n := by
  unfold delT del1T
  split
  · have h1 : (shrT (rm1T (tbStep T) k)).n = (rm1T (tbStep T) k).n := by unfold shrT; split <;> rfl
    have h2 : (rm1T (tbStep T) k).n ≤ (tbStep T).n := by
      unfold rm1T
      split <;> (show (tbStep T).n - 1 ≤ _; omega)
    rw [h1]; rw [tbStep_n'] at h2; exact h2
  · rw [tbStep_n']; omega
end
end Go.V
end
section
namespace Go.Proofs.Ytalhmegjomfbaaa
open Go.V Go.Base
open Go.RowKit (Below)
attribute [local irreducible] Act.put Act.eval
set_option linter.unusedVariables false
set_option linter.unusedSimpArgs false
set_option maxHeartbeats 4000000
set_option maxRecDepth 20000
theorem rwithout_any (w : World) (g o c i : Nat) (xs : List (ByteArray × Int)) (hS : SlR itI (fun b => b < w.heap.size) w (.slice (some ⟨g, o, none⟩) xs.length c) xs) (hi : i < xs.length) (hc : xs.length ≤ c) (hl : xs.length ≤ 1099511627776) : Calls Try.prog 73 #[.slice (some ⟨g, o, none⟩) xs.length c, .int .i64 (i : Int)] w (fun e w' => ∃ A c', e = .returned (.slice A (xs.length - 1) c') ∧ OwR itI NoZ w' w.heap.size 60 (.slice A (xs.length - 1) c') (xs.eraseIdx i) ∧ Fr [] w w') := by
 have hF := Fr.refl [] w
 refine V.en 15 Try.func73 fun a h1 => ?_
 refine V.sr h1 [] 4 4 [] fun a h4 => ?_
 refine V.seq fun K5 k6 => ?_
 refine V.pl [([1,2,3,5,6,7,8],some (0,[])),([],some (4,[])),([],some (9,[])),([10],none)] fun w7 hF8 hsw7 => ?_
 have hF_9 := hF.new hF8
 have hS_10 := hS.fr0 hF8
 refine V.pe0 ?_
 refine V.run h4 [] 2 1 0 [(6, .slice (some ⟨g, o, none⟩) xs.length c), (7, .int .i64 (i : Int))] fun a h11 => ?_
 refine V.go (V.slc (e := 60) (sz := 2) g o xs.length c 0 i c (h11.e (v := (.slice (some ⟨g, o, none⟩) xs.length c))) rfl ⟨_, ((h11.e (v := (.int .i64 (i : Int))))).trans (V.int_eq (by omega))⟩ rfl (by omega) (by omega) (by omega) (by kernel_rfl) (by kernel_rfl) ?_)
 intro ad12 had13 hae14
 obtain rfl := hae14 rfl
 refine V.pt h11 fun a h15 => ?_
 have hS16 := hS_10.takeN (i := i) (by omega)
 refine V.run h15 [(2, .i ((i : Int) + 1))] 3 1 0 [(10, .slice (some ⟨g, o, none⟩) xs.length c), (11, .int .i64 (i : Int)), (12, .int .i64 ((i : Int) + 1))] fun a h17 => ?_
 refine V.go (V.slc (e := 60) (sz := 2) g o xs.length c (i + 1) xs.length c (h17.e (v := (.slice (some ⟨g, o, none⟩) xs.length c))) ⟨_, ((h17.e (v := (.int .i64 ((i : Int) + 1))))).trans (V.int_eq (by omega))⟩ ⟨rfl, rfl⟩ rfl (by omega) (by omega) (by omega) (by kernel_rfl) (by kernel_rfl) ?_)
 intro ad18 had19 hae20
 refine V.pt h17 fun a h21 => ?_
 have hS22 := hS_10.dropN (i := i + 1) (by omega) (ad := ad18) (fun hq => by rw [had19 (by omega)]; rfl) (m := xs.length - (i + 1)) rfl
 refine V.se h21 [] 1 0 [] fun a h23 => ?_
 refine V.go (V.mk [] trivial (by kernel_rfl) [] 60 (fun b => .slice (some ⟨b, 0, none⟩) 0 0) (by kernel_rfl) ?_)
 intro w25 b24 heb24 hB26 hF27 hsb24
 have hF_28 := hF_9.new hF27
 have hS16_30 := hS16.fr0 hF27
 have hS22_31 := hS22.fr0 hF27
 refine V.pt h23 fun a h32 => ?_
 have hO33 := OwR.empty (R := itI) (base := w.heap.size) hB26 (by omega)
 refine V.eh trivial ?_
 refine V.pe h32 [] 1 0 [] fun a h34 => ?_
 refine V.go (V.appS (R := itI) (h34.e (v := (.slice (some ⟨b24, 0, none⟩) 0 0))) (h34.e (v := (.slice (some ⟨g, o, none⟩) (i - 0) (c - 0)))) (by kernel_rfl) info60 (by kernel_rfl) (by decide) hO33 hS16_30 (fun _ _ h => h) (by simp only [List.length_append, List.length_nil, List.length_take, List.length_drop]; omega) (by decide) (by omega) ?_)
 intro A35 c36 w37 hO38 hF39
 have hsw37 := hF39.size
 have hF_40 := hF_28.own hF39 (own_ge hO33 (by omega))
 have hS22_43 := hS22_31.fr hF39 (by intro b hb hz; have := own_ge hO33 (Nat.le_refl _) b hb; (try dsimp only at hz); omega)
 refine V.pt h34 fun a h44 => ?_
 refine V.eh trivial ?_
 refine V.pe h44 [] 1 0 [] fun a h45 => ?_
 refine V.go (V.appS (R := itI) (h45.e (v := (.slice A35 (([]).length + (xs.take i).length) c36))) (h45.e (v := (.slice (some ad18) (xs.length - (i + 1)) (c - (i + 1))))) (by kernel_rfl) info60 (by kernel_rfl) (by decide) hO38 hS22_43 (fun _ _ h => h) (by simp only [List.length_append, List.length_nil, List.length_take, List.length_drop]; omega) (by decide) (by omega) ?_)
 intro A46 c47 w48 hO49 hF50
 have hsw48 := hF50.size
 have hF_51 := hF_40.own hF50 (own_ge hO38 (by omega))
 refine V.pt h45 fun a h55 => ?_
 refine V.eh trivial ?_
 refine V.pz h55 [] 1 0 [(4, .slice A46 ((([]) ++ (xs.take i)).length + (xs.drop (i + 1)).length) c47)] fun a h56 => k6 _ _ ?_
 refine V.ret ?_
 refine V.r1 h56 (.slice A46 ((([]) ++ (xs.take i)).length + (xs.drop (i + 1)).length) c47) ?_
 have hl : (([]) ++ (xs.take i)) ++ (xs.drop (i + 1)) = xs.eraseIdx i := by rw [List.nil_append, List.eraseIdx_eq_take_drop_succ]
 have hn : (([]) ++ (xs.take i)).length + (xs.drop (i + 1)).length = xs.length - 1 := by simp only [List.length_append, List.length_nil, List.length_take, List.length_drop]; omega
 rw [hl, hn] at hO49
 rw [hn]
 exact ⟨_, _, rfl, hO49, hF_51⟩
theorem rdel_any (w : World) (H : Nat → Prop) (av : List Nat) (t : Nat) (T : Tb Int) (hT : TabX 40 42 60 itI w H av t T) (hm : T.Mv) (k : ByteArray) (hkz : k.size ≤ 9223372036854775807) (hp8 : 4 < (tbStep T).a.length → (tbStep T).a.length % 8 = 0) : Calls Try.prog 47 #[.pointer (some ⟨t, 0, none⟩), .string k] w (fun e w' => e = .returned (.bool (findT (tbStep T) k).2) ∧ TabX 40 42 60 itI w' (gr H w w') av t (delT T k) ∧ FrP (gp H av) w w') := by
 have hFP := FrP.refl (gp H av) w
 obtain ⟨hok0, hm1⟩ := tbStep_ok hT.1 hm
 obtain ⟨T1, hT1⟩ : ∃ T1, T1 = tbStep T := ⟨_, rfl⟩
 rw [← hT1] at hok0 hm1 hp8 ⊢
 refine V.en 95 Try.func47 fun a h1 => ?_
 refine V.sr h1 [] 4 4 [] fun a h4 => ?_
 refine V.sg fun K5 k6 => ?_
 refine V.run h4 [] 1 1 0 [(8, .pointer (some ⟨t, 0, none⟩))] fun a h7 => ?_
 refine V.cl h7 (Go.Proofs.enters_of Try.func49 (by kernel_rfl) rfl) (rstep_any w (H) (av) t (T) hT hm) ?_
 rintro _ w10 ⟨rfl, hT8, hfp9⟩
 refine ⟨_, rfl, fun a h11 => ?_⟩
 have hsw10 := hfp9.size
 have hFP_12 := hFP.trP hfp9 (fun k hk => .inl hk)
 have hT8q := hT8.grm (w := w) (by omega)
 rw [← hT1] at hT8q
 refine V.nt (k6 _ _ ?_)
 refine V.sg fun K13 k14 => ?_
 refine V.run h11 [] 2 1 0 [(11, .pointer (some ⟨t, 0, none⟩)), (12, .string k)] fun a h15 => ?_
 have hok1 := hT8q.1
 rcases findT_cases hok1 k with hf | ⟨j, hf, hj⟩ | ⟨hbn, j, hf, hj⟩
 ·
  rcases hT8q.2 with ⟨hb0, gA, vsA, hN⟩ | ⟨hb0, gA, gB, vsA, vsB, hN⟩
  ·
   have hb1 : T1.b.length = 0 := by rw [hb0]; rfl
   obtain ⟨hB, hRA, hlA, hK, hne, hpt, hpg⟩ := hN
   replace hK := hK.toH
   have hltt := hB.lt
   have hltg := hRA.lt
   have hE : FrP (gp (gr H w w10) av) w10 w10 := FrP.refl _ _
   have hK0 : ∀ k ∈ av, k < w10.heap.size := fun k hk => hK.avl k (by simp [hk])
   obtain ⟨hsd, hpa, hla, hlb, hmv, hmz, hnn, hcn, hks⟩ := (show T1.Ok from hok1)
   have hbl := hok1.bl
   have hFPE := hFP_12
   refine V.go (V.call 71 #[] #[.pointer (some ⟨t, 0, none⟩), .string k] evf (args2 h15.e h15.e) (Go.Proofs.enters_of Try.func71 (by kernel_rfl) rfl) (by have h := rfind_any w10 (gr H w w10) (av) t T1 hT8q k hkz; rw [rfT_no hf] at h; exact h) ?_)
   rintro _ w17 ⟨rfl, hF16⟩
   refine ⟨_, rfl, ?_⟩
   have hsw17 := hF16.size
   have hB_18 := hB.fr0 hF16
   have hRA_19 := hRA.fr0 hF16
   have hK_20 := hK.fr0 hF16
   have hE_21 := hE.tr0 hF16
   refine V.pt h15 fun a h22 => ?_
   refine V.re h22 [] 10 16 [(5, .int .i64 (-1)), (6, .int .i64 0), (7, .int .i64 0)] fun a h23 => k14 _ _ ?_
   refine V.seq fun K24 k25 => ?_
   refine V.sr h23 [] 17 17 [(18, .bool true)] fun a h28 => ?_
   refine V.ct h28 ?_
   refine V.sr h28 [] 1 0 [(4, .bool false)] fun a h31 => ?_
   refine V.ret (V.then_r ?_)
   refine V.r1 h31 (.bool false) ?_
   have hst : delT T k = T1 := by (unfold delT; rw [← hT1]; unfold del1T; rw [hf, if_neg (by simp)])
   rw [hst]
   exact ⟨by rw [hf], (TabN.fin (T := T1) hok1 hb0 hB_18 hRA_19 (by have h := hK_20; rw [List.append_nil, List.append_nil] at h; exact h) (mem3 (l := (t :: gA :: av)) (by simp) (by simp) (by intro k hk; simp [hk])) (by first | assumption | exact Ne.symm (by assumption) | omega) hpt ⟨.inl hpg.1, hpg.2⟩ rfl rfl rfl rfl rfl).gr3 (by omega), (hFPE.gr hE_21)⟩
  ·
   have hb1 : T1.b.length ≠ 0 := fun h => hb0 (List.eq_nil_of_length_eq_zero h)
   obtain ⟨hB, hRA, hRB, hlA, hlB, hK, hne, hne2, hne3, hpt, hpg, hph⟩ := hN
   replace hK := hK.toH
   have hltt := hB.lt
   have hltg := hRA.lt
   have hltg2 := hRB.lt
   have hE : FrP (gp (gr H w w10) av) w10 w10 := FrP.refl _ _
   have hK0 : ∀ k ∈ av, k < w10.heap.size := fun k hk => hK.avl k (by simp [hk])
   obtain ⟨hsd, hpa, hla, hlb, hmv, hmz, hnn, hcn, hks⟩ := (show T1.Ok from hok1)
   have hbl := hok1.bl
   have hFPE := hFP_12
   refine V.go (V.call 71 #[] #[.pointer (some ⟨t, 0, none⟩), .string k] evf (args2 h15.e h15.e) (Go.Proofs.enters_of Try.func71 (by kernel_rfl) rfl) (by have h := rfind_any w10 (gr H w w10) (av) t T1 hT8q k hkz; rw [rfT_no hf] at h; exact h) ?_)
   rintro _ w33 ⟨rfl, hF32⟩
   refine ⟨_, rfl, ?_⟩
   have hsw33 := hF32.size
   have hB_34 := hB.fr0 hF32
   have hRA_35 := hRA.fr0 hF32
   have hRB_36 := hRB.fr0 hF32
   have hK_37 := hK.fr0 hF32
   have hE_38 := hE.tr0 hF32
   refine V.pt h15 fun a h39 => ?_
   refine V.re h39 [] 10 16 [(5, .int .i64 (-1)), (6, .int .i64 0), (7, .int .i64 0)] fun a h40 => k14 _ _ ?_
   refine V.seq fun K41 k42 => ?_
   refine V.sr h40 [] 17 17 [(18, .bool true)] fun a h45 => ?_
   refine V.ct h45 ?_
   refine V.sr h45 [] 1 0 [(4, .bool false)] fun a h48 => ?_
   refine V.ret (V.then_r ?_)
   refine V.r1 h48 (.bool false) ?_
   have hst : delT T k = T1 := by (unfold delT; rw [← hT1]; unfold del1T; rw [hf, if_neg (by simp)])
   rw [hst]
   exact ⟨by rw [hf], (TabM.fin (T := T1) hok1 hb0 hB_34 hRA_35 hRB_36 (by first | exact hlA | (simp only [List.length_set]; exact hlA)) hK_37 (mem4 (l := (t :: gA :: gB :: av)) (by simp) (by simp) (by simp) (by intro k hk; simp [hk])) (by first | assumption | omega) (by first | assumption | omega) (by first | assumption | omega) hpt ⟨.inl hpg.1, hpg.2⟩ ⟨.inl hph.1, hph.2⟩ rfl rfl rfl rfl rfl rfl rfl).gr3 (by omega), (hFPE.gr hE_38)⟩
 ·
  rcases hT8q.2 with ⟨hb0, gA, vsA, hN⟩ | ⟨hb0, gA, gB, vsA, vsB, hN⟩
  ·
   have hb1 : T1.b.length = 0 := by rw [hb0]; rfl
   obtain ⟨hB, hRA, hlA, hK, hne, hpt, hpg⟩ := hN
   replace hK := hK.toH
   have hltt := hB.lt
   have hltg := hRA.lt
   have hE : FrP (gp (gr H w w10) av) w10 w10 := FrP.refl _ _
   have hK0 : ∀ k ∈ av, k < w10.heap.size := fun k hk => hK.avl k (by simp [hk])
   obtain ⟨hsd, hpa, hla, hlb, hmv, hmz, hnn, hcn, hks⟩ := (show T1.Ok from hok1)
   have hbl := hok1.bl
   have hFPE := hFP_12
   refine V.go (V.call 71 #[] #[.pointer (some ⟨t, 0, none⟩), .string k] evf (args2 h15.e h15.e) (Go.Proofs.enters_of Try.func71 (by kernel_rfl) rfl) (by have h := rfind_any w10 (gr H w w10) (av) t T1 hT8q k hkz; rw [rfT_yes hf] at h; exact h) ?_)
   rintro _ w50 ⟨rfl, hF49⟩
   refine ⟨_, rfl, ?_⟩
   have hsw50 := hF49.size
   have hB_51 := hB.fr0 hF49
   have hRA_52 := hRA.fr0 hF49
   have hK_53 := hK.fr0 hF49
   have hE_54 := hE.tr0 hF49
   refine V.pt h15 fun a h55 => ?_
   have hbkl := bkt_lt T1.seed k (n := T1.a.length) (by omega)
   have hbq := hbl (bkt T1.seed T1.a.length k)
   refine V.re h55 [] 10 16 [(5, .int .i64 0), (6, .int .i64 ((bkt T1.seed T1.a.length k : Nat) : Int)), (7, .int .i64 (j : Int))] fun a h56 => k14 _ _ ?_
   refine V.seq fun K57 k58 => ?_
   refine V.sr h56 [] 17 17 [(18, .bool false)] fun a h61 => ?_
   refine V.cf h61 ?_
   refine V.skip ?_
   refine V.then_n (k58 _ _ ?_)
   refine V.seq fun K62 k63 => ?_
   refine V.sr h61 [] 19 19 [(20, .bool true)] fun a h66 => ?_
   refine V.ct h66 ?_
   refine V.pl [([0,1,2,3,4,5,6,7,8,9,10,11,12],some (13,[3])),([14],some (15,[])),([],none)] fun w67 hF68 hsw67 => ?_
   have hB_69 := hB_51.fr0 hF68
   have hRA_70 := hRA_52.fr0 hF68
   have hK_71 := hK_53.fr0 hF68
   have hE_72 := hE_54.tr0 hF68
   obtain ⟨A73, c74, hv75⟩ := hK_71.getA hlA (i := (bkt T1.seed T1.a.length k)) (by omega) nilS
   have hS76 := hK_71.slA hlA (i := (bkt T1.seed T1.a.length k)) (by omega) hv75
   refine V.pe h66 [(3, .b hB_69 1), (4, .b hB_69 1), (1, .ix gA 0 T1.a.length T1.a.length .i64 ((bkt T1.seed T1.a.length k : Nat) : Int) 1 rfl), (0, .l ⟨gA, 0 + ((bkt T1.seed T1.a.length k : Nat) : Int).toNat * 1, none⟩ (.slice A73 ((T1.a.getD (bkt T1.seed T1.a.length k) []).length) c74) ((hRA_70.at (bkt T1.seed T1.a.length k) nilS (by omega)).trans (congrArg some hv75)))] 21 31 [(23, .pointer (some ⟨t, 1, none⟩)), (24, .slice (some ⟨gA, 0, none⟩) T1.a.length T1.a.length), (25, .int .i64 ((bkt T1.seed T1.a.length k : Nat) : Int)), (32, .slice A73 ((T1.a.getD (bkt T1.seed T1.a.length k) []).length) c74), (33, .int .i64 (j : Int))] fun a h77 => ?_
   obtain ⟨g85, o86, hAe, _, _⟩ := hS76.addr (by omega)
   have hSz83 := hS76.zone (Z' := fun b => b < w67.heap.size) (fun b hb _ => hb)
   rw [hAe] at hSz83
   have hA84 := hS76.cap
   refine V.cl (av := #[.slice A73 ((T1.a.getD (bkt T1.seed T1.a.length k) []).length) c74, .int .i64 (j : Int)]) h77 (Go.Proofs.enters_of Try.func73 (by kernel_rfl) rfl) (by (rw [hAe]; exact rwithout_any w67 g85 o86 c74 j (T1.a.getD (bkt T1.seed T1.a.length k) []) hSz83 (by omega) hA84 (by omega))) ?_
   rintro _ w87 ⟨A80, c81, rfl, hOr78, hF79⟩
   refine ⟨_, rfl, fun a h88 => ?_⟩
   have hsw87 := hF79.size
   have hB_89 := hB_69.fr0 hF79
   have hRA_90 := hRA_70.fr0 hF79
   have hE_91 := hE_72.tr0 hF79
   have hK82 := hK_71.newA hlA (i := (bkt T1.seed T1.a.length k)) (by omega) hF79 hOr78 (fun k hk => .inr (by omega))
   refine V.eh (fun _ => held_blk (n := 1) (hx := (h77.e (v := (.pointer (some ⟨t, 1, none⟩))))) hB_69 hB_89 (by kernel_rfl) rfl (by simp only [List.length]; omega)) ?_
   refine V.pe h88 [(0, .ix gA 0 T1.a.length T1.a.length .i64 ((bkt T1.seed T1.a.length k : Nat) : Int) 1 rfl)] 1 0 [(35, .pointer (some ⟨gA, 0 + ((bkt T1.seed T1.a.length k : Nat) : Int).toNat * 1, none⟩))] fun a h93 => ?_
   refine V.go (V.strow (enc := idV) gA (((bkt T1.seed T1.a.length k : Nat) : Int).toNat) (.slice A80 ((T1.a.getD (bkt T1.seed T1.a.length k) []).length - 1) c81) h93.e h93.e rfl rfl (by kernel_rfl) hRA_90 (by first | omega | (simp only [List.length_set, List.length_replicate]; omega)) ?_)
   intro w94 hR95 hF96 hsw94
   have hB_97 := hB_89.fr1 hF96 (by omega)
   have hE_98 := hE_91.tr1 hF96 (by first | exact .inl (by assumption) | exact .inr (by omega) | exact .inl (.inl rfl))
   have hK82_99 := hK82.fr hF96 (by simp)
   refine V.eh trivial ?_
   refine V.pz h93 [] 1 0 [] fun a h100 => k63 _ _ ?_
   refine V.sg fun K101 k102 => ?_
   refine V.run h100 [(3, .b hB_97 4), (0, .i ((T1.n : Int) - 1))] 7 51 56 [(55, .int .i64 ((T1.n : Int) - 1)), (57, .pointer (some ⟨t, 4, none⟩))] fun a h106 => ?_
   refine V.go (V.stn t 4 (.int .i64 ((T1.n : Int) - 1)) [.int .i64 ((T1.n : Int) - 1)] h106.e h106.e rfl rfl (by kernel_rfl) hB_97 (by simp) [.int .u64 (T1.seed : Int), .slice (some ⟨gA, 0, none⟩) T1.a.length T1.a.length, .slice none 0 0, .int .i64 (T1.moved : Int), .int .i64 ((T1.n : Int) - 1)] rfl ?_)
   intro w103 hB104 hF105 hsw103
   have hE_107 := hE_98.tr1 hF105 (by first | exact .inl (by assumption) | exact .inr (by omega) | exact .inl (.inl rfl))
   have hK82_108 := hK82_99.fr hF105 (by simp)
   have hR95_109 := hR95.fr1 hF105 (by omega)
   refine V.nt (k102 _ _ ?_)
   refine V.seq fun K110 k111 => ?_
   refine V.seq fun K112 k113 => ?_
   refine V.pl [([0,1,2,3,4,5,6,7,8,9,10,11,12,13,14,15,16,17,18,19,20,21,22,23,24,25,26],none)] fun w114 hF115 hsw114 => ?_
   have hE_116 := hE_107.tr0 hF115
   have hK82_117 := hK82_108.fr0 hF115
   have hR95_118 := hR95_109.fr0 hF115
   have hB104_119 := hB104.fr0 hF115
   refine V.pz0 ?_
   refine V.run h106 [(3, .b hB104_119 2), (6, .b hB104_119 1)] 15 59 71 [(58, .pointer (some ⟨t, 0, none⟩)), (61, .slice none 0 0), (62, .int .i64 0), (64, .bool true), (65, .pointer (some ⟨t, 0, none⟩)), (68, .slice (some ⟨gA, 0, none⟩) T1.a.length T1.a.length), (69, .int .i64 ((T1.a.length : Nat) : Int)), (72, .bool (decide (((T1.a.length : Nat) : Int) > 4)))] fun a h120 => ?_
   by_cases hg121 : ((T1.a.length : Nat) : Int) > 4
   ·
    have h122 := h120.kt 72 hg121
    refine V.se h122 [(3, .b hB104_119 4), (0, .i (((T1.n : Int) - 1) * 8)), (3, .b hB104_119 1)] 74 83 [(73, .pointer (some ⟨t, 0, none⟩)), (76, .int .i64 ((T1.n : Int) - 1)), (77, .int .i64 (((T1.n : Int) - 1) * 8)), (78, .pointer (some ⟨t, 0, none⟩)), (81, .slice (some ⟨gA, 0, none⟩) T1.a.length T1.a.length), (82, .int .i64 ((T1.a.length : Nat) : Int)), (84, .bool (decide ((((T1.n : Int) - 1) * 8) < ((T1.a.length : Nat) : Int))))] fun a h123 => k113 _ _ ?_
    have h124 := h123.only [(0, .pointer (some ⟨t, 0, none⟩)), (84, .bool (decide ((((T1.n : Int) - 1) * 8) < ((T1.a.length : Nat) : Int))))]
    refine V.cp h124 ((((T1.n : Int) - 1) * 8) < ((T1.a.length : Nat) : Int)) (fun ht125 => ?_) (fun ht125 => ?_)
    ·
     refine V.rg ?_
     refine V.run h124 [(4, .b hB104_119 1), (1, .quoN T1.a.length 2)] 7 86 90 [(85, .pointer (some ⟨t, 0, none⟩)), (91, .int .i64 ((T1.a.length / 2 : Nat) : Int))] fun a h130 => ?_
     refine V.go (V.mks (enc := idV) (T1.a.length / 2) (.slice none 0 0) nilS 24 ((h130.e (v := (.int .i64 ((T1.a.length / 2 : Nat) : Int)))).trans (V.int_eq (by omega))) ((h130.e (v := (.int .i64 ((T1.a.length / 2 : Nat) : Int)))).trans (V.int_eq (by omega))) (by kernel_rfl) info42 rfl rfl (by omega) (by omega) ?_)
     intro w127 b126 heb126 hR128 hF129
     have hsb126 := hR128.lt
     have hE_131 := hE_116.tr0 hF129
     have hK82_132 := hK82_117.alloc hF129 heb126 (by omega)
     have hR95_133 := hR95_118.fr0 hF129
     have hB104_134 := hB104_119.fr0 hF129
     refine V.pt h130 fun a h135 => ?_
     refine V.run h135 [] 2 93 93 [(94, .pointer (some ⟨t, 2, none⟩))] fun a h139 => ?_
     refine V.go (V.stn t 2 (.slice (some ⟨b126, 0, none⟩) (T1.a.length / 2) (T1.a.length / 2)) [.slice (some ⟨b126, 0, none⟩) (T1.a.length / 2) (T1.a.length / 2)] h139.e h139.e rfl rfl (by kernel_rfl) hB104_134 (by simp) [.int .u64 (T1.seed : Int), .slice (some ⟨gA, 0, none⟩) T1.a.length T1.a.length, .slice (some ⟨b126, 0, none⟩) (T1.a.length / 2) (T1.a.length / 2), .int .i64 (T1.moved : Int), .int .i64 ((T1.n : Int) - 1)] rfl ?_)
     intro w136 hB137 hF138 hsw136
     have hE_140 := hE_131.tr1 hF138 (by first | exact .inl (by assumption) | exact .inr (by omega) | exact .inl (.inl rfl))
     have hK82_141 := hK82_132.fr hF138 (by simp)
     have hR95_142 := hR95_133.fr1 hF138 (by omega)
     have hR128_143 := hR128.fr1 hF138 (by omega)
     refine V.nt (k111 _ _ ?_)
     refine V.sr h139 [] 1 0 [(4, .bool true)] fun a h146 => ?_
     refine V.ret ?_
     refine V.r1 h146 (.bool true) ?_
     have hst : delT T k = shrT (rm1T T1 k) := by (unfold delT; rw [← hT1]; unfold del1T; rw [hf, if_pos rfl])
     have hu2 : rm1T T1 k = ({ T1 with a := rmV T1.a (bkt T1.seed T1.a.length k) j, n := T1.n - 1 } : Tb Int) := by (unfold rm1T; rw [hf]; simp)
     have hup := (rm1T_ok hok1 hm1 k (by rw [hf])).1
     rw [hu2] at hup
     rw [hst, hu2]
     have hsh : shrT ({ T1 with a := rmV T1.a (bkt T1.seed T1.a.length k) j, n := T1.n - 1 } : Tb Int) = startT ({ T1 with a := rmV T1.a (bkt T1.seed T1.a.length k) j, n := T1.n - 1 } : Tb Int) (T1.a.length / 2) := by (unfold shrT; rw [if_pos ⟨hb1, by show 4 < (rmV T1.a (bkt T1.seed T1.a.length k) j).length; rw [rmV_length]; omega, by show T1.n - 1 < (rmV T1.a (bkt T1.seed T1.a.length k) j).length / 8; rw [rmV_length]; have := hp8 (by omega); omega⟩]; show startT _ ((rmV T1.a (bkt T1.seed T1.a.length k) j).length / 2) = _; rw [rmV_length])
     rw [hsh]
     have hsk := (shrT_ok (T := ({ T1 with a := rmV T1.a (bkt T1.seed T1.a.length k) j, n := T1.n - 1 } : Tb Int)) hup (by have := (rm1T_ok hok1 hm1 k (by rw [hf])).2; rwa [hu2] at this)).1
     rw [hsh] at hsk
     have hKa147 := hK82_141.addNil (T1.a.length / 2)
     simp only [List.append_nil] at hKa147
     exact ⟨by rw [hf], (TabM.fin (T := (startT ({ T1 with a := rmV T1.a (bkt T1.seed T1.a.length k) j, n := T1.n - 1 } : Tb Int) (T1.a.length / 2))) hsk (by simp only [startT]; intro h; have := congrArg List.length h; simp at this; omega) hB137 hR95_142 hR128_143 (by rw [List.length_set, List.length_set]; exact hlA) hKa147 (mem4 (l := (b126 :: t :: gA :: av)) (by simp) (by simp) (by simp) (by intro k hk; simp [hk])) (by first | assumption | omega) (by first | assumption | omega) (by first | assumption | omega) hpt ⟨.inl hpg.1, hpg.2⟩ ⟨.inr (by omega), fun hm => by have := hK0 _ hm; omega⟩ rfl (rmV_length _ _ _).symm (by have h := hmz hb1; show ((T1.moved : Nat) : Int) = ((0 : Nat) : Int); omega) (by show ((T1.n : Int) - 1) = ((T1.n - 1 : Nat) : Int); omega) rfl rfl (by simp [startT])).gr3 (by omega), (hFPE.gr hE_140)⟩
    ·
     refine V.skip ?_
     refine V.then_n (k111 _ _ ?_)
     refine V.sr h124 [] 1 0 [(4, .bool true)] fun a h150 => ?_
     refine V.ret ?_
     refine V.r1 h150 (.bool true) ?_
     have hst : delT T k = shrT (rm1T T1 k) := by (unfold delT; rw [← hT1]; unfold del1T; rw [hf, if_pos rfl])
     have hu2 : rm1T T1 k = ({ T1 with a := rmV T1.a (bkt T1.seed T1.a.length k) j, n := T1.n - 1 } : Tb Int) := by (unfold rm1T; rw [hf]; simp)
     have hup := (rm1T_ok hok1 hm1 k (by rw [hf])).1
     rw [hu2] at hup
     rw [hst, hu2]
     have hsh : shrT ({ T1 with a := rmV T1.a (bkt T1.seed T1.a.length k) j, n := T1.n - 1 } : Tb Int) = ({ T1 with a := rmV T1.a (bkt T1.seed T1.a.length k) j, n := T1.n - 1 } : Tb Int) := by (unfold shrT; rw [if_neg]; rintro ⟨_, h1, h2⟩; (have h3 : 4 < (rmV T1.a (bkt T1.seed T1.a.length k) j).length := h1); (have h4 : T1.n - 1 < (rmV T1.a (bkt T1.seed T1.a.length k) j).length / 8 := h2); rw [rmV_length] at h3 h4; have := hp8 h3; omega)
     rw [hsh]
     exact ⟨by rw [hf], (TabN.fin (T := ({ T1 with a := rmV T1.a (bkt T1.seed T1.a.length k) j, n := T1.n - 1 } : Tb Int)) hup hb0 hB104_119 hR95_118 (by have h := hK82_117; rw [List.append_nil, List.append_nil] at h; exact h) (mem3 (l := (t :: gA :: av)) (by simp) (by simp) (by intro k hk; simp [hk])) (by first | assumption | exact Ne.symm (by assumption) | omega) hpt ⟨.inl hpg.1, hpg.2⟩ rfl (rmV_length _ _ _).symm rfl (by show ((T1.n : Int) - 1) = ((T1.n - 1 : Nat) : Int); omega) rfl).gr3 (by omega), (hFPE.gr hE_116)⟩
   ·
    have h151 := h120.kf 72 hg121
    refine V.se h151 [] 74 83 [(73, undef), (76, undef), (77, undef), (78, undef), (81, undef), (82, undef), (84, .bool false)] fun a h152 => k113 _ _ ?_
    have h153 := h152.only [(0, .pointer (some ⟨t, 0, none⟩)), (84, .bool false)]
    refine V.cf h153 ?_
    refine V.skip ?_
    refine V.then_n (k111 _ _ ?_)
    refine V.sr h153 [] 1 0 [(4, .bool true)] fun a h156 => ?_
    refine V.ret ?_
    refine V.r1 h156 (.bool true) ?_
    have hst : delT T k = shrT (rm1T T1 k) := by (unfold delT; rw [← hT1]; unfold del1T; rw [hf, if_pos rfl])
    have hu2 : rm1T T1 k = ({ T1 with a := rmV T1.a (bkt T1.seed T1.a.length k) j, n := T1.n - 1 } : Tb Int) := by (unfold rm1T; rw [hf]; simp)
    have hup := (rm1T_ok hok1 hm1 k (by rw [hf])).1
    rw [hu2] at hup
    rw [hst, hu2]
    have hsh : shrT ({ T1 with a := rmV T1.a (bkt T1.seed T1.a.length k) j, n := T1.n - 1 } : Tb Int) = ({ T1 with a := rmV T1.a (bkt T1.seed T1.a.length k) j, n := T1.n - 1 } : Tb Int) := by (unfold shrT; rw [if_neg]; rintro ⟨_, h1, h2⟩; (have h3 : 4 < (rmV T1.a (bkt T1.seed T1.a.length k) j).length := h1); (have h4 : T1.n - 1 < (rmV T1.a (bkt T1.seed T1.a.length k) j).length / 8 := h2); rw [rmV_length] at h3 h4; have := hp8 h3; omega)
    rw [hsh]
    exact ⟨by rw [hf], (TabN.fin (T := ({ T1 with a := rmV T1.a (bkt T1.seed T1.a.length k) j, n := T1.n - 1 } : Tb Int)) hup hb0 hB104_119 hR95_118 (by have h := hK82_117; rw [List.append_nil, List.append_nil] at h; exact h) (mem3 (l := (t :: gA :: av)) (by simp) (by simp) (by intro k hk; simp [hk])) (by first | assumption | exact Ne.symm (by assumption) | omega) hpt ⟨.inl hpg.1, hpg.2⟩ rfl (rmV_length _ _ _).symm rfl (by show ((T1.n : Int) - 1) = ((T1.n - 1 : Nat) : Int); omega) rfl).gr3 (by omega), (hFPE.gr hE_116)⟩
  ·
   have hb1 : T1.b.length ≠ 0 := fun h => hb0 (List.eq_nil_of_length_eq_zero h)
   obtain ⟨hB, hRA, hRB, hlA, hlB, hK, hne, hne2, hne3, hpt, hpg, hph⟩ := hN
   replace hK := hK.toH
   have hltt := hB.lt
   have hltg := hRA.lt
   have hltg2 := hRB.lt
   have hE : FrP (gp (gr H w w10) av) w10 w10 := FrP.refl _ _
   have hK0 : ∀ k ∈ av, k < w10.heap.size := fun k hk => hK.avl k (by simp [hk])
   obtain ⟨hsd, hpa, hla, hlb, hmv, hmz, hnn, hcn, hks⟩ := (show T1.Ok from hok1)
   have hbl := hok1.bl
   have hFPE := hFP_12
   refine V.go (V.call 71 #[] #[.pointer (some ⟨t, 0, none⟩), .string k] evf (args2 h15.e h15.e) (Go.Proofs.enters_of Try.func71 (by kernel_rfl) rfl) (by have h := rfind_any w10 (gr H w w10) (av) t T1 hT8q k hkz; rw [rfT_yes hf] at h; exact h) ?_)
   rintro _ w158 ⟨rfl, hF157⟩
   refine ⟨_, rfl, ?_⟩
   have hsw158 := hF157.size
   have hB_159 := hB.fr0 hF157
   have hRA_160 := hRA.fr0 hF157
   have hRB_161 := hRB.fr0 hF157
   have hK_162 := hK.fr0 hF157
   have hE_163 := hE.tr0 hF157
   refine V.pt h15 fun a h164 => ?_
   have hbkl := bkt_lt T1.seed k (n := T1.a.length) (by omega)
   have hbq := hbl (bkt T1.seed T1.a.length k)
   refine V.re h164 [] 10 16 [(5, .int .i64 0), (6, .int .i64 ((bkt T1.seed T1.a.length k : Nat) : Int)), (7, .int .i64 (j : Int))] fun a h165 => k14 _ _ ?_
   refine V.seq fun K166 k167 => ?_
   refine V.sr h165 [] 17 17 [(18, .bool false)] fun a h170 => ?_
   refine V.cf h170 ?_
   refine V.skip ?_
   refine V.then_n (k167 _ _ ?_)
   refine V.seq fun K171 k172 => ?_
   refine V.sr h170 [] 19 19 [(20, .bool true)] fun a h175 => ?_
   refine V.ct h175 ?_
   refine V.pl [([0,1,2,3,4,5,6,7,8,9,10,11,12],some (13,[3])),([14],some (15,[])),([],none)] fun w176 hF177 hsw176 => ?_
   have hB_178 := hB_159.fr0 hF177
   have hRA_179 := hRA_160.fr0 hF177
   have hRB_180 := hRB_161.fr0 hF177
   have hK_181 := hK_162.fr0 hF177
   have hE_182 := hE_163.tr0 hF177
   obtain ⟨A183, c184, hv185⟩ := hK_181.getA hlA (i := (bkt T1.seed T1.a.length k)) (by omega) nilS
   have hS186 := hK_181.slA hlA (i := (bkt T1.seed T1.a.length k)) (by omega) hv185
   refine V.pe h175 [(3, .b hB_178 1), (4, .b hB_178 1), (1, .ix gA 0 T1.a.length T1.a.length .i64 ((bkt T1.seed T1.a.length k : Nat) : Int) 1 rfl), (0, .l ⟨gA, 0 + ((bkt T1.seed T1.a.length k : Nat) : Int).toNat * 1, none⟩ (.slice A183 ((T1.a.getD (bkt T1.seed T1.a.length k) []).length) c184) ((hRA_179.at (bkt T1.seed T1.a.length k) nilS (by omega)).trans (congrArg some hv185)))] 21 31 [(23, .pointer (some ⟨t, 1, none⟩)), (24, .slice (some ⟨gA, 0, none⟩) T1.a.length T1.a.length), (25, .int .i64 ((bkt T1.seed T1.a.length k : Nat) : Int)), (32, .slice A183 ((T1.a.getD (bkt T1.seed T1.a.length k) []).length) c184), (33, .int .i64 (j : Int))] fun a h187 => ?_
   obtain ⟨g195, o196, hAe, _, _⟩ := hS186.addr (by omega)
   have hSz193 := hS186.zone (Z' := fun b => b < w176.heap.size) (fun b hb _ => hb)
   rw [hAe] at hSz193
   have hA194 := hS186.cap
   refine V.cl (av := #[.slice A183 ((T1.a.getD (bkt T1.seed T1.a.length k) []).length) c184, .int .i64 (j : Int)]) h187 (Go.Proofs.enters_of Try.func73 (by kernel_rfl) rfl) (by (rw [hAe]; exact rwithout_any w176 g195 o196 c184 j (T1.a.getD (bkt T1.seed T1.a.length k) []) hSz193 (by omega) hA194 (by omega))) ?_
   rintro _ w197 ⟨A190, c191, rfl, hOr188, hF189⟩
   refine ⟨_, rfl, fun a h198 => ?_⟩
   have hsw197 := hF189.size
   have hB_199 := hB_178.fr0 hF189
   have hRA_200 := hRA_179.fr0 hF189
   have hRB_201 := hRB_180.fr0 hF189
   have hE_202 := hE_182.tr0 hF189
   have hK192 := hK_181.newA hlA (i := (bkt T1.seed T1.a.length k)) (by omega) hF189 hOr188 (fun k hk => .inr (by omega))
   refine V.eh (fun _ => held_blk (n := 1) (hx := (h187.e (v := (.pointer (some ⟨t, 1, none⟩))))) hB_178 hB_199 (by kernel_rfl) rfl (by simp only [List.length]; omega)) ?_
   refine V.pe h198 [(0, .ix gA 0 T1.a.length T1.a.length .i64 ((bkt T1.seed T1.a.length k : Nat) : Int) 1 rfl)] 1 0 [(35, .pointer (some ⟨gA, 0 + ((bkt T1.seed T1.a.length k : Nat) : Int).toNat * 1, none⟩))] fun a h204 => ?_
   refine V.go (V.strow (enc := idV) gA (((bkt T1.seed T1.a.length k : Nat) : Int).toNat) (.slice A190 ((T1.a.getD (bkt T1.seed T1.a.length k) []).length - 1) c191) h204.e h204.e rfl rfl (by kernel_rfl) hRA_200 (by first | omega | (simp only [List.length_set, List.length_replicate]; omega)) ?_)
   intro w205 hR206 hF207 hsw205
   have hB_208 := hB_199.fr1 hF207 (by omega)
   have hRB_209 := hRB_201.fr1 hF207 (by omega)
   have hE_210 := hE_202.tr1 hF207 (by first | exact .inl (by assumption) | exact .inr (by omega) | exact .inl (.inl rfl))
   have hK192_211 := hK192.fr hF207 (by simp)
   refine V.eh trivial ?_
   refine V.pz h204 [] 1 0 [] fun a h212 => k172 _ _ ?_
   refine V.sg fun K213 k214 => ?_
   refine V.run h212 [(3, .b hB_208 4), (0, .i ((T1.n : Int) - 1))] 7 51 56 [(55, .int .i64 ((T1.n : Int) - 1)), (57, .pointer (some ⟨t, 4, none⟩))] fun a h218 => ?_
   refine V.go (V.stn t 4 (.int .i64 ((T1.n : Int) - 1)) [.int .i64 ((T1.n : Int) - 1)] h218.e h218.e rfl rfl (by kernel_rfl) hB_208 (by simp) [.int .u64 (T1.seed : Int), .slice (some ⟨gA, 0, none⟩) T1.a.length T1.a.length, .slice (some ⟨gB, 0, none⟩) T1.b.length T1.b.length, .int .i64 (T1.moved : Int), .int .i64 ((T1.n : Int) - 1)] rfl ?_)
   intro w215 hB216 hF217 hsw215
   have hRB_219 := hRB_209.fr1 hF217 (by omega)
   have hE_220 := hE_210.tr1 hF217 (by first | exact .inl (by assumption) | exact .inr (by omega) | exact .inl (.inl rfl))
   have hK192_221 := hK192_211.fr hF217 (by simp)
   have hR206_222 := hR206.fr1 hF217 (by omega)
   refine V.nt (k214 _ _ ?_)
   refine V.seq fun K223 k224 => ?_
   refine V.seq fun K225 k226 => ?_
   refine V.pl [([0,1,2,3,4,5,6,7,8,9,10,11,12,13,14,15,16,17,18,19,20,21,22,23,24,25,26],none)] fun w227 hF228 hsw227 => ?_
   have hRB_229 := hRB_219.fr0 hF228
   have hE_230 := hE_220.tr0 hF228
   have hK192_231 := hK192_221.fr0 hF228
   have hR206_232 := hR206_222.fr0 hF228
   have hB216_233 := hB216.fr0 hF228
   refine V.pz0 ?_
   refine V.run h218 [(3, .b hB216_233 2), (1, .eq ((T1.b.length : Nat) : Int) 0)] 7 59 63 [(58, .pointer (some ⟨t, 0, none⟩)), (61, .slice (some ⟨gB, 0, none⟩) T1.b.length T1.b.length), (62, .int .i64 ((T1.b.length : Nat) : Int)), (64, .bool (decide (((T1.b.length : Nat) : Int) = 0)))] fun a h234 => ?_
   by_cases hg235 : ((T1.b.length : Nat) : Int) = 0
   ·
    have h236 := h234.kt 64 hg235
    refine V.run h236 [(3, .b hB216_233 1)] 8 66 71 [(65, .pointer (some ⟨t, 0, none⟩)), (68, .slice (some ⟨gA, 0, none⟩) T1.a.length T1.a.length), (69, .int .i64 ((T1.a.length : Nat) : Int)), (72, .bool (decide (((T1.a.length : Nat) : Int) > 4)))] fun a h237 => ?_
    by_cases hg238 : ((T1.a.length : Nat) : Int) > 4
    ·
     have h239 := h237.kt 72 hg238
     refine V.se h239 [(3, .b hB216_233 4), (0, .i (((T1.n : Int) - 1) * 8)), (3, .b hB216_233 1)] 74 83 [(73, .pointer (some ⟨t, 0, none⟩)), (76, .int .i64 ((T1.n : Int) - 1)), (77, .int .i64 (((T1.n : Int) - 1) * 8)), (78, .pointer (some ⟨t, 0, none⟩)), (81, .slice (some ⟨gA, 0, none⟩) T1.a.length T1.a.length), (82, .int .i64 ((T1.a.length : Nat) : Int)), (84, .bool (decide ((((T1.n : Int) - 1) * 8) < ((T1.a.length : Nat) : Int))))] fun a h240 => k226 _ _ ?_
     have h241 := h240.only [(0, .pointer (some ⟨t, 0, none⟩)), (84, .bool (decide ((((T1.n : Int) - 1) * 8) < ((T1.a.length : Nat) : Int))))]
     refine V.cp h241 ((((T1.n : Int) - 1) * 8) < ((T1.a.length : Nat) : Int)) (fun ht242 => ?_) (fun ht242 => ?_)
     ·
      refine V.rg ?_
      refine V.run h241 [(4, .b hB216_233 1), (1, .quoN T1.a.length 2)] 7 86 90 [(85, .pointer (some ⟨t, 0, none⟩)), (91, .int .i64 ((T1.a.length / 2 : Nat) : Int))] fun a h247 => ?_
      refine V.go (V.mks (enc := idV) (T1.a.length / 2) (.slice none 0 0) nilS 24 ((h247.e (v := (.int .i64 ((T1.a.length / 2 : Nat) : Int)))).trans (V.int_eq (by omega))) ((h247.e (v := (.int .i64 ((T1.a.length / 2 : Nat) : Int)))).trans (V.int_eq (by omega))) (by kernel_rfl) info42 rfl rfl (by omega) (by omega) ?_)
      intro w244 b243 heb243 hR245 hF246
      have hsb243 := hR245.lt
      have hB216_252 := hB216_233.fr0 hF246
      refine V.pt h247 fun a h253 => ?_
      refine V.run h253 [] 2 93 93 [(94, .pointer (some ⟨t, 2, none⟩))] fun a h257 => ?_
      refine V.go (V.stn t 2 (.slice (some ⟨b243, 0, none⟩) (T1.a.length / 2) (T1.a.length / 2)) [.slice (some ⟨b243, 0, none⟩) (T1.a.length / 2) (T1.a.length / 2)] h257.e h257.e rfl rfl (by kernel_rfl) hB216_252 (by simp) [.int .u64 (T1.seed : Int), .slice (some ⟨gA, 0, none⟩) T1.a.length T1.a.length, .slice (some ⟨b243, 0, none⟩) (T1.a.length / 2) (T1.a.length / 2), .int .i64 (T1.moved : Int), .int .i64 ((T1.n : Int) - 1)] rfl ?_)
      intro w254 hB255 hF256 hsw254
      refine V.nt (k224 _ _ ?_)
      refine V.sr h257 [] 1 0 [(4, .bool true)] fun a h265 => ?_
      refine V.ret ?_
      refine V.r1 h265 (.bool true) ?_
      exact absurd hg235 (by omega)
     ·
      refine V.skip ?_
      refine V.then_n (k224 _ _ ?_)
      refine V.sr h241 [] 1 0 [(4, .bool true)] fun a h268 => ?_
      refine V.ret ?_
      refine V.r1 h268 (.bool true) ?_
      exact absurd hg235 (by omega)
    ·
     have h269 := h237.kf 72 hg238
     refine V.se h269 [] 74 83 [(73, undef), (76, undef), (77, undef), (78, undef), (81, undef), (82, undef), (84, .bool false)] fun a h270 => k226 _ _ ?_
     have h271 := h270.only [(0, .pointer (some ⟨t, 0, none⟩)), (84, .bool false)]
     refine V.cf h271 ?_
     refine V.skip ?_
     refine V.then_n (k224 _ _ ?_)
     refine V.sr h271 [] 1 0 [(4, .bool true)] fun a h274 => ?_
     refine V.ret ?_
     refine V.r1 h274 (.bool true) ?_
     exact absurd hg235 (by omega)
   ·
    have h275 := h234.kf 64 hg235
    refine V.se h275 [] 66 83 [(65, undef), (68, undef), (69, undef), (72, .bool false), (73, undef), (76, undef), (77, undef), (78, undef), (81, undef), (82, undef), (84, .bool false)] fun a h276 => k226 _ _ ?_
    have h277 := h276.only [(0, .pointer (some ⟨t, 0, none⟩)), (84, .bool false)]
    refine V.cf h277 ?_
    refine V.skip ?_
    refine V.then_n (k224 _ _ ?_)
    refine V.sr h277 [] 1 0 [(4, .bool true)] fun a h280 => ?_
    refine V.ret ?_
    refine V.r1 h280 (.bool true) ?_
    have hst : delT T k = shrT (rm1T T1 k) := by (unfold delT; rw [← hT1]; unfold del1T; rw [hf, if_pos rfl])
    have hu2 : rm1T T1 k = ({ T1 with a := rmV T1.a (bkt T1.seed T1.a.length k) j, n := T1.n - 1 } : Tb Int) := by (unfold rm1T; rw [hf]; simp)
    have hup := (rm1T_ok hok1 hm1 k (by rw [hf])).1
    rw [hu2] at hup
    rw [hst, hu2]
    have hsh : shrT ({ T1 with a := rmV T1.a (bkt T1.seed T1.a.length k) j, n := T1.n - 1 } : Tb Int) = ({ T1 with a := rmV T1.a (bkt T1.seed T1.a.length k) j, n := T1.n - 1 } : Tb Int) := by (unfold shrT; rw [if_neg]; rintro ⟨h0, _⟩; exact hb1 (by first | exact h0 | (have h1 : (rmV T1.b (bkt T1.seed T1.b.length k) j).length = 0 := h0; rwa [rmV_length] at h1)))
    rw [hsh]
    exact ⟨by rw [hf], (TabM.fin (T := ({ T1 with a := rmV T1.a (bkt T1.seed T1.a.length k) j, n := T1.n - 1 } : Tb Int)) hup hb0 hB216_233 hR206_232 hRB_229 (by first | exact hlA | (simp only [List.length_set]; exact hlA)) hK192_231 (mem4 (l := (t :: gA :: gB :: av)) (by simp) (by simp) (by simp) (by intro k hk; simp [hk])) (by first | assumption | omega) (by first | assumption | omega) (by first | assumption | omega) hpt ⟨.inl hpg.1, hpg.2⟩ ⟨.inl hph.1, hph.2⟩ rfl (rmV_length _ _ _).symm rfl (by show ((T1.n : Int) - 1) = ((T1.n - 1 : Nat) : Int); omega) rfl rfl rfl).gr3 (by omega), (hFPE.gr hE_230)⟩
 ·
  rcases hT8q.2 with ⟨hb0, gA, vsA, hN⟩ | ⟨hb0, gA, gB, vsA, vsB, hN⟩
  ·
   exact absurd (by rw [hb0]; rfl) hbn
  ·
   have hb1 : T1.b.length ≠ 0 := fun h => hb0 (List.eq_nil_of_length_eq_zero h)
   obtain ⟨hB, hRA, hRB, hlA, hlB, hK, hne, hne2, hne3, hpt, hpg, hph⟩ := hN
   replace hK := hK.toH
   have hltt := hB.lt
   have hltg := hRA.lt
   have hltg2 := hRB.lt
   have hE : FrP (gp (gr H w w10) av) w10 w10 := FrP.refl _ _
   have hK0 : ∀ k ∈ av, k < w10.heap.size := fun k hk => hK.avl k (by simp [hk])
   obtain ⟨hsd, hpa, hla, hlb, hmv, hmz, hnn, hcn, hks⟩ := (show T1.Ok from hok1)
   have hbl := hok1.bl
   have hFPE := hFP_12
   refine V.go (V.call 71 #[] #[.pointer (some ⟨t, 0, none⟩), .string k] evf (args2 h15.e h15.e) (Go.Proofs.enters_of Try.func71 (by kernel_rfl) rfl) (by have h := rfind_any w10 (gr H w w10) (av) t T1 hT8q k hkz; rw [rfT_yes hf] at h; exact h) ?_)
   rintro _ w282 ⟨rfl, hF281⟩
   refine ⟨_, rfl, ?_⟩
   have hsw282 := hF281.size
   have hB_283 := hB.fr0 hF281
   have hRA_284 := hRA.fr0 hF281
   have hRB_285 := hRB.fr0 hF281
   have hK_286 := hK.fr0 hF281
   have hE_287 := hE.tr0 hF281
   refine V.pt h15 fun a h288 => ?_
   have hbkl := bkt_lt T1.seed k (n := T1.b.length) (by omega)
   have hbq := hbl (bkt T1.seed T1.b.length k)
   refine V.re h288 [] 10 16 [(5, .int .i64 1), (6, .int .i64 ((bkt T1.seed T1.b.length k : Nat) : Int)), (7, .int .i64 (j : Int))] fun a h289 => k14 _ _ ?_
   refine V.seq fun K290 k291 => ?_
   refine V.sr h289 [] 17 17 [(18, .bool false)] fun a h294 => ?_
   refine V.cf h294 ?_
   refine V.skip ?_
   refine V.then_n (k291 _ _ ?_)
   refine V.seq fun K295 k296 => ?_
   refine V.sr h294 [] 19 19 [(20, .bool false)] fun a h299 => ?_
   refine V.cf h299 ?_
   refine V.pl [([0,1,2,3,4,5,6,7,8,9,10,11,12],some (13,[3])),([14],some (15,[])),([],none)] fun w300 hF301 hsw300 => ?_
   have hB_302 := hB_283.fr0 hF301
   have hRA_303 := hRA_284.fr0 hF301
   have hRB_304 := hRB_285.fr0 hF301
   have hK_305 := hK_286.fr0 hF301
   have hE_306 := hE_287.tr0 hF301
   obtain ⟨A307, c308, hv309⟩ := hK_305.getB hlA (i := (bkt T1.seed T1.b.length k)) (by omega) nilS
   have hS310 := hK_305.slB hlA (i := (bkt T1.seed T1.b.length k)) (by omega) hv309
   refine V.pe h299 [(3, .b hB_302 2), (4, .b hB_302 2), (1, .ix gB 0 T1.b.length T1.b.length .i64 ((bkt T1.seed T1.b.length k : Nat) : Int) 1 rfl), (0, .l ⟨gB, 0 + ((bkt T1.seed T1.b.length k : Nat) : Int).toNat * 1, none⟩ (.slice A307 ((T1.b.getD (bkt T1.seed T1.b.length k) []).length) c308) ((hRB_304.at (bkt T1.seed T1.b.length k) nilS (by omega)).trans (congrArg some hv309)))] 36 46 [(38, .pointer (some ⟨t, 2, none⟩)), (39, .slice (some ⟨gB, 0, none⟩) T1.b.length T1.b.length), (40, .int .i64 ((bkt T1.seed T1.b.length k : Nat) : Int)), (47, .slice A307 ((T1.b.getD (bkt T1.seed T1.b.length k) []).length) c308), (48, .int .i64 (j : Int))] fun a h311 => ?_
   obtain ⟨g319, o320, hAe, _, _⟩ := hS310.addr (by omega)
   have hSz317 := hS310.zone (Z' := fun b => b < w300.heap.size) (fun b hb _ => hb)
   rw [hAe] at hSz317
   have hA318 := hS310.cap
   refine V.cl (av := #[.slice A307 ((T1.b.getD (bkt T1.seed T1.b.length k) []).length) c308, .int .i64 (j : Int)]) h311 (Go.Proofs.enters_of Try.func73 (by kernel_rfl) rfl) (by (rw [hAe]; exact rwithout_any w300 g319 o320 c308 j (T1.b.getD (bkt T1.seed T1.b.length k) []) hSz317 (by omega) hA318 (by omega))) ?_
   rintro _ w321 ⟨A314, c315, rfl, hOr312, hF313⟩
   refine ⟨_, rfl, fun a h322 => ?_⟩
   have hsw321 := hF313.size
   have hB_323 := hB_302.fr0 hF313
   have hRA_324 := hRA_303.fr0 hF313
   have hRB_325 := hRB_304.fr0 hF313
   have hE_326 := hE_306.tr0 hF313
   have hK316 := hK_305.newB hlA (i := (bkt T1.seed T1.b.length k)) (by omega) hF313 hOr312 (fun k hk => .inr (by omega))
   refine V.eh (fun _ => held_blk (n := 1) (hx := (h311.e (v := (.pointer (some ⟨t, 2, none⟩))))) hB_302 hB_323 (by kernel_rfl) rfl (by simp only [List.length]; omega)) ?_
   refine V.pe h322 [(0, .ix gB 0 T1.b.length T1.b.length .i64 ((bkt T1.seed T1.b.length k : Nat) : Int) 1 rfl)] 1 0 [(50, .pointer (some ⟨gB, 0 + ((bkt T1.seed T1.b.length k : Nat) : Int).toNat * 1, none⟩))] fun a h328 => ?_
   refine V.go (V.strow (enc := idV) gB (((bkt T1.seed T1.b.length k : Nat) : Int).toNat) (.slice A314 ((T1.b.getD (bkt T1.seed T1.b.length k) []).length - 1) c315) h328.e h328.e rfl rfl (by kernel_rfl) hRB_325 (by first | omega | (simp only [List.length_set, List.length_replicate]; omega)) ?_)
   intro w329 hR330 hF331 hsw329
   have hB_332 := hB_323.fr1 hF331 (by omega)
   have hRA_333 := hRA_324.fr1 hF331 (by omega)
   have hE_334 := hE_326.tr1 hF331 (by first | exact .inl (by assumption) | exact .inr (by omega) | exact .inl (.inl rfl))
   have hK316_335 := hK316.fr hF331 (by simp)
   refine V.eh trivial ?_
   refine V.pz h328 [] 1 0 [] fun a h336 => k296 _ _ ?_
   refine V.sg fun K337 k338 => ?_
   refine V.run h336 [(3, .b hB_332 4), (0, .i ((T1.n : Int) - 1))] 7 51 56 [(55, .int .i64 ((T1.n : Int) - 1)), (57, .pointer (some ⟨t, 4, none⟩))] fun a h342 => ?_
   refine V.go (V.stn t 4 (.int .i64 ((T1.n : Int) - 1)) [.int .i64 ((T1.n : Int) - 1)] h342.e h342.e rfl rfl (by kernel_rfl) hB_332 (by simp) [.int .u64 (T1.seed : Int), .slice (some ⟨gA, 0, none⟩) T1.a.length T1.a.length, .slice (some ⟨gB, 0, none⟩) T1.b.length T1.b.length, .int .i64 (T1.moved : Int), .int .i64 ((T1.n : Int) - 1)] rfl ?_)
   intro w339 hB340 hF341 hsw339
   have hRA_343 := hRA_333.fr1 hF341 (by omega)
   have hE_344 := hE_334.tr1 hF341 (by first | exact .inl (by assumption) | exact .inr (by omega) | exact .inl (.inl rfl))
   have hK316_345 := hK316_335.fr hF341 (by simp)
   have hR330_346 := hR330.fr1 hF341 (by omega)
   refine V.nt (k338 _ _ ?_)
   refine V.seq fun K347 k348 => ?_
   refine V.seq fun K349 k350 => ?_
   refine V.pl [([0,1,2,3,4,5,6,7,8,9,10,11,12,13,14,15,16,17,18,19,20,21,22,23,24,25,26],none)] fun w351 hF352 hsw351 => ?_
   have hRA_353 := hRA_343.fr0 hF352
   have hE_354 := hE_344.tr0 hF352
   have hK316_355 := hK316_345.fr0 hF352
   have hR330_356 := hR330_346.fr0 hF352
   have hB340_357 := hB340.fr0 hF352
   refine V.pz0 ?_
   refine V.run h342 [(3, .b hB340_357 2), (1, .eq ((T1.b.length : Nat) : Int) 0)] 7 59 63 [(58, .pointer (some ⟨t, 0, none⟩)), (61, .slice (some ⟨gB, 0, none⟩) T1.b.length T1.b.length), (62, .int .i64 ((T1.b.length : Nat) : Int)), (64, .bool (decide (((T1.b.length : Nat) : Int) = 0)))] fun a h358 => ?_
   by_cases hg359 : ((T1.b.length : Nat) : Int) = 0
   ·
    have h360 := h358.kt 64 hg359
    refine V.run h360 [(3, .b hB340_357 1)] 8 66 71 [(65, .pointer (some ⟨t, 0, none⟩)), (68, .slice (some ⟨gA, 0, none⟩) T1.a.length T1.a.length), (69, .int .i64 ((T1.a.length : Nat) : Int)), (72, .bool (decide (((T1.a.length : Nat) : Int) > 4)))] fun a h361 => ?_
    by_cases hg362 : ((T1.a.length : Nat) : Int) > 4
    ·
     have h363 := h361.kt 72 hg362
     refine V.se h363 [(3, .b hB340_357 4), (0, .i (((T1.n : Int) - 1) * 8)), (3, .b hB340_357 1)] 74 83 [(73, .pointer (some ⟨t, 0, none⟩)), (76, .int .i64 ((T1.n : Int) - 1)), (77, .int .i64 (((T1.n : Int) - 1) * 8)), (78, .pointer (some ⟨t, 0, none⟩)), (81, .slice (some ⟨gA, 0, none⟩) T1.a.length T1.a.length), (82, .int .i64 ((T1.a.length : Nat) : Int)), (84, .bool (decide ((((T1.n : Int) - 1) * 8) < ((T1.a.length : Nat) : Int))))] fun a h364 => k350 _ _ ?_
     have h365 := h364.only [(0, .pointer (some ⟨t, 0, none⟩)), (84, .bool (decide ((((T1.n : Int) - 1) * 8) < ((T1.a.length : Nat) : Int))))]
     refine V.cp h365 ((((T1.n : Int) - 1) * 8) < ((T1.a.length : Nat) : Int)) (fun ht366 => ?_) (fun ht366 => ?_)
     ·
      refine V.rg ?_
      refine V.run h365 [(4, .b hB340_357 1), (1, .quoN T1.a.length 2)] 7 86 90 [(85, .pointer (some ⟨t, 0, none⟩)), (91, .int .i64 ((T1.a.length / 2 : Nat) : Int))] fun a h371 => ?_
      refine V.go (V.mks (enc := idV) (T1.a.length / 2) (.slice none 0 0) nilS 24 ((h371.e (v := (.int .i64 ((T1.a.length / 2 : Nat) : Int)))).trans (V.int_eq (by omega))) ((h371.e (v := (.int .i64 ((T1.a.length / 2 : Nat) : Int)))).trans (V.int_eq (by omega))) (by kernel_rfl) info42 rfl rfl (by omega) (by omega) ?_)
      intro w368 b367 heb367 hR369 hF370
      have hsb367 := hR369.lt
      have hB340_376 := hB340_357.fr0 hF370
      refine V.pt h371 fun a h377 => ?_
      refine V.run h377 [] 2 93 93 [(94, .pointer (some ⟨t, 2, none⟩))] fun a h381 => ?_
      refine V.go (V.stn t 2 (.slice (some ⟨b367, 0, none⟩) (T1.a.length / 2) (T1.a.length / 2)) [.slice (some ⟨b367, 0, none⟩) (T1.a.length / 2) (T1.a.length / 2)] h381.e h381.e rfl rfl (by kernel_rfl) hB340_376 (by simp) [.int .u64 (T1.seed : Int), .slice (some ⟨gA, 0, none⟩) T1.a.length T1.a.length, .slice (some ⟨b367, 0, none⟩) (T1.a.length / 2) (T1.a.length / 2), .int .i64 (T1.moved : Int), .int .i64 ((T1.n : Int) - 1)] rfl ?_)
      intro w378 hB379 hF380 hsw378
      refine V.nt (k348 _ _ ?_)
      refine V.sr h381 [] 1 0 [(4, .bool true)] fun a h389 => ?_
      refine V.ret ?_
      refine V.r1 h389 (.bool true) ?_
      exact absurd hg359 (by omega)
     ·
      refine V.skip ?_
      refine V.then_n (k348 _ _ ?_)
      refine V.sr h365 [] 1 0 [(4, .bool true)] fun a h392 => ?_
      refine V.ret ?_
      refine V.r1 h392 (.bool true) ?_
      exact absurd hg359 (by omega)
    ·
     have h393 := h361.kf 72 hg362
     refine V.se h393 [] 74 83 [(73, undef), (76, undef), (77, undef), (78, undef), (81, undef), (82, undef), (84, .bool false)] fun a h394 => k350 _ _ ?_
     have h395 := h394.only [(0, .pointer (some ⟨t, 0, none⟩)), (84, .bool false)]
     refine V.cf h395 ?_
     refine V.skip ?_
     refine V.then_n (k348 _ _ ?_)
     refine V.sr h395 [] 1 0 [(4, .bool true)] fun a h398 => ?_
     refine V.ret ?_
     refine V.r1 h398 (.bool true) ?_
     exact absurd hg359 (by omega)
   ·
    have h399 := h358.kf 64 hg359
    refine V.se h399 [] 66 83 [(65, undef), (68, undef), (69, undef), (72, .bool false), (73, undef), (76, undef), (77, undef), (78, undef), (81, undef), (82, undef), (84, .bool false)] fun a h400 => k350 _ _ ?_
    have h401 := h400.only [(0, .pointer (some ⟨t, 0, none⟩)), (84, .bool false)]
    refine V.cf h401 ?_
    refine V.skip ?_
    refine V.then_n (k348 _ _ ?_)
    refine V.sr h401 [] 1 0 [(4, .bool true)] fun a h404 => ?_
    refine V.ret ?_
    refine V.r1 h404 (.bool true) ?_
    have hst : delT T k = shrT (rm1T T1 k) := by (unfold delT; rw [← hT1]; unfold del1T; rw [hf, if_pos rfl])
    have hu2 : rm1T T1 k = ({ T1 with b := rmV T1.b (bkt T1.seed T1.b.length k) j, n := T1.n - 1 } : Tb Int) := by (unfold rm1T; rw [hf]; simp)
    have hup := (rm1T_ok hok1 hm1 k (by rw [hf])).1
    rw [hu2] at hup
    rw [hst, hu2]
    have hsh : shrT ({ T1 with b := rmV T1.b (bkt T1.seed T1.b.length k) j, n := T1.n - 1 } : Tb Int) = ({ T1 with b := rmV T1.b (bkt T1.seed T1.b.length k) j, n := T1.n - 1 } : Tb Int) := by (unfold shrT; rw [if_neg]; rintro ⟨h0, _⟩; exact hb1 (by first | exact h0 | (have h1 : (rmV T1.b (bkt T1.seed T1.b.length k) j).length = 0 := h0; rwa [rmV_length] at h1)))
    rw [hsh]
    exact ⟨by rw [hf], (TabM.fin (T := ({ T1 with b := rmV T1.b (bkt T1.seed T1.b.length k) j, n := T1.n - 1 } : Tb Int)) hup (fun h => hb1 (by have := congrArg List.length h; rwa [rmV_length] at this)) hB340_357 hRA_353 hR330_356 (by first | exact hlA | (simp only [List.length_set]; exact hlA)) hK316_355 (mem4 (l := (t :: gA :: gB :: av)) (by simp) (by simp) (by simp) (by intro k hk; simp [hk])) (by first | assumption | omega) (by first | assumption | omega) (by first | assumption | omega) hpt ⟨.inl hpg.1, hpg.2⟩ ⟨.inl hph.1, hph.2⟩ rfl rfl rfl (by show ((T1.n : Int) - 1) = ((T1.n - 1 : Nat) : Int); omega) rfl rfl (rmV_length _ _ _).symm).gr3 (by omega), (hFPE.gr hE_354)⟩
theorem rall_N (w : World) (H : Nat → Prop) (av : List Nat) (t gA : Nat) (vsA : List Value) (T : Tb Int) (hok : T.Ok) (hT : TabN 40 42 60 itI w H av t gA vsA T) (hHb : ∀ k, H k → k < w.heap.size) (hb : T.b.length = 0) : Calls Try.prog 21 #[.pointer (some ⟨t, 0, none⟩)] w (fun e w' => ∃ A c, e = .returned (.slice A T.n c) ∧ OwR itI NoZ w' w.heap.size 60 (.slice A T.n c) (T.a ++ T.b).flatten ∧ Fr [] w w') := by
 have hF := Fr.refl [] w
 have hok0 := hok
 have hO := OwR.nil itI NoZ w w.heap.size 60
 have hbl := hok.bl
 obtain ⟨hsd, hpa, hla, hlb, hmv, hmz, hnn, hcn, hks⟩ := hok
 obtain ⟨hB, hRA, hlA, hK, hne, hpt, hpg⟩ := hT
 have hltt := hB.lt
 have hltg := hRA.lt
 refine V.en 43 Try.func21 fun a h1 => ?_
 refine V.sr h1 [] 2 2 [] fun a h4 => ?_
 refine V.sr h4 [] 1 0 [(3, .slice none 0 0)] fun a h7 => ?_
 refine V.seq fun K8 k9 => ?_
 refine V.sr h7 [] 1 0 [(4, .int .i64 0)] fun a h12 => ?_
 refine V.block ?_
 refine V.loop3 (fun (i : Nat) (A : Option Addr) (c : Nat) a_ w_ => En 43 [] a_ [(0, .pointer (some ⟨t, 0, none⟩)), (3, .slice A (((T.a.take i).flatten).length) c), (4, .int .i64 (i : Int))] ∧ OwR itI NoZ w_ w.heap.size 60 (.slice A (((T.a.take i).flatten).length) c) ((T.a.take i).flatten) ∧ Fr [] w w_ ∧ Blk w_ t [.int .u64 (T.seed : Int), .slice (some ⟨gA, 0, none⟩) T.a.length T.a.length, .slice none 0 0, .int .i64 (T.moved : Int), .int .i64 (T.n : Int)] 40 ∧ Row idV w_ gA vsA 42 ∧ Bks itI w_ 60 H (t :: gA :: av) (vsA ++ []) (T.a ++ []) ∧ (i ≤ T.a.length)) (fun (i : Nat) (A : Option Addr) (c : Nat) => T.a.length - i) 0 none 0 ?_ ?_
 ·
  refine ⟨((h12.eq 3 (v := (.slice none 0 0)) (u := (.slice none (((T.a.take 0).flatten).length) 0)) (rfl)).eq 4 (v := (.int .i64 0)) (u := (.int .i64 (0 : Int))) (V.int_eq (by omega))).only _, hO, hF, hB, hRA, hK, (by omega)⟩
 ·
  rintro i A c a13 w14 ⟨h15, hO_16, hF_17, hB_18, hRA_19, hK_20, hii⟩
  have hfs21 := hF_17.size
  have hlt22 := hB_18.lt
  have hlt23 := hRA_19.lt
  have hft := flat_take_le T.a i
  have hbq := hbl i
  have hsum := hok0.sum
  refine V.seq fun K24 k25 => ?_
  refine V.sr h15 [(4, .b hB_18 1)] 6 11 [(12, .bool (decide ((i : Int) < ((T.a.length : Nat) : Int))))] fun a h28 => ?_
  refine V.cp h28 ((i : Int) < ((T.a.length : Nat) : Int)) (fun ht29 => ?_) (fun ht29 => ?_)
  ·
   refine V.skip ?_
   refine V.then_n (k25 _ _ ?_)
   refine V.seq fun K30 k31 => ?_
   refine V.block ?_
   obtain ⟨A32, c33, hv34⟩ := hK_20.getA hlA (i := i) (by omega) nilS
   have hS35 := hK_20.slA hlA (i := i) (by omega) hv34
   refine V.rg ?_
   refine V.run h28 [(4, .b hB_18 1), (1, .ix gA 0 T.a.length T.a.length .i64 (i : Int) 1 rfl), (0, .l ⟨gA, 0 + (i : Int).toNat * 1, none⟩ (.slice A32 ((T.a.getD i []).length) c33) ((hRA_19.at i nilS (by omega)).trans (congrArg some hv34)))] 8 16 21 [(15, .slice A (((T.a.take i).flatten).length) c), (22, .slice A32 ((T.a.getD i []).length) c33)] fun a h41 => ?_
   refine V.go (V.appS (R := itI) (h41.e (v := (.slice A (((T.a.take i).flatten).length) c))) (h41.e (v := (.slice A32 ((T.a.getD i []).length) c33))) (by kernel_rfl) info60 (by kernel_rfl) (by decide) hO_16 hS35 (fun _ _ h => h) (by (try simp only [List.length_append]); omega) (by decide) (by omega) ?_)
   intro A36 c37 w38 hO39 hF40
   have hsw38 := hF40.size
   have hF_42 := hF_17.own hF40 (own_ge hO_16 (by omega))
   have hB_43 := hB_18.fr hF40 (by first | exact own_notin hO_16 (by omega) | exact own_notin2 hO_16 (by omega))
   have hRA_44 := hRA_19.fr hF40 (by first | exact own_notin hO_16 (by omega) | exact own_notin2 hO_16 (by omega))
   have hK_45 := hK_20.frP (FrP.of hF40) (fun k hk => .inr (fun hq => by have h1 := hHb k hq; have h2 := own_ge hO_16 (Nat.le_refl _) k hk; omega))
   refine V.pt h41 fun a h46 => ?_
   refine V.re h46 [] 1 0 [(3, .slice A36 (((T.a.take i).flatten).length + (T.a.getD i []).length) c37)] fun a h47 => ?_
   refine V.blk_n ?_
   refine V.then_n (k31 _ _ ?_)
   refine V.rr h47 [(1, .i ((i : Int) + 1))] 13 14 [(4, .int .i64 ((i : Int) + 1))] fun a h48 => ?_
   refine V.then_n ?_
   have htk : (T.a.take (i + 1)).flatten = (T.a.take i).flatten ++ T.a.getD i [] := flat_take (by omega)
   have hln : ((T.a.take (i + 1)).flatten).length = ((T.a.take i).flatten).length + (T.a.getD i []).length := by rw [htk, List.length_append]
   refine ⟨i + 1, A36, c37, by omega, ?_⟩
   refine ⟨((h48.eq 3 (v := (.slice A36 (((T.a.take i).flatten).length + (T.a.getD i []).length) c37)) (u := (.slice A36 (((T.a.take (i + 1)).flatten).length) c37)) (V.sl_eq hln.symm)).eq 4 (v := (.int .i64 ((i : Int) + 1))) (u := (.int .i64 ((i + 1) : Int))) (V.int_eq (by omega))).only _, (by rw [hln, htk]; exact hO39), hF_42, hB_43, hRA_44, hK_45, (by omega)⟩
  ·
   refine V.exit (V.then_e (V.then_e (V.blk_hit ?_)))
   refine V.then_n (k9 _ _ ?_)
   refine V.seq fun K49 k50 => ?_
   refine V.sr h28 [] 1 0 [(5, .int .i64 0)] fun a h53 => ?_
   refine V.block ?_
   refine V.loopR 2 ?_
   refine V.rnd ?_
   refine V.seq fun K54 k55 => ?_
   refine V.sr h53 [(4, .b hB_18 2)] 24 29 [(30, .bool false)] fun a h58 => ?_
   refine V.cf h58 ?_
   refine V.exit (V.then_e (V.then_e (V.blk_hit ?_)))
   refine V.then_n (k50 _ _ ?_)
   refine V.sr h58 [] 42 42 [(2, .slice A (((T.a.take i).flatten).length) c)] fun a h61 => ?_
   refine V.ret ?_
   refine V.r1 h61 (.slice A (((T.a.take i).flatten).length) c) ?_
   have hq : (T.a.take i).flatten = (T.a ++ T.b).flatten := by (rw [List.take_of_length_le (by omega), List.flatten_append, List.eq_nil_of_length_eq_zero hb]; simp)
   have hn : (T.a.take i).flatten.length = T.n := by rw [hq]; exact hok0.cn
   rw [hn, hq] at hO_16
   rw [hn]
   exact ⟨_, _, rfl, hO_16, hF_17⟩
theorem rall_M (w : World) (H : Nat → Prop) (av : List Nat) (t gA gB : Nat) (vsA vsB : List Value) (T : Tb Int) (hok : T.Ok) (hT : TabM 40 42 60 itI w H av t gA gB vsA vsB T) (hHb : ∀ k, H k → k < w.heap.size) (hb : T.b.length ≠ 0) : Calls Try.prog 21 #[.pointer (some ⟨t, 0, none⟩)] w (fun e w' => ∃ A c, e = .returned (.slice A T.n c) ∧ OwR itI NoZ w' w.heap.size 60 (.slice A T.n c) (T.a ++ T.b).flatten ∧ Fr [] w w') := by
 have hF := Fr.refl [] w
 have hok0 := hok
 have hO := OwR.nil itI NoZ w w.heap.size 60
 have hbl := hok.bl
 obtain ⟨hsd, hpa, hla, hlb, hmv, hmz, hnn, hcn, hks⟩ := hok
 obtain ⟨hB, hRA, hRB, hlA, hlB, hK, hne, hne2, hne3, hpt, hpg, hph⟩ := hT
 have hltg2 := hRB.lt
 have hltt := hB.lt
 have hltg := hRA.lt
 refine V.en 43 Try.func21 fun a h1 => ?_
 refine V.sr h1 [] 2 2 [] fun a h4 => ?_
 refine V.sr h4 [] 1 0 [(3, .slice none 0 0)] fun a h7 => ?_
 refine V.seq fun K8 k9 => ?_
 refine V.sr h7 [] 1 0 [(4, .int .i64 0)] fun a h12 => ?_
 refine V.block ?_
 refine V.loop3 (fun (i : Nat) (A : Option Addr) (c : Nat) a_ w_ => En 43 [] a_ [(0, .pointer (some ⟨t, 0, none⟩)), (3, .slice A (((T.a.take i).flatten).length) c), (4, .int .i64 (i : Int))] ∧ OwR itI NoZ w_ w.heap.size 60 (.slice A (((T.a.take i).flatten).length) c) ((T.a.take i).flatten) ∧ Fr [] w w_ ∧ Blk w_ t [.int .u64 (T.seed : Int), .slice (some ⟨gA, 0, none⟩) T.a.length T.a.length, .slice (some ⟨gB, 0, none⟩) T.b.length T.b.length, .int .i64 (T.moved : Int), .int .i64 (T.n : Int)] 40 ∧ Row idV w_ gA vsA 42 ∧ Row idV w_ gB vsB 42 ∧ Bks itI w_ 60 H (t :: gA :: gB :: av) (vsA ++ vsB) (T.a ++ T.b) ∧ (i ≤ T.a.length)) (fun (i : Nat) (A : Option Addr) (c : Nat) => T.a.length - i) 0 none 0 ?_ ?_
 ·
  refine ⟨((h12.eq 3 (v := (.slice none 0 0)) (u := (.slice none (((T.a.take 0).flatten).length) 0)) (rfl)).eq 4 (v := (.int .i64 0)) (u := (.int .i64 (0 : Int))) (V.int_eq (by omega))).only _, hO, hF, hB, hRA, hRB, hK, (by omega)⟩
 ·
  rintro i A c a13 w14 ⟨h15, hO_16, hF_17, hB_18, hRA_19, hRB_20, hK_21, hii⟩
  have hfs22 := hF_17.size
  have hlt23 := hB_18.lt
  have hlt24 := hRA_19.lt
  have hlt25 := hRB_20.lt
  have hft := flat_take_le T.a i
  have hbq := hbl i
  have hsum := hok0.sum
  refine V.seq fun K26 k27 => ?_
  refine V.sr h15 [(4, .b hB_18 1)] 6 11 [(12, .bool (decide ((i : Int) < ((T.a.length : Nat) : Int))))] fun a h30 => ?_
  refine V.cp h30 ((i : Int) < ((T.a.length : Nat) : Int)) (fun ht31 => ?_) (fun ht31 => ?_)
  ·
   refine V.skip ?_
   refine V.then_n (k27 _ _ ?_)
   refine V.seq fun K32 k33 => ?_
   refine V.block ?_
   obtain ⟨A34, c35, hv36⟩ := hK_21.getA hlA (i := i) (by omega) nilS
   have hS37 := hK_21.slA hlA (i := i) (by omega) hv36
   refine V.rg ?_
   refine V.run h30 [(4, .b hB_18 1), (1, .ix gA 0 T.a.length T.a.length .i64 (i : Int) 1 rfl), (0, .l ⟨gA, 0 + (i : Int).toNat * 1, none⟩ (.slice A34 ((T.a.getD i []).length) c35) ((hRA_19.at i nilS (by omega)).trans (congrArg some hv36)))] 8 16 21 [(15, .slice A (((T.a.take i).flatten).length) c), (22, .slice A34 ((T.a.getD i []).length) c35)] fun a h43 => ?_
   refine V.go (V.appS (R := itI) (h43.e (v := (.slice A (((T.a.take i).flatten).length) c))) (h43.e (v := (.slice A34 ((T.a.getD i []).length) c35))) (by kernel_rfl) info60 (by kernel_rfl) (by decide) hO_16 hS37 (fun _ _ h => h) (by (try simp only [List.length_append]); omega) (by decide) (by omega) ?_)
   intro A38 c39 w40 hO41 hF42
   have hsw40 := hF42.size
   have hF_44 := hF_17.own hF42 (own_ge hO_16 (by omega))
   have hB_45 := hB_18.fr hF42 (by first | exact own_notin hO_16 (by omega) | exact own_notin2 hO_16 (by omega))
   have hRA_46 := hRA_19.fr hF42 (by first | exact own_notin hO_16 (by omega) | exact own_notin2 hO_16 (by omega))
   have hRB_47 := hRB_20.fr hF42 (by first | exact own_notin hO_16 (by omega) | exact own_notin2 hO_16 (by omega))
   have hK_48 := hK_21.frP (FrP.of hF42) (fun k hk => .inr (fun hq => by have h1 := hHb k hq; have h2 := own_ge hO_16 (Nat.le_refl _) k hk; omega))
   refine V.pt h43 fun a h49 => ?_
   refine V.re h49 [] 1 0 [(3, .slice A38 (((T.a.take i).flatten).length + (T.a.getD i []).length) c39)] fun a h50 => ?_
   refine V.blk_n ?_
   refine V.then_n (k33 _ _ ?_)
   refine V.rr h50 [(1, .i ((i : Int) + 1))] 13 14 [(4, .int .i64 ((i : Int) + 1))] fun a h51 => ?_
   refine V.then_n ?_
   have htk : (T.a.take (i + 1)).flatten = (T.a.take i).flatten ++ T.a.getD i [] := flat_take (by omega)
   have hln : ((T.a.take (i + 1)).flatten).length = ((T.a.take i).flatten).length + (T.a.getD i []).length := by rw [htk, List.length_append]
   refine ⟨i + 1, A38, c39, by omega, ?_⟩
   refine ⟨((h51.eq 3 (v := (.slice A38 (((T.a.take i).flatten).length + (T.a.getD i []).length) c39)) (u := (.slice A38 (((T.a.take (i + 1)).flatten).length) c39)) (V.sl_eq hln.symm)).eq 4 (v := (.int .i64 ((i : Int) + 1))) (u := (.int .i64 ((i + 1) : Int))) (V.int_eq (by omega))).only _, (by rw [hln, htk]; exact hO41), hF_44, hB_45, hRA_46, hRB_47, hK_48, (by omega)⟩
  ·
   refine V.exit (V.then_e (V.then_e (V.blk_hit ?_)))
   refine V.then_n (k9 _ _ ?_)
   refine V.seq fun K52 k53 => ?_
   refine V.sr h30 [] 1 0 [(5, .int .i64 0)] fun a h56 => ?_
   refine V.block ?_
   refine V.loop3 (fun (i2 : Nat) (A2 : Option Addr) (c2 : Nat) a_ w_ => En 43 [] a_ [(0, .pointer (some ⟨t, 0, none⟩)), (3, .slice A2 ((T.a.flatten ++ (T.b.take i2).flatten).length) c2), (5, .int .i64 (i2 : Int))] ∧ OwR itI NoZ w_ w.heap.size 60 (.slice A2 ((T.a.flatten ++ (T.b.take i2).flatten).length) c2) (T.a.flatten ++ (T.b.take i2).flatten) ∧ Fr [] w w_ ∧ Blk w_ t [.int .u64 (T.seed : Int), .slice (some ⟨gA, 0, none⟩) T.a.length T.a.length, .slice (some ⟨gB, 0, none⟩) T.b.length T.b.length, .int .i64 (T.moved : Int), .int .i64 (T.n : Int)] 40 ∧ Row idV w_ gA vsA 42 ∧ Row idV w_ gB vsB 42 ∧ Bks itI w_ 60 H (t :: gA :: gB :: av) (vsA ++ vsB) (T.a ++ T.b) ∧ (i2 ≤ T.b.length)) (fun (i2 : Nat) (A2 : Option Addr) (c2 : Nat) => T.b.length - i2) 0 A c ?_ ?_
   ·
    have hq : (T.a.take i).flatten = T.a.flatten ++ (T.b.take 0).flatten := by (rw [List.take_of_length_le (by omega)]; simp)
    refine ⟨((h56.eq 3 (v := (.slice A (((T.a.take i).flatten).length) c)) (u := (.slice A ((T.a.flatten ++ (T.b.take 0).flatten).length) c)) (V.sl_eq (congrArg List.length hq))).eq 5 (v := (.int .i64 0)) (u := (.int .i64 (0 : Int))) (V.int_eq (by omega))).only _, (by rw [← hq]; exact hO_16), hF_17, hB_18, hRA_19, hRB_20, hK_21, (by omega)⟩
   ·
    rintro i2 A2 c2 a57 w58 ⟨h59, hO_60, hF_61, hB_62, hRA_63, hRB_64, hK_65, hii2⟩
    have hfs66 := hF_61.size
    have hlt67 := hB_62.lt
    have hlt68 := hRA_63.lt
    have hlt69 := hRB_64.lt
    have hft := flat_take_le T.b i2
    have hbq := hbl i2
    have hsum := hok0.sum
    refine V.seq fun K70 k71 => ?_
    refine V.sr h59 [(4, .b hB_62 2)] 24 29 [(30, .bool (decide ((i2 : Int) < ((T.b.length : Nat) : Int))))] fun a h74 => ?_
    refine V.cp h74 ((i2 : Int) < ((T.b.length : Nat) : Int)) (fun ht75 => ?_) (fun ht75 => ?_)
    ·
     refine V.skip ?_
     refine V.then_n (k71 _ _ ?_)
     refine V.seq fun K76 k77 => ?_
     refine V.block ?_
     obtain ⟨A78, c79, hv80⟩ := hK_65.getB hlA (i := i2) (by omega) nilS
     have hS81 := hK_65.slB hlA (i := i2) (by omega) hv80
     refine V.rg ?_
     refine V.run h74 [(4, .b hB_62 2), (1, .ix gB 0 T.b.length T.b.length .i64 (i2 : Int) 1 rfl), (0, .l ⟨gB, 0 + (i2 : Int).toNat * 1, none⟩ (.slice A78 ((T.b.getD i2 []).length) c79) ((hRB_64.at i2 nilS (by omega)).trans (congrArg some hv80)))] 8 34 39 [(33, .slice A2 ((T.a.flatten ++ (T.b.take i2).flatten).length) c2), (40, .slice A78 ((T.b.getD i2 []).length) c79)] fun a h87 => ?_
     refine V.go (V.appS (R := itI) (h87.e (v := (.slice A2 ((T.a.flatten ++ (T.b.take i2).flatten).length) c2))) (h87.e (v := (.slice A78 ((T.b.getD i2 []).length) c79))) (by kernel_rfl) info60 (by kernel_rfl) (by decide) hO_60 hS81 (fun _ _ h => h) (by (try simp only [List.length_append]); omega) (by decide) (by omega) ?_)
     intro A82 c83 w84 hO85 hF86
     have hsw84 := hF86.size
     have hF_88 := hF_61.own hF86 (own_ge hO_60 (by omega))
     have hB_89 := hB_62.fr hF86 (by first | exact own_notin hO_60 (by omega) | exact own_notin2 hO_60 (by omega))
     have hRA_90 := hRA_63.fr hF86 (by first | exact own_notin hO_60 (by omega) | exact own_notin2 hO_60 (by omega))
     have hRB_91 := hRB_64.fr hF86 (by first | exact own_notin hO_60 (by omega) | exact own_notin2 hO_60 (by omega))
     have hK_92 := hK_65.frP (FrP.of hF86) (fun k hk => .inr (fun hq => by have h1 := hHb k hq; have h2 := own_ge hO_60 (Nat.le_refl _) k hk; omega))
     refine V.pt h87 fun a h93 => ?_
     refine V.re h93 [] 1 0 [(3, .slice A82 (((T.a.flatten ++ (T.b.take i2).flatten)).length + (T.b.getD i2 []).length) c83)] fun a h94 => ?_
     refine V.blk_n ?_
     refine V.then_n (k77 _ _ ?_)
     refine V.rr h94 [(1, .i ((i2 : Int) + 1))] 31 32 [(5, .int .i64 ((i2 : Int) + 1))] fun a h95 => ?_
     refine V.then_n ?_
     have htk : (T.a.flatten ++ (T.b.take (i2 + 1)).flatten) = (T.a.flatten ++ (T.b.take i2).flatten) ++ T.b.getD i2 [] := by rw [flat_take (by omega), List.append_assoc]
     have hln : (T.a.flatten ++ (T.b.take (i2 + 1)).flatten).length = (T.a.flatten ++ (T.b.take i2).flatten).length + (T.b.getD i2 []).length := by rw [htk, List.length_append]
     refine ⟨i2 + 1, A82, c83, by omega, ?_⟩
     refine ⟨((h95.eq 3 (v := (.slice A82 (((T.a.flatten ++ (T.b.take i2).flatten)).length + (T.b.getD i2 []).length) c83)) (u := (.slice A82 ((T.a.flatten ++ (T.b.take (i2 + 1)).flatten).length) c83)) (V.sl_eq hln.symm)).eq 5 (v := (.int .i64 ((i2 : Int) + 1))) (u := (.int .i64 ((i2 + 1) : Int))) (V.int_eq (by omega))).only _, (by rw [hln, htk]; exact hO85), hF_88, hB_89, hRA_90, hRB_91, hK_92, (by omega)⟩
    ·
     refine V.exit (V.then_e (V.then_e (V.blk_hit ?_)))
     refine V.then_n (k53 _ _ ?_)
     refine V.sr h74 [] 42 42 [(2, .slice A2 ((T.a.flatten ++ (T.b.take i2).flatten).length) c2)] fun a h98 => ?_
     refine V.ret ?_
     refine V.r1 h98 (.slice A2 ((T.a.flatten ++ (T.b.take i2).flatten).length) c2) ?_
     have hq : (T.a.flatten ++ (T.b.take i2).flatten) = (T.a ++ T.b).flatten := by (rw [List.take_of_length_le (by omega), List.flatten_append])
     have hn : (T.a.flatten ++ (T.b.take i2).flatten).length = T.n := by rw [hq]; exact hok0.cn
     rw [hn, hq] at hO_60
     rw [hn]
     exact ⟨_, _, rfl, hO_60, hF_61⟩
theorem rall_any (w : World) (H : Nat → Prop) (av : List Nat) (t : Nat) (T : Tb Int) (hT : TabX 40 42 60 itI w H av t T) (hHb : ∀ k, H k → k < w.heap.size) :
    Calls Try.prog 21 #[.pointer (some ⟨t, 0, none⟩)] w (fun e w' => ∃ A c, e = .returned (.slice A T.n c) ∧ OwR itI NoZ w' w.heap.size 60 (.slice A T.n c) (T.a ++ T.b).flatten ∧ Fr [] w w') := by
  rcases hT.2 with ⟨hb, gA, vsA, h⟩ | ⟨hb, gA, gB, vsA, vsB, h⟩
  · exact rall_N w H av t gA vsA T hT.1 h hHb (by rw [hb]; rfl)
  · exact rall_M w H av t gA gB vsA vsB T hT.1 h hHb (fun h => hb (List.eq_nil_of_length_eq_zero h))
end Go.Proofs.Ytalhmegjomfbaaa
end
section
namespace Go.V
open Go.Plan (FW wpL)
open Go.RowKit Go.Base
theorem enM {P : Program} {fn : Func} {S : Ending → World → Prop} {w : World} {f : FuncId} {c : Code} {l : List Value} (N : Nat) (hf : P.funcs[f]? = some fn) (h : ∀ a, En N [] a (argE 0 l) → Wp none P c (mPost P fn S) a w) (hb : fn.body = some c := by rfl) (hn : l.length + (fn.ntmps - l.length) = N := by rfl) : Calls P f l.toArray w S :=
  enterM N hf hb hn fun a hz ha => h a ⟨hz, fun t v hv => by
    have := lk_argE l 0 t v hv
    exact ha t v (by simpa using this.2)⟩
end Go.V
end
section
namespace Go.Proofs.Ytalhmegjomfbaaa
open Go.V Go.Base
open Go.RowKit (Below)
attribute [local irreducible] Act.put Act.eval
set_option linter.unusedVariables false
set_option linter.unusedSimpArgs false
set_option maxHeartbeats 4000000
set_option maxRecDepth 20000
/-- A key and its value, by a draw. -/
def pickT {α : Type} (z : ByteArray × α) (T : Tb α) (d : Nat) : (ByteArray × α) × Bool := if T.n = 0 then (z, false) else ((T.a ++ T.b).flatten.getD (d % T.n) z, true)
theorem _root_.Go.V.TabX.blkN {α : Type} {tt te e : TypeId} {R : Rp (ByteArray × α)} {w : World} {H : Nat → Prop} {av : List Nat} {t : Nat} {T : Tb α} (h : TabX tt te e R w H av t T) : ∃ v0 v1 v2 v3, Blk w t [v0, v1, v2, v3, .int .i64 (T.n : Int)] tt := by
  rcases h.2 with ⟨_, gA, vsA, h⟩ | ⟨_, gA, gB, vsA, vsB, h⟩
  · exact ⟨_, _, _, _, h.blk⟩
  · exact ⟨_, _, _, _, h.blk⟩
theorem rpick_any (w : World) (H : Nat → Prop) (av : List Nat) (t : Nat) (T : Tb Int) (hT : TabX 40 42 60 itI w H av t T) (hHb : ∀ k, H k → k < w.heap.size) (d : Nat) (hd : d < 18446744073709551616) : Calls Try.prog 50 #[.pointer (some ⟨t, 0, none⟩), .int .u64 (d : Int)] w (fun e w' => e = .returned (.tuple #[.agg #[.string (pickT (⟨#[]⟩, 0) T d).1.1, .int .i64 (pickT (⟨#[]⟩, 0) T d).1.2], .bool (pickT (⟨#[]⟩, 0) T d).2]) ∧ Fr [] w w') := by
 have hF := Fr.refl [] w
 obtain ⟨p0, p1, p2, p3, hB⟩ := hT.blkN
 have hcn := hT.1.cn
 have hnn := hT.1.nn
 have hltt := hB.lt
 refine V.en 24 Try.func50 fun a h1 => ?_
 refine V.sg fun K2 k3 => ?_
 refine V.go (V.mk [] trivial (by kernel_rfl) [.string ⟨#[]⟩, .int .i64 0] 60 (fun b => .pointer (some ⟨b, 0, none⟩)) (by kernel_rfl) ?_)
 intro w5 b4 heb4 hB6 hF7 hsb4
 have hF_8 := hF.new hF7
 have hT_9 := hT.alloc hF7 heb4 (by omega)
 have hB_10 := hB.fr0 hF7
 refine V.pt h1 fun a h11 => ?_
 refine V.re h11 [] 5 5 [] fun a h12 => k3 _ _ ?_
 refine V.seq fun K13 k14 => ?_
 refine V.sr h12 [(3, .b hB_10 4), (0, .eq (T.n : Int) 0)] 6 9 [(10, .bool (decide ((T.n : Int) = 0)))] fun a h17 => ?_
 refine V.cp h17 ((T.n : Int) = 0) (fun ht18 => ?_) (fun ht18 => ?_)
 ·
  refine V.sg fun K19 k20 => ?_
  refine V.run h17 [] 1 1 0 [(11, .agg #[.string ⟨#[]⟩, .int .i64 0])] fun a h24 => ?_
  refine V.go (V.stn b4 0 (.agg #[.string ⟨#[]⟩, .int .i64 0]) [.string ⟨#[]⟩, .int .i64 0] h24.e h24.e rfl rfl (by kernel_rfl) hB6 (by simp) [.string ⟨#[]⟩, .int .i64 0] rfl ?_)
  intro w21 hB22 hF23 hsw21
  have hF_25 := hF_8.own hF23 (by simp <;> omega)
  refine V.re h24 [] 1 0 [(5, .bool false)] fun a h28 => k20 _ _ ?_
  refine V.ret (V.then_r ?_)
  refine V.retCT h28.sd rfl _ (h28.e (v := (.pointer (some ⟨b4, 0, none⟩)))) (V.run_loadVar_agg (cs := [.string ⟨#[]⟩, .int .i64 0]) (by kernel_rfl) (blk_cells hB22 0 _ rfl)) (h28.e (v := (.bool false))) ?_
  refine ⟨?_, hF_25⟩
  unfold pickT
  rw [if_pos (by omega)]
 ·
  refine V.skip ?_
  refine V.then_n (k14 _ _ ?_)
  refine V.seq fun K29 k30 => ?_
  have hmod := Nat.mod_lt d (show 0 < T.n by omega)
  refine V.pl [([0,2,3,4,5,6,7,8,9],some (1,[6])),([10,11],some (12,[])),([13],none)] fun w31 hF32 hsw31 => ?_
  have hF_33 := hF_8.new hF32
  have hT_34 := hT_9.fr0 hF32
  have hB_35 := hB_10.fr0 hF32
  have hB6_36 := hB6.fr0 hF32
  refine V.pe h17 [(5, .b hB_35 4), (0, .q (.int .u64 (T.n : Int)) (V.w_u64 (by omega) (by omega))), (0, .remN .u64 d T.n), (0, .q (.int .i64 ((d % T.n : Nat) : Int)) (V.w_i64 (by omega) (by omega)))] 14 20 [(12, .pointer (some ⟨t, 0, none⟩)), (17, .pointer (some ⟨t, 4, none⟩)), (21, .int .i64 ((d % T.n : Nat) : Int))] fun a h37 => ?_
  refine V.cl h37 (Go.Proofs.enters_of Try.func21 (by kernel_rfl) rfl) (rall_any w31 (H) (b4 :: av) t (T) hT_34 (fun k hk => by have := hHb k hk; omega)) ?_
  rintro _ w43 ⟨A38, c39, rfl, hO40, hF41⟩
  refine ⟨_, rfl, fun a h44 => ?_⟩
  have hsw43 := hF41.size
  have hF_45 := hF_33.new hF41
  have hB_47 := hB_35.fr0 hF41
  have hB6_48 := hB6_36.fr0 hF41
  have hS42 := hO40.read (Z' := fun k => w31.heap.size ≤ k) (fun _ _ h => h.elim) (fun b hb _ => hb)
  refine V.eh (fun _ => held_blk (n := 1) (hx := (h37.e (v := (.pointer (some ⟨t, 4, none⟩))))) hB_35 hB_47 (by kernel_rfl) rfl (by simp only [List.length]; omega)) ?_
  obtain ⟨g49, o50, hA51, hA51l, hA51z⟩ := hS42.addr (by omega)
  try dsimp only at hA51z
  obtain ⟨cs52, hok53, hE54⟩ := hS42.els hA51 ((d % T.n : Nat) : Int) (by omega) (by omega)
  refine V.pe0 ?_
  refine V.run h44 [(0, .ix g49 o50 T.n c39 .i64 ((d % T.n : Nat) : Int) 2 hA51)] 1 1 0 [(22, .pointer (some ⟨g49, o50 + ((d % T.n : Nat) : Int).toNat * 2, none⟩))] fun a h55 => ?_
  obtain rfl : cs52 = [.string (at_ itI ((T.a ++ T.b).flatten) ((d % T.n : Nat) : Int)).1, .int .i64 (at_ itI ((T.a ++ T.b).flatten) ((d % T.n : Nat) : Int)).2] := hok53
  refine V.se h55 [(0, .ls ⟨g49, o50 + ((d % T.n : Nat) : Int).toNat * 2, none⟩ [.string ((at_ itI ((T.a ++ T.b).flatten) ((d % T.n : Nat) : Int)).1), .int .i64 ((at_ itI ((T.a ++ T.b).flatten) ((d % T.n : Nat) : Int)).2)] (hE54.cells 0 _ rfl))] 1 0 [(23, .agg #[.string ((at_ itI ((T.a ++ T.b).flatten) ((d % T.n : Nat) : Int)).1), .int .i64 ((at_ itI ((T.a ++ T.b).flatten) ((d % T.n : Nat) : Int)).2)])] fun a h56 => ?_
  refine V.go (V.stn b4 0 (.agg #[.string ((at_ itI ((T.a ++ T.b).flatten) ((d % T.n : Nat) : Int)).1), .int .i64 ((at_ itI ((T.a ++ T.b).flatten) ((d % T.n : Nat) : Int)).2)]) [.string ((at_ itI ((T.a ++ T.b).flatten) ((d % T.n : Nat) : Int)).1), .int .i64 ((at_ itI ((T.a ++ T.b).flatten) ((d % T.n : Nat) : Int)).2)] h56.e h56.e rfl rfl (by kernel_rfl) hB6_48 (by simp) [.string ((at_ itI ((T.a ++ T.b).flatten) ((d % T.n : Nat) : Int)).1), .int .i64 ((at_ itI ((T.a ++ T.b).flatten) ((d % T.n : Nat) : Int)).2)] rfl ?_)
  intro w57 hB58 hF59 hsw57
  have hF_60 := hF_45.own hF59 (by simp <;> omega)
  refine V.eh trivial ?_
  refine V.pz h56 [] 1 0 [(5, .bool true)] fun a h65 => k30 _ _ ?_
  refine V.ret ?_
  refine V.retCT h65.sd rfl _ (h65.e (v := (.pointer (some ⟨b4, 0, none⟩)))) (V.run_loadVar_agg (cs := [.string ((at_ itI ((T.a ++ T.b).flatten) ((d % T.n : Nat) : Int)).1), .int .i64 ((at_ itI ((T.a ++ T.b).flatten) ((d % T.n : Nat) : Int)).2)]) (by kernel_rfl) (blk_cells hB58 0 _ rfl)) (h65.e (v := (.bool true))) ?_
  refine ⟨?_, hF_60⟩
  unfold pickT
  rw [if_neg (by omega)]; rfl
def encP (x : ByteArray × Int) : Array Value := #[.string x.1, .int .i64 x.2]
theorem pick_at {T : Tb Int} {d : Nat} {pre rest : List (ByteArray × Int)} {x : ByteArray × Int} (h : pre ++ [x] ++ rest = (T.a ++ T.b).flatten) (hn : T.n ≠ 0) (hd : pre.length = d % T.n) : (pickT (⟨#[]⟩, 0) T d).1 = x := by
  unfold pickT
  rw [if_neg hn, ← h, ← hd]
  simp
theorem all1_iter (w : World) (H : Nat → Prop) (av : List Nat) (t : Nat) (T : Tb Int) (hT : TabX 67 87 86 itI w H av t T) (hHb : ∀ k, H k → k < w.heap.size) (b : Nat) (hB : Blk w b [.pointer (some ⟨t, 0, none⟩)] 28) :
    IterP Try.prog 69 #[.pointer (some ⟨b, 0, none⟩)] encP (fun _ _ _ => True) (fun xs => xs = (T.a ++ T.b).flatten) (fun pre => ∃ rest, pre ++ rest = (T.a ++ T.b).flatten) (fun k => k = b ∨ w.heap.size + 2 ≤ k) w := by
  intro W1 f hsz l J Jx hY h0
  refine (all1_any W1 H av t T (hT.fr0 f) (fun k hk => by have := hHb k hk; omega) b (hB.fr0 f) (.func (.yield l) #[] #[]) (fun n pre W => ∃ W0, J pre W0 ∧ Fr [] W0 W) (fun n pre W => Jx pre W) ?_ ?_ ?_).mono ?_
  · rintro n pre W W' ⟨W0, hj, hf⟩ f'
    exact ⟨W0, hj, hf.trans f' (by simp)⟩
  · intro W2 f'
    exact ⟨W1, h0, f'⟩
  · rintro n pre x W hn hnl ⟨W0, hj, hf⟩ ⟨rest, hr⟩
    refine .inl ⟨l, rfl, (hY pre x W0 W hj hf trivial ⟨rest, by simpa using hr⟩).mono ?_⟩
    rintro e W' (⟨he, hj', hk⟩ | ⟨he, hj'⟩)
    · exact .inl ⟨he, ⟨W', hj', Fr.refl _ _⟩, hk.1, fun k hlt hK => hk.2 k hlt (.inr (by omega))⟩
    · exact .inr ⟨he, hj'⟩
  · rintro e W' ⟨he, ⟨n, hn, W0, hj, hf⟩ | ⟨n, pre, hn, hp, hj⟩⟩
    · exact ⟨he, .inl ⟨_, W0, rfl, hj, hf⟩⟩
    · exact ⟨he, .inr ⟨pre, W', hp, hj, Fr.refl _ _⟩⟩
theorem pick_any (w : World) (H : Nat → Prop) (av : List Nat) (t : Nat) (T : Tb Int) (hT : TabX 67 87 86 itI w H av t T) (hHb : ∀ k, H k → k < w.heap.size) (d : Nat) (hd : d < 18446744073709551616) : Calls Try.prog 37 #[.pointer (some ⟨t, 0, none⟩), .int .u64 (d : Int)] w (fun e w' => e = .returned (.tuple #[.string (pickT (⟨#[]⟩, 0) T d).1.1, .int .i64 (pickT (⟨#[]⟩, 0) T d).1.2, .bool (pickT (⟨#[]⟩, 0) T d).2]) ∧ Fr [] w w') := by
 have hF := Fr.refl [] w
 obtain ⟨p0, p1, p2, p3, hB⟩ := hT.blkN
 have hcn := hT.1.cn
 have hnn := hT.1.nn
 have hltt := hB.lt
 refine V.enM 34 Try.func37 fun a h1 => ?_
 refine V.sg fun K2 k3 => ?_
 refine V.go (V.mk [] trivial (by kernel_rfl) [.string ⟨#[]⟩] 9 (fun b => .pointer (some ⟨b, 0, none⟩)) (by kernel_rfl) ?_)
 intro w5 b4 heb4 hB6 hF7 hsb4
 have hF_8 := hF.new hF7
 have hT_9 := hT.alloc hF7 heb4 (by omega)
 have hB_10 := hB.fr0 hF7
 refine V.pt h1 fun a h11 => ?_
 refine V.go (V.mk [] trivial (by kernel_rfl) [.int .i64 0] 3 (fun b => .pointer (some ⟨b, 0, none⟩)) (by kernel_rfl) ?_)
 intro w13 b12 heb12 hB14 hF15 hsb12
 have hF_16 := hF_8.new hF15
 have hT_17 := hT_9.alloc hF15 heb12 (by omega)
 have hB_18 := hB_10.fr0 hF15
 have hB6_19 := hB6.fr0 hF15
 refine V.pt h11 fun a h20 => ?_
 refine V.go (V.mk [] trivial (by kernel_rfl) [.bool false] 4 (fun b => .pointer (some ⟨b, 0, none⟩)) (by kernel_rfl) ?_)
 intro w22 b21 heb21 hB23 hF24 hsb21
 have hF_25 := hF_16.new hF24
 have hT_26 := hT_17.alloc hF24 heb21 (by omega)
 have hB_27 := hB_18.fr0 hF24
 have hB6_28 := hB6_19.fr0 hF24
 have hB14_29 := hB14.fr0 hF24
 refine V.pt h20 fun a h30 => ?_
 refine V.nt (k3 _ _ ?_)
 refine V.sr h30 [] 1 0 [(7, .int .i64 0)] fun a h33 => ?_
 refine V.seq fun K34 k35 => ?_
 refine V.sg fun K36 k37 => ?_
 refine V.run h33 [] 1 1 0 [(11, .pointer (some ⟨t, 0, none⟩))] fun a h38 => ?_
 refine V.cl h38 (Go.Proofs.enters_of Try.func18 (by kernel_rfl) rfl) (len_any w22 (H) (b21 :: b12 :: b4 :: av) t (T) hT_26) ?_
 rintro _ w40 ⟨rfl, hF39⟩
 refine ⟨_, rfl, fun a h41 => ?_⟩
 have hsw40 := hF39.size
 have hF_42 := hF_25.new hF39
 have hT_43 := hT_26.fr0 hF39
 have hB_44 := hB_27.fr0 hF39
 have hB6_45 := hB6_28.fr0 hF39
 have hB14_46 := hB14_29.fr0 hF39
 have hB23_47 := hB23.fr0 hF39
 refine V.re h41 [(0, .eq (T.n : Int) 0)] 1 0 [(13, .bool (decide ((T.n : Int) = 0)))] fun a h48 => k37 _ _ ?_
 refine V.cp h48 ((T.n : Int) = 0) (fun ht49 => ?_) (fun ht49 => ?_)
 ·
  refine V.sg fun K50 k51 => ?_
  refine V.run h48 [] 1 1 0 [(14, .int .i64 0)] fun a h55 => ?_
  refine V.go (V.stn b4 0 (.string ⟨#[]⟩) [.string ⟨#[]⟩] h55.e evc rfl rfl (by kernel_rfl) hB6_45 (by simp) [.string ⟨#[]⟩] rfl ?_)
  intro w52 hB53 hF54 hsw52
  have hF_56 := hF_42.own hF54 (by simp <;> omega)
  have hB14_59 := hB14_46.fr1 hF54 (by omega)
  have hB23_60 := hB23_47.fr1 hF54 (by omega)
  refine V.go (V.stn b12 0 (.int .i64 0) [.int .i64 0] h55.e h55.e rfl rfl (by kernel_rfl) hB14_59 (by simp) [.int .i64 0] rfl ?_)
  intro w61 hB62 hF63 hsw61
  have hF_64 := hF_56.own hF63 (by simp <;> omega)
  have hB23_67 := hB23_60.fr1 hF63 (by omega)
  have hB53_68 := hB53.fr1 hF63 (by omega)
  refine V.go (V.stn b21 0 (.bool false) [.bool false] h55.e evc rfl rfl (by kernel_rfl) hB23_67 (by simp) [.bool false] rfl ?_)
  intro w69 hB70 hF71 hsw69
  have hF_72 := hF_64.own hF71 (by simp <;> omega)
  have hB53_75 := hB53_68.fr1 hF71 (by omega)
  have hB62_76 := hB62.fr1 hF71 (by omega)
  refine V.nt (k51 _ _ ?_)
  refine V.ret (V.then_r ?_)
  refine V.retM0 h55.sd ⟨_, V.resCCC rfl _ _ _ (h55.e (v := (.pointer (some ⟨b4, 0, none⟩)))) (h55.e (v := (.pointer (some ⟨b12, 0, none⟩)))) (h55.e (v := (.pointer (some ⟨b21, 0, none⟩)))) (V.run_loadVar_scalar (by kernel_rfl) (hB53_75.at 0 rfl)) (V.run_loadVar_scalar (by kernel_rfl) (hB62_76.at 0 rfl)) (V.run_loadVar_scalar (by kernel_rfl) (hB70.at 0 rfl)), ?_⟩
  refine ⟨?_, hF_72⟩
  unfold pickT
  rw [if_pos (by omega)]
 ·
  refine V.skip ?_
  refine V.then_n (k35 _ _ ?_)
  refine V.seq fun K77 k78 => ?_
  have hmod := Nat.mod_lt d (show 0 < T.n by omega)
  refine V.rg ?_
  refine V.run h48 [(4, .b hB_44 4), (0, .q (.int .u64 (T.n : Int)) (V.w_u64 (by omega) (by omega))), (0, .remN .u64 d T.n), (0, .q (.int .i64 ((d % T.n : Nat) : Int)) (V.w_i64 (by omega) (by omega)))] 8 15 21 [(22, .int .i64 ((d % T.n : Nat) : Int))] fun a h83 => ?_
  refine V.go (V.mk [] trivial (by kernel_rfl) [.int .i64 0] 3 (fun b => .pointer (some ⟨b, 0, none⟩)) (by kernel_rfl) ?_)
  intro w80 b79 heb79 hB81 hF82 hsb79
  have hF_84 := hF_42.new hF82
  have hT_85 := hT_43.alloc hF82 heb79 (by omega)
  have hB6_87 := hB6_45.fr0 hF82
  have hB14_88 := hB14_46.fr0 hF82
  have hB23_89 := hB23_47.fr0 hF82
  refine V.pt h83 fun a h90 => ?_
  refine V.go (V.stn b79 0 (.int .i64 ((d % T.n : Nat) : Int)) [.int .i64 ((d % T.n : Nat) : Int)] h90.e h90.e rfl rfl (by kernel_rfl) hB81 (by simp) [.int .i64 ((d % T.n : Nat) : Int)] rfl ?_)
  intro w91 hB92 hF93 hsw91
  have hF_94 := hF_84.own hF93 (by simp <;> omega)
  have hT_95 := hT_85.fr hF93 (by intro k hk; simp only [List.mem_singleton] at hk; subst hk; exact .inl (by simp))
  have hB6_97 := hB6_87.fr1 hF93 (by omega)
  have hB14_98 := hB14_88.fr1 hF93 (by omega)
  have hB23_99 := hB23_89.fr1 hF93 (by omega)
  refine V.nt (k78 _ _ ?_)
  refine V.seq fun K100 k101 => ?_
  refine V.sg fun K102 k103 => ?_
  refine V.run h90 [] 1 1 0 [(23, .pointer (some ⟨t, 0, none⟩))] fun a h104 => ?_
  refine V.cl h104 (Go.Proofs.enters_of Try.func43 (by kernel_rfl) rfl) (all_any w91 (some ⟨t, 0, none⟩)) ?_
  rintro _ w108 ⟨b107, rfl, hB106, hleb107, hF105⟩
  refine ⟨_, rfl, fun a h109 => ?_⟩
  have hsw108 := hF105.size
  have hF_110 := hF_94.new hF105
  have hT_111 := hT_95.fr0 hF105
  have hB6_113 := hB6_97.fr0 hF105
  have hB14_114 := hB14_98.fr0 hF105
  have hB23_115 := hB23_99.fr0 hF105
  have hB92_116 := hB92.fr0 hF105
  have hlthB106 := hB106.lt
  refine V.nt (k103 _ _ ?_)
  refine V.block ?_
  refine V.rngP h109.sd h109.e (Go.Proofs.enters_of Try.func69 (by kernel_rfl) rfl) (KB := fun k => k = b107 ∨ w108.heap.size + 2 ≤ k) (fun k hk => by (try dsimp only at hk); omega) (all1_iter w108 (H) (b79 :: b21 :: b12 :: b4 :: av) t (T) hT_111 (fun k hk => by have := hHb k hk; omega) b107 hB106) (fun _ => rfl) (fun (pre : List (ByteArray × Int)) W_ => Blk W_ b79 [.int .i64 (((d % T.n : Nat) : Int) - (pre.length : Int))] 3 ∧ Blk W_ b4 [.string ⟨#[]⟩] 9 ∧ Blk W_ b12 [.int .i64 0] 3 ∧ Blk W_ b21 [.bool false] 4 ∧ Fr [] w W_ ∧ (pre.length ≤ d % T.n)) (fun c pre W_ => c = Code.ret ∧ ∃ (z8 : Int), Blk W_ b79 [.int .i64 z8] 3 ∧ Blk W_ b4 [.string ((pickT (⟨#[]⟩, 0) T d).1.1)] 9 ∧ Blk W_ b12 [.int .i64 ((pickT (⟨#[]⟩, 0) T d).1.2)] 3 ∧ Blk W_ b21 [.bool true] 4 ∧ Fr [] w W_) ?_ ?_ ?_ ?_ ?_ ?_
  ·
   rintro pre W W1 ⟨hB8, hB4, hB5, hB6, hFr, hat⟩ hf
   have := hB8.lt
   have := hB4.lt
   have := hB5.lt
   have := hB6.lt
   have := hFr.size
   exact ⟨(by exact hB8.fr1 hf (by omega)), (by exact hB4.fr1 hf (by omega)), (by exact hB5.fr1 hf (by omega)), (by exact hB6.fr1 hf (by omega)), (by exact hFr.own hf (by simp <;> omega)), hat⟩
  ·
   rintro c pre W W1 ⟨hc, z8, hB8, hB4, hB5, hB6, hFr⟩ hf
   have := hB8.lt
   have := hB4.lt
   have := hB5.lt
   have := hB6.lt
   have := hFr.size
   exact ⟨hc, z8, (by exact hB8.fr1 hf (by omega)), (by exact hB4.fr1 hf (by omega)), (by exact hB5.fr1 hf (by omega)), (by exact hB6.fr1 hf (by omega)), (by exact hFr.own hf (by simp <;> omega))⟩
  ·
   rintro W hf hszW
   have hF_117 := hF_110.new hf
   have hB6_120 := hB6_113.fr0 hf
   have hB14_121 := hB14_114.fr0 hf
   have hB23_122 := hB23_115.fr0 hf
   have hB92_123 := hB92_116.fr0 hf
   exact ⟨(by simpa using hB92_123), hB6_120, hB14_121, hB23_122, hF_117, (by simp)⟩
  ·
   rintro l pre x W0 W hl ⟨hB8, hB4, hB5, hB6, hFr, hat⟩ hfr hx hsp hsz a1 hz1 htm
   subst hl
   
   have hszfr := hfr.size
   have hlt125 := hB8.lt
   have hlt126 := hB4.lt
   have hlt127 := hB5.lt
   have hlt128 := hB6.lt
   have hfs129 := hFr.size
   have hB8_130 := hB8.fr0 hfr
   have hB4_131 := hB4.fr0 hfr
   have hB5_132 := hB5.fr0 hfr
   have hB6_133 := hB6.fr0 hfr
   have hFr_134 := hFr.new hfr
   have hK := KeptP.refl (fun k => k = w108.heap.size ∨ k = w108.heap.size + 1 ∨ (k = b107 ∨ w108.heap.size + 2 ≤ k)) W
   have htm1 : a1.tmps = (a.tmps.setIfInBounds 25 (.string x.1)).setIfInBounds 26 (.int .i64 x.2) := by simpa [encP] using htm
   have s25 : a1.eval (.tmp 25) = (.string x.1) := par2_fst h109.sd rfl rfl htm1
   have hE := (En.nil hz1).add s25
   have s26 : a1.eval (.tmp 26) = (.int .i64 x.2) := par2_snd h109.sd rfl htm1
   replace hE := hE.add s26
   have s4_135 : a1.eval (.tmp 4) = (.pointer (some ⟨b4, 0, none⟩)) := par2_other htm1 rfl rfl h109.e
   replace hE := hE.add s4_135
   have s5_136 : a1.eval (.tmp 5) = (.pointer (some ⟨b12, 0, none⟩)) := par2_other htm1 rfl rfl h109.e
   replace hE := hE.add s5_136
   have s6_137 : a1.eval (.tmp 6) = (.pointer (some ⟨b21, 0, none⟩)) := par2_other htm1 rfl rfl h109.e
   replace hE := hE.add s6_137
   have s7_138 : a1.eval (.tmp 7) = (.int .i64 0) := par2_other htm1 rfl rfl h109.e
   replace hE := hE.add s7_138
   have s8_139 : a1.eval (.tmp 8) = (.pointer (some ⟨b79, 0, none⟩)) := par2_other htm1 rfl rfl h109.e
   replace hE := hE.add s8_139
   refine V.sr hE [] 1 0 [(9, .string x.1)] fun a h142 => ?_
   refine V.rr h142 [] 1 0 [(10, .int .i64 x.2)] fun a h143 => ?_
   refine ⟨hK, fun W2 hf2 => ?_⟩
   have hszf2 := hf2.size
   have hB8_144 := hB8_130.fr1 hf2 (by omega)
   have hB4_145 := hB4_131.fr1 hf2 (by omega)
   have hB5_146 := hB5_132.fr1 hf2 (by omega)
   have hB6_147 := hB6_133.fr1 hf2 (by omega)
   have hFr_148 := hFr_134.own hf2 (by simp <;> omega)
   have hK2 := KeptP.refl (fun k => k = w108.heap.size ∨ k = w108.heap.size + 1 ∨ (k = b107 ∨ w108.heap.size + 2 ≤ k)) W2
   refine V.block ?_
   refine V.seq fun K149 k150 => ?_
   refine V.sr h143 [(0, .b hB8_144 0), (0, .eq (((d % T.n : Nat) : Int) - (pre.length : Int)) 0)] 27 27 [(28, .bool (decide ((((d % T.n : Nat) : Int) - (pre.length : Int)) = 0)))] fun a h153 => ?_
   refine V.cp h153 ((((d % T.n : Nat) : Int) - (pre.length : Int)) = 0) (fun ht154 => ?_) (fun ht154 => ?_)
   ·
    refine V.sg fun K155 k156 => ?_
    refine V.run h153 [] 2 1 0 [(29, .string x.1), (30, .int .i64 x.2)] fun a h160 => ?_
    refine V.go (V.stn b4 0 (.string x.1) [.string x.1] h160.e h160.e rfl rfl (by kernel_rfl) hB4_145 (by simp) [.string x.1] rfl ?_)
    intro w157 hB158 hF159 hsw157
    have hB8_161 := hB8_144.fr1 hF159 (by omega)
    have hB5_162 := hB5_146.fr1 hF159 (by omega)
    have hB6_163 := hB6_147.fr1 hF159 (by omega)
    have hFr_164 := hFr_148.own hF159 (by simp <;> omega)
    have hK2_165 := hK2.fr hF159 (by intro k hk; simp only [List.mem_singleton] at hk; subst hk; intro h; (try dsimp only at h); omega)
    refine V.go (V.stn b12 0 (.int .i64 x.2) [.int .i64 x.2] h160.e h160.e rfl rfl (by kernel_rfl) hB5_162 (by simp) [.int .i64 x.2] rfl ?_)
    intro w166 hB167 hF168 hsw166
    have hB8_169 := hB8_161.fr1 hF168 (by omega)
    have hB6_170 := hB6_163.fr1 hF168 (by omega)
    have hFr_171 := hFr_164.own hF168 (by simp <;> omega)
    have hK2_172 := hK2_165.fr hF168 (by intro k hk; simp only [List.mem_singleton] at hk; subst hk; intro h; (try dsimp only at h); omega)
    have hB158_173 := hB158.fr1 hF168 (by omega)
    refine V.go (V.stn b21 0 (.bool true) [.bool true] h160.e evc rfl rfl (by kernel_rfl) hB6_170 (by simp) [.bool true] rfl ?_)
    intro w174 hB175 hF176 hsw174
    have hB8_177 := hB8_169.fr1 hF176 (by omega)
    have hFr_178 := hFr_171.own hF176 (by simp <;> omega)
    have hK2_179 := hK2_172.fr hF176 (by intro k hk; simp only [List.mem_singleton] at hk; subst hk; intro h; (try dsimp only at h); omega)
    have hB158_180 := hB158_173.fr1 hF176 (by omega)
    have hB167_181 := hB167.fr1 hF176 (by omega)
    refine V.nt (k156 _ _ ?_)
    refine V.ret (V.then_r (V.blk_r ?_))
    obtain ⟨rest, hrest⟩ := hsp
    have hpk : (pickT (⟨#[]⟩, 0) T d).1 = x := pick_at hrest (by omega) (by omega)
    exact ⟨hK2_179, rfl, _, hB8_177, (by rw [hpk]; exact hB158_180), (by rw [hpk]; exact hB167_181), hB175, hFr_178⟩
   ·
    refine V.skip ?_
    refine V.then_n (k150 _ _ ?_)
    refine V.rg ?_
    refine V.run h153 [(0, .b hB8_144 0), (0, .i ((((d % T.n : Nat) : Int) - (pre.length : Int)) - 1))] 2 31 31 [(32, .int .i64 ((((d % T.n : Nat) : Int) - (pre.length : Int)) - 1))] fun a h185 => ?_
    refine V.go (V.stn b79 0 (.int .i64 ((((d % T.n : Nat) : Int) - (pre.length : Int)) - 1)) [.int .i64 ((((d % T.n : Nat) : Int) - (pre.length : Int)) - 1)] h185.e h185.e rfl rfl (by kernel_rfl) hB8_144 (by simp) [.int .i64 ((((d % T.n : Nat) : Int) - (pre.length : Int)) - 1)] rfl ?_)
    intro w182 hB183 hF184 hsw182
    have hB4_186 := hB4_145.fr1 hF184 (by omega)
    have hB5_187 := hB5_146.fr1 hF184 (by omega)
    have hB6_188 := hB6_147.fr1 hF184 (by omega)
    have hFr_189 := hFr_148.own hF184 (by simp <;> omega)
    have hK2_190 := hK2.fr hF184 (by intro k hk; simp only [List.mem_singleton] at hk; subst hk; intro h; (try dsimp only at h); omega)
    refine V.nil ?_
    refine V.blk_n ?_
    exact ⟨hK2_190, (by rw [show ((d % T.n : Nat) : Int) - ((pre ++ [x]).length : Int) = ((d % T.n : Nat) : Int) - (pre.length : Int) - 1 by simp; omega]; exact hB183), hB4_186, hB5_187, hB6_188, hFr_189, (by simp; omega)⟩
  ·
   rintro xs W hS ⟨hB8, hB4, hB5, hB6, hFr, hat⟩ hD a2 hz2 htm2
   obtain ⟨pre, hprexs⟩ : ∃ pre, pre = xs := ⟨_, rfl⟩; subst hprexs
   have hE := En.nil hz2
   have hlt191 := hB8.lt
   have hlt192 := hB4.lt
   have hlt193 := hB5.lt
   have hlt194 := hB6.lt
   have hfs195 := hFr.size
   have hDf : Df W (w108.heap.size) := hD
   have hDlt := (Array.getElem?_eq_some_iff.1 hD).1
   have s4_196 : a2.eval (.tmp 4) = (.pointer (some ⟨b4, 0, none⟩)) := par_tm htm2 h109.e
   replace hE := hE.add s4_196
   have s5_197 : a2.eval (.tmp 5) = (.pointer (some ⟨b12, 0, none⟩)) := par_tm htm2 h109.e
   replace hE := hE.add s5_197
   have s6_198 : a2.eval (.tmp 6) = (.pointer (some ⟨b21, 0, none⟩)) := par_tm htm2 h109.e
   replace hE := hE.add s6_198
   have s7_199 : a2.eval (.tmp 7) = (.int .i64 0) := par_tm htm2 h109.e
   replace hE := hE.add s7_199
   refine V.blk_n ?_
   refine V.then_n (k101 _ _ ?_)
   refine V.sg fun K200 k201 => ?_
   refine V.run hE [] 1 1 0 [(33, .int .i64 0)] fun a h205 => ?_
   refine V.go (V.stn b4 0 (.string ⟨#[]⟩) [.string ⟨#[]⟩] h205.e evc rfl rfl (by kernel_rfl) hB4 (by simp) [.string ⟨#[]⟩] rfl ?_)
   intro w202 hB203 hF204 hsw202
   have hB5_207 := hB5.fr1 hF204 (by omega)
   have hB6_208 := hB6.fr1 hF204 (by omega)
   have hDf_210 := hDf.fr hF204 (by simp <;> omega)
   refine V.go (V.stn b12 0 (.int .i64 0) [.int .i64 0] h205.e h205.e rfl rfl (by kernel_rfl) hB5_207 (by simp) [.int .i64 0] rfl ?_)
   intro w211 hB212 hF213 hsw211
   have hB6_215 := hB6_208.fr1 hF213 (by omega)
   have hDf_217 := hDf_210.fr hF213 (by simp <;> omega)
   have hB203_218 := hB203.fr1 hF213 (by omega)
   refine V.go (V.stn b21 0 (.bool false) [.bool false] h205.e evc rfl rfl (by kernel_rfl) hB6_215 (by simp) [.bool false] rfl ?_)
   intro w219 hB220 hF221 hsw219
   have hDf_224 := hDf_217.fr hF221 (by simp <;> omega)
   have hB203_225 := hB203_218.fr1 hF221 (by omega)
   have hB212_226 := hB212.fr1 hF221 (by omega)
   refine V.nt (k201 _ _ ?_)
   refine V.ret ?_
   refine V.retM h205.sd hDf_224 (fun w227 hF228 => ?_)
   have hsw227 := hF228.size
   have hB203_231 := hB203_225.fr1 hF228 (by omega)
   have hB212_232 := hB212_226.fr1 hF228 (by omega)
   have hB220_233 := hB220.fr1 hF228 (by omega)
   refine ⟨_, V.resCCC rfl _ _ _ (h205.e (v := (.pointer (some ⟨b4, 0, none⟩)))) (h205.e (v := (.pointer (some ⟨b12, 0, none⟩)))) (h205.e (v := (.pointer (some ⟨b21, 0, none⟩)))) (V.run_loadVar_scalar (by kernel_rfl) (hB203_231.at 0 rfl)) (V.run_loadVar_scalar (by kernel_rfl) (hB212_232.at 0 rfl)) (V.run_loadVar_scalar (by kernel_rfl) (hB220_233.at 0 rfl)), ?_⟩
   exact absurd (congrArg List.length hS) (by rw [hcn]; omega)
  ·
   rintro c pre W hSp ⟨hc, z8, hB8, hB4, hB5, hB6, hFr⟩ hD a2 hz2 htm2
   subst hc
   have hE := En.nil hz2
   have hlt234 := hB8.lt
   have hlt235 := hB4.lt
   have hlt236 := hB5.lt
   have hlt237 := hB6.lt
   have hfs238 := hFr.size
   have hDf : Df W (w108.heap.size) := hD
   have hDlt := (Array.getElem?_eq_some_iff.1 hD).1
   have s4_239 : a2.eval (.tmp 4) = (.pointer (some ⟨b4, 0, none⟩)) := par_tm htm2 h109.e
   replace hE := hE.add s4_239
   have s5_240 : a2.eval (.tmp 5) = (.pointer (some ⟨b12, 0, none⟩)) := par_tm htm2 h109.e
   replace hE := hE.add s5_240
   have s6_241 : a2.eval (.tmp 6) = (.pointer (some ⟨b21, 0, none⟩)) := par_tm htm2 h109.e
   replace hE := hE.add s6_241
   have s7_242 : a2.eval (.tmp 7) = (.int .i64 0) := par_tm htm2 h109.e
   replace hE := hE.add s7_242
   refine V.ret (V.blk_r (V.then_r ?_))
   refine V.retM hE.sd hDf (fun w243 hF244 => ?_)
   have hsw243 := hF244.size
   have hB4_246 := hB4.fr1 hF244 (by omega)
   have hB5_247 := hB5.fr1 hF244 (by omega)
   have hB6_248 := hB6.fr1 hF244 (by omega)
   have hFr_249 := hFr.own hF244 (by simp <;> omega)
   refine ⟨_, V.resCCC rfl _ _ _ (hE.e (v := (.pointer (some ⟨b4, 0, none⟩)))) (hE.e (v := (.pointer (some ⟨b12, 0, none⟩)))) (hE.e (v := (.pointer (some ⟨b21, 0, none⟩)))) (V.run_loadVar_scalar (by kernel_rfl) (hB4_246.at 0 rfl)) (V.run_loadVar_scalar (by kernel_rfl) (hB5_247.at 0 rfl)) (V.run_loadVar_scalar (by kernel_rfl) (hB6_248.at 0 rfl)), ?_⟩
   refine ⟨?_, hFr_249⟩
   have hpo : (pickT (⟨#[]⟩, 0) T d).2 = true := by (unfold pickT; rw [if_neg (by omega)])
   rw [hpo]
/-- An act, as data. -/
structure OpD where
  kind : Int
  key : ByteArray
  v : Int
  draw : Nat
def OpD.ok (o : OpD) : Prop := (-9223372036854775808 ≤ o.kind ∧ o.kind ≤ 9223372036854775807) ∧ o.key.size ≤ 9223372036854775807 ∧ (-9223372036854775808 ≤ o.v ∧ o.v ≤ 9223372036854775807) ∧ o.draw < 18446744073709551616
def actT (T : Tb Int) (o : OpD) : Tb Int :=
  if o.kind = 1 then putT T (keyS o.key) o.v else if o.kind = 2 then tbStep T else if o.kind = 3 then delT T (keyS o.key) else if o.kind = 5 then tbStep T else T
theorem act1 {T : Tb Int} {o : OpD} (h : o.kind = 1) : actT T o = putT T (keyS o.key) o.v := by unfold actT; rw [if_pos h]
theorem act2 {T : Tb Int} {o : OpD} (h : o.kind = 2) : actT T o = tbStep T := by unfold actT; rw [if_neg (by omega), if_pos h]
theorem act3 {T : Tb Int} {o : OpD} (h : o.kind = 3) : actT T o = delT T (keyS o.key) := by unfold actT; rw [if_neg (by omega), if_neg (by omega), if_pos h]
theorem act5 {T : Tb Int} {o : OpD} (h : o.kind = 5) : actT T o = tbStep T := by unfold actT; rw [if_neg (by omega), if_neg (by omega), if_neg (by omega), if_pos h]
theorem act0 {T : Tb Int} {o : OpD} (h1 : ¬ o.kind = 1) (h2 : ¬ o.kind = 2) (h3 : ¬ o.kind = 3) (h5 : ¬ o.kind = 5) : actT T o = T := by unfold actT; rw [if_neg h1, if_neg h2, if_neg h3, if_neg h5]
/-- What holds of a table behind N acts. -/
structure Gd {α : Type} (T : Tb α) (N : Nat) : Prop where
  ok : T.Ok
  mv : T.Mv
  pw : T.Pw N
  nn : T.n ≤ N
theorem Gd.new {α : Type} {seed : Nat} (h : seed < 18446744073709551616) : Gd (newT seed : Tb α) 0 := ⟨(newT_ok h).1, (newT_ok h).2, newT_pw seed, Nat.le_refl _⟩
theorem Gd.raise {α : Type} {T : Tb α} {N M : Nat} (h : Gd T N) (hm : N ≤ M) : Gd T M := ⟨h.ok, h.mv, h.pw.mono hm, by have := h.nn; omega⟩
theorem key_le (s : ByteArray) : (keyS s).size ≤ 9223372036854775807 := by have := keyS_le s; omega
theorem Gd.step {α : Type} {T : Tb α} {N : Nat} (h : Gd T N) : Gd (tbStep T) N := ⟨(tbStep_ok h.ok h.mv).1, (tbStep_ok h.ok h.mv).2, tbStep_pw h.pw h.nn, by rw [tbStep_n']; exact h.nn⟩
theorem Gd.put {α : Type} {T : Tb α} {N : Nat} (h : Gd T N) (hN : N < 1000000) {k : ByteArray} (hk : k.size ≤ 9223372036854775807) (v : α) : Gd (putT T k v) (N + 1) := by
  have hn := h.nn
  have h1 := putT_ok h.ok h.mv (by omega) k hk v
  exact ⟨h1.1, h1.2, putT_pw (h.pw.mono (Nat.le_succ N)) (by omega) _ _, by have := putT_n T k v; omega⟩
theorem Gd.del {α : Type} {T : Tb α} {N : Nat} (h : Gd T N) (k : ByteArray) : Gd (delT T k) N := by
  have h1 := delT_ok h.ok h.mv k
  exact ⟨h1.1, h1.2, delT_pw h.pw h.nn _, by have := delT_n T k; have := h.nn; omega⟩
theorem Gd.act {T : Tb Int} {N : Nat} (h : Gd T N) (hN : N < 1000000) (o : OpD) : Gd (actT T o) (N + 1) := by
  unfold actT
  split
  · exact h.put hN (key_le _) _
  · split
    · exact h.step.raise (Nat.le_succ N)
    · split
      · exact (h.del _).raise (Nat.le_succ N)
      · split
        · exact h.step.raise (Nat.le_succ N)
        · exact h.raise (Nat.le_succ N)
theorem Gd.p8 {α : Type} {T : Tb α} {N : Nat} (h : Gd T N) : 4 < (tbStep T).a.length → (tbStep T).a.length % 8 = 0 := fun h4 => (h.step.pw.pa.half h4).2.2
/-- Blocks of a zone, but for some. -/
def zn (Z : Nat → Prop) (av : List Nat) : Nat → Prop := fun k => Z k ∧ k ∉ av
/-- Two tables apart from each other: the program's, the reference's; all their blocks lie in a zone. -/
def D2 (Z : Nat → Prop) (w : World) (av : List Nat) (t : Nat) (T : Tb Int) (r : Nat) (U : Tb Int) : Prop :=
  ∃ Ht Hr : Nat → Prop, TabX 67 87 86 itI w Ht av t T ∧ TabX 40 42 60 itI w Hr av r U ∧ (∀ k, Ht k → Z k ∧ k < w.heap.size ∧ ¬ Hr k) ∧ ∀ k, Hr k → Z k ∧ k < w.heap.size
section
variable {Z : Nat → Prop} {w w1 : World} {av av' : List Nat} {t r : Nat} {T U T' : Tb Int}
theorem D2.turnT (h : D2 Z w av t T r U) (hz : ∀ k, w.heap.size ≤ k → Z k) : ∃ H, TabX 67 87 86 itI w H av t T ∧ (∀ k, H k → k < w.heap.size) ∧ ∀ w1 T', TabX 67 87 86 itI w1 (gr H w w1) av t T' → FrP (gp H av) w w1 → D2 Z w1 av t T' r U ∧ FrP (zn Z av) w w1 := by
  obtain ⟨Ht, Hr, h1, h2, h3, h4⟩ := h
  refine ⟨Ht, h1, fun k hk => (h3 k hk).2.1, fun w1 T' h5 f => ?_⟩
  have hs := f.size
  have hlt := h2.lt
  exact ⟨⟨_, Hr, h5, h2.frP f fun k hk => .inr (h3 k hk.1).2.2, fun k hk => by
    rcases hk with hk | hk
    · exact ⟨(h3 k hk).1, by have := (h3 k hk).2.1; omega, (h3 k hk).2.2⟩
    · have h0 := h4 r h2.pt.1
      exact ⟨hz k hk.1, hk.2, fun hr => by have := (h4 k hr).2; omega⟩, fun k hk => ⟨(h4 k hk).1, by have := (h4 k hk).2; omega⟩⟩, f.mono fun k hk => ⟨(h3 k hk.1).1, hk.2⟩⟩
theorem D2.turnU (h : D2 Z w av t T r U) (hz : ∀ k, w.heap.size ≤ k → Z k) : ∃ H, TabX 40 42 60 itI w H av r U ∧ (∀ k, H k → k < w.heap.size) ∧ ∀ w1 U', TabX 40 42 60 itI w1 (gr H w w1) av r U' → FrP (gp H av) w w1 → D2 Z w1 av t T r U' ∧ FrP (zn Z av) w w1 := by
  obtain ⟨Ht, Hr, h1, h2, h3, h4⟩ := h
  refine ⟨Hr, h2, fun k hk => (h4 k hk).2, fun w1 U' h5 f => ?_⟩
  have hs := f.size
  have hlt := h1.lt
  exact ⟨⟨Ht, _, h1.frP f fun k hk => .inr fun ht => (h3 k ht).2.2 hk.1, h5, fun k hk => ⟨(h3 k hk).1, by have := (h3 k hk).2.1; omega, fun hr => by
    rcases hr with hr | hr
    · exact (h3 k hk).2.2 hr
    · have := (h3 k hk).2.1; omega⟩, fun k hk => by
    rcases hk with hk | hk
    · exact ⟨(h4 k hk).1, by have := (h4 k hk).2; omega⟩
    · have h0 := h3 t h1.pt.1
      exact ⟨hz k hk.1, hk.2⟩⟩, f.mono fun k hk => ⟨(h4 k hk.1).1, hk.2⟩⟩
theorem D2.fr (h : D2 Z w av t T r U) {l : List Nat} (f : Fr l w w1) (hl : ∀ k ∈ l, k ∈ av ∨ ¬ Z k) : D2 Z w1 av t T r U := by
  obtain ⟨Ht, Hr, h1, h2, h3, h4⟩ := h
  have hs := f.size
  exact ⟨Ht, Hr, h1.fr f fun k hk => (hl k hk).imp id fun q hq => q (h3 k hq).1, h2.fr f fun k hk => (hl k hk).imp id fun q hq => q (h4 k hq).1, fun k hk => ⟨(h3 k hk).1, by have := (h3 k hk).2.1; omega, (h3 k hk).2.2⟩, fun k hk => ⟨(h4 k hk).1, by have := (h4 k hk).2; omega⟩⟩
theorem D2.fr0 (h : D2 Z w av t T r U) (f : Fr [] w w1) : D2 Z w1 av t T r U := h.fr f fun k hk => by cases hk
theorem D2.alloc (h : D2 Z w av t T r U) (f : Fr [] w w1) {b : Nat} (hb : b = w.heap.size) (hlt : b < w1.heap.size) : D2 Z w1 (b :: av) t T r U := by
  obtain ⟨Ht, Hr, h1, h2, h3, h4⟩ := h
  have hs := f.size
  exact ⟨Ht, Hr, h1.alloc f hb hlt, h2.alloc f hb hlt, fun k hk => ⟨(h3 k hk).1, by have := (h3 k hk).2.1; omega, (h3 k hk).2.2⟩, fun k hk => ⟨(h4 k hk).1, by have := (h4 k hk).2; omega⟩⟩
theorem D2.sub (h : D2 Z w av t T r U) (hs : ∀ k ∈ av', k ∈ av) : D2 Z w av' t T r U := by
  obtain ⟨Ht, Hr, h1, h2, h3, h4⟩ := h
  exact ⟨Ht, Hr, h1.sub hs fun _ _ q => q, h2.sub hs fun _ _ q => q, h3, h4⟩
end
section
variable {P : Program} {Z : Nat → Prop} {w : World} {av : List Nat} {t r : Nat} {T U T' : Tb Int} {f : FuncId} {args : Array Value} {e0 : Ending}
theorem D2.wrT (h : D2 Z w av t T r U) (hz : ∀ k, w.heap.size ≤ k → Z k) (hc : ∀ H, TabX 67 87 86 itI w H av t T → (∀ k, H k → k < w.heap.size) → Calls P f args w (fun e w' => e = e0 ∧ TabX 67 87 86 itI w' (gr H w w') av t T' ∧ FrP (gp H av) w w')) :
    Calls P f args w (fun e w' => e = e0 ∧ D2 Z w' av t T' r U ∧ FrP (zn Z av) w w') := by
  obtain ⟨H, hq, hqb, hqk⟩ := h.turnT hz
  exact (hc H hq hqb).mono fun e w1 q => ⟨q.1, hqk _ _ q.2.1 q.2.2⟩
theorem D2.wrU (h : D2 Z w av t T r U) (hz : ∀ k, w.heap.size ≤ k → Z k) (hc : ∀ H, TabX 40 42 60 itI w H av r U → (∀ k, H k → k < w.heap.size) → Calls P f args w (fun e w' => e = e0 ∧ TabX 40 42 60 itI w' (gr H w w') av r T' ∧ FrP (gp H av) w w')) :
    Calls P f args w (fun e w' => e = e0 ∧ D2 Z w' av t T r T' ∧ FrP (zn Z av) w w') := by
  obtain ⟨H, hq, hqb, hqk⟩ := h.turnU hz
  exact (hc H hq hqb).mono fun e w1 q => ⟨q.1, hqk _ _ q.2.1 q.2.2⟩
theorem D2.rdT {R : Ending → World → Prop} (h : D2 Z w av t T r U) (hc : ∀ H, TabX 67 87 86 itI w H av t T → (∀ k, H k → k < w.heap.size) → Calls P f args w R) : Calls P f args w R := by
  obtain ⟨Ht, Hr, h1, h2, h3, h4⟩ := h
  exact hc Ht h1 fun k hk => (h3 k hk).2.1
theorem D2.rdU {R : Ending → World → Prop} (h : D2 Z w av t T r U) (hc : ∀ H, TabX 40 42 60 itI w H av r U → (∀ k, H k → k < w.heap.size) → Calls P f args w R) : Calls P f args w R := by
  obtain ⟨Ht, Hr, h1, h2, h3, h4⟩ := h
  exact hc Hr h2 fun k hk => (h4 k hk).2
end
theorem act_any (w : World) (Z : Nat → Prop) (av : List Nat) (t r : Nat) (T U : Tb Int) (N : Nat) (o : OpD) (hD : D2 Z w av t T r U) (hgT : Gd T N) (hgU : Gd U N) (hN : N < 1000000) (ho : o.ok) (hz : ∀ k, w.heap.size ≤ k → Z k) : Calls Try.prog 16 #[.pointer (some ⟨t, 0, none⟩), .pointer (some ⟨r, 0, none⟩), .agg #[.int .i64 o.kind, .string o.key, .int .i64 o.v, .int .u64 (o.draw : Int)]] w (fun e w' => ∃ b, e = .returned (.bool b) ∧ (T = U → b = true) ∧ D2 Z w' av t (actT T o) r (actT U o) ∧ FrP (zn Z av) w w') := by
 have hFP := FrP.refl (zn Z av) w
 obtain ⟨hkk, hks, hv, hd⟩ := ho
 refine V.en 131 Try.func16 fun a h1 => ?_
 refine V.sg fun K2 k3 => ?_
 refine V.go (V.mk [(2, .agg #[.int .i64 o.kind, .string o.key, .int .i64 o.v, .int .u64 (o.draw : Int)])] ⟨h1.e, trivial⟩ (by kernel_rfl) [.int .i64 o.kind, .string o.key, .int .i64 o.v, .int .u64 (o.draw : Int)] 34 (fun b => .pointer (some ⟨b, 0, none⟩)) (by kernel_rfl) ?_)
 intro w5 b4 heb4 hB6 hF7 hsb4
 have hD_8 := hD.alloc hF7 heb4 (by omega)
 have hFP_9 := hFP.tr0 hF7
 refine V.pt h1 fun a h10 => ?_
 refine V.re h10 [] 6 6 [] fun a h11 => k3 _ _ ?_
 refine V.sg fun K12 k13 => ?_
 refine V.run h11 [(1, .b hB6 1)] 2 21 21 [(22, .string o.key)] fun a h14 => ?_
 refine V.cl h14 (Go.Proofs.enters_of Try.func10 (by kernel_rfl) rfl) (key_any w5 o.key) ?_
 rintro _ w16 ⟨rfl, hF15⟩
 refine ⟨_, rfl, fun a h17 => ?_⟩
 have hsw16 := hF15.size
 have hD_18 := hD_8.fr0 hF15
 have hFP_19 := hFP_9.tr0 hF15
 have hB6_20 := hB6.fr0 hF15
 have hkey15 := keyS_le o.key
 refine V.re h17 [] 1 0 [(7, .string (keyS o.key))] fun a h21 => k13 _ _ ?_
 refine V.seq fun K22 k23 => ?_
 refine V.sr h21 [(1, .b hB6_20 0)] 24 24 [(25, .int .i64 o.kind)] fun a h26 => ?_
 refine V.block ?_
 refine V.sr h26 [(0, .eq o.kind 1)] 27 27 [(26, .bool (decide (o.kind = 1)))] fun a h29 => ?_
 refine V.cp h29 (o.kind = 1) (fun ht30 => ?_) (fun ht30 => ?_)
 ·
  refine V.seq fun K31 k32 => ?_
  refine V.pl [([0,1,2,3,5,6,7,8],some (4,[8])),([],some (9,[])),([10,11],none)] fun w33 hF34 hsw33 => ?_
  have hD_35 := hD_18.fr0 hF34
  have hFP_36 := hFP_19.tr0 hF34
  have hB6_37 := hB6_20.fr0 hF34
  refine V.pe h29 [(3, .b hB6_37 2), (3, .b hB6_37 2)] 30 30 [(28, .pointer (some ⟨t, 0, none⟩)), (29, .string (keyS o.key)), (31, .int .i64 o.v), (33, .pointer (some ⟨r, 0, none⟩)), (34, .string (keyS o.key)), (35, .pointer (some ⟨b4, 2, none⟩)), (36, .int .i64 o.v)] fun a h38 => ?_
  refine V.cl h38 (Go.Proofs.enters_of Try.func38 (by kernel_rfl) rfl) (hD_35.wrT (fun k hk => hz k (by omega)) (fun Hq hq hqb => put_any w33 Hq (b4 :: av) t (T) hq hgT.mv (keyS o.key) (by first | exact key_le _ | omega) o.v hv (by have := hgT.nn; omega))) ?_
  rintro _ w41 ⟨rfl, hD39, hfp40⟩
  refine ⟨_, rfl, fun a h42 => ?_⟩
  have hsw41 := hfp40.size
  have hFP_43 := hFP_36.trP hfp40 (fun k hk => .inl ⟨hk.1, fun hm => hk.2 (by simp [hm])⟩)
  have hB6_44 := hB6_37.frP hfp40 (by exact fun hp => hp.2 (by simp))
  refine V.eh (fun _ => held_blk (n := 1) (hx := (h38.e (v := (.pointer (some ⟨b4, 2, none⟩))))) hB6_37 hB6_44 (by kernel_rfl) rfl (by simp only [List.length]; omega)) ?_
  refine V.pe h42 [] 1 0 [] fun a h45 => ?_
  refine V.cl h45 (Go.Proofs.enters_of Try.func45 (by kernel_rfl) rfl) (hD39.wrU (fun k hk => hz k (by omega)) (fun Hq hq hqb => rput_any w41 Hq (b4 :: av) r (U) hq hgU.mv (keyS o.key) (by first | exact key_le _ | omega) o.v hv (by have := hgU.nn; omega))) ?_
  rintro _ w48 ⟨rfl, hD46, hfp47⟩
  refine ⟨_, rfl, fun a h49 => ?_⟩
  have hsw48 := hfp47.size
  have hFP_50 := hFP_43.trP hfp47 (fun k hk => .inl ⟨hk.1, fun hm => hk.2 (by simp [hm])⟩)
  refine V.eh trivial ?_
  refine V.pz h49 [(0, .q (.bool (decide (((findT (tbStep T) (keyS o.key)).2) = ((findT (tbStep U) (keyS o.key)).2)))) V.t_beql)] 38 38 [(6, .bool (decide (((findT (tbStep T) (keyS o.key)).2) = ((findT (tbStep U) (keyS o.key)).2))))] fun a h52 => k32 _ _ ?_
  refine V.ret (V.blk_r (V.then_r ?_))
  refine V.r1 h52 (.bool (decide (((findT (tbStep T) (keyS o.key)).2) = ((findT (tbStep U) (keyS o.key)).2)))) ?_
  rw [act1 (T := T) ht30, act1 (T := U) ht30]
  exact ⟨_, rfl, fun h => decide_eq_true (by rw [h]), hD46.sub (by intro k hk; simp [hk]), hFP_50⟩
 ·
  refine V.sr h29 [(0, .eq o.kind 2)] 40 40 [(39, .bool (decide (o.kind = 2)))] fun a h55 => ?_
  refine V.cp h55 (o.kind = 2) (fun ht56 => ?_) (fun ht56 => ?_)
  ·
   refine V.sg fun K57 k58 => ?_
   refine V.run h55 [] 2 1 0 [(42, .pointer (some ⟨t, 0, none⟩)), (43, .string (keyS o.key))] fun a h59 => ?_
   refine V.cl h59 (Go.Proofs.enters_of Try.func36 (by kernel_rfl) rfl) (hD_18.wrT (fun k hk => hz k (by omega)) (fun Hq hq hqb => get_any w16 Hq (b4 :: av) t (T) hq hgT.mv (keyS o.key) (by first | exact key_le _ | omega))) ?_
   rintro _ w62 ⟨rfl, hD60, hfp61⟩
   refine ⟨_, rfl, fun a h63 => ?_⟩
   have hsw62 := hfp61.size
   have hFP_64 := hFP_19.trP hfp61 (fun k hk => .inl ⟨hk.1, fun hm => hk.2 (by simp [hm])⟩)
   refine V.re h63 [] 41 46 [(8, .int .i64 ((lookT 0 (tbStep T) (keyS o.key)).1)), (9, .bool ((lookT 0 (tbStep T) (keyS o.key)).2))] fun a h66 => k58 _ _ ?_
   refine V.sg fun K67 k68 => ?_
   refine V.run h66 [] 2 1 0 [(48, .pointer (some ⟨r, 0, none⟩)), (49, .string (keyS o.key))] fun a h69 => ?_
   refine V.cl h69 (Go.Proofs.enters_of Try.func46 (by kernel_rfl) rfl) (hD60.wrU (fun k hk => hz k (by omega)) (fun Hq hq hqb => rget_any w62 Hq (b4 :: av) r (U) hq hgU.mv (keyS o.key) (by first | exact key_le _ | omega))) ?_
   rintro _ w72 ⟨rfl, hD70, hfp71⟩
   refine ⟨_, rfl, fun a h73 => ?_⟩
   have hsw72 := hfp71.size
   have hFP_74 := hFP_64.trP hfp71 (fun k hk => .inl ⟨hk.1, fun hm => hk.2 (by simp [hm])⟩)
   refine V.re h73 [] 47 52 [(10, .int .i64 ((lookT 0 (tbStep U) (keyS o.key)).1)), (11, .bool ((lookT 0 (tbStep U) (keyS o.key)).2))] fun a h76 => k68 _ _ ?_
   refine V.sg fun K77 k78 => ?_
   refine V.run h76 [(2, .eq ((lookT 0 (tbStep T) (keyS o.key)).1) ((lookT 0 (tbStep U) (keyS o.key)).1))] 4 53 55 [(56, .bool (decide (((lookT 0 (tbStep T) (keyS o.key)).1) = ((lookT 0 (tbStep U) (keyS o.key)).1))))] fun a h79 => ?_
   by_cases hg80 : ((lookT 0 (tbStep T) (keyS o.key)).1) = ((lookT 0 (tbStep U) (keyS o.key)).1)
   ·
    have h81 := h79.kt 56 hg80
    refine V.re h81 [(2, .q (.bool (decide (((lookT 0 (tbStep T) (keyS o.key)).2) = ((lookT 0 (tbStep U) (keyS o.key)).2)))) V.t_beql)] 57 60 [(6, .bool (decide (((lookT 0 (tbStep T) (keyS o.key)).2) = ((lookT 0 (tbStep U) (keyS o.key)).2))))] fun a h82 => k78 _ _ ?_
    refine V.ret (V.blk_r (V.then_r ?_))
    refine V.r1 h82 (.bool (decide (((lookT 0 (tbStep T) (keyS o.key)).2) = ((lookT 0 (tbStep U) (keyS o.key)).2)))) ?_
    rw [act2 (T := T) ht56, act2 (T := U) ht56]
    exact ⟨_, rfl, fun h => decide_eq_true (by rw [h]), hD70.sub (by intro k hk; simp [hk]), hFP_74⟩
   ·
    have h83 := h79.kf 56 hg80
    refine V.re h83 [] 57 60 [(6, .bool false)] fun a h84 => k78 _ _ ?_
    refine V.ret (V.blk_r (V.then_r ?_))
    refine V.r1 h84 (.bool false) ?_
    rw [act2 (T := T) ht56, act2 (T := U) ht56]
    exact ⟨_, rfl, fun h => absurd (by rw [h]) hg80, hD70.sub (by intro k hk; simp [hk]), hFP_74⟩
  ·
   refine V.sr h55 [(0, .eq o.kind 3)] 62 62 [(61, .bool (decide (o.kind = 3)))] fun a h87 => ?_
   refine V.cp h87 (o.kind = 3) (fun ht88 => ?_) (fun ht88 => ?_)
   ·
    refine V.sg fun K89 k90 => ?_
    refine V.run h87 [] 2 1 0 [(63, .pointer (some ⟨t, 0, none⟩)), (64, .string (keyS o.key))] fun a h91 => ?_
    refine V.cl h91 (Go.Proofs.enters_of Try.func39 (by kernel_rfl) rfl) (hD_18.wrT (fun k hk => hz k (by omega)) (fun Hq hq hqb => del_any w16 Hq (b4 :: av) t (T) hq hgT.mv (keyS o.key) (by first | exact key_le _ | omega))) ?_
    rintro _ w94 ⟨rfl, hD92, hfp93⟩
    refine ⟨_, rfl, fun a h95 => ?_⟩
    have hsw94 := hfp93.size
    have hFP_96 := hFP_19.trP hfp93 (fun k hk => .inl ⟨hk.1, fun hm => hk.2 (by simp [hm])⟩)
    refine V.run h95 [] 2 1 0 [(66, .pointer (some ⟨r, 0, none⟩)), (67, .string (keyS o.key))] fun a h98 => ?_
    refine V.cl h98 (Go.Proofs.enters_of Try.func47 (by kernel_rfl) rfl) (hD92.wrU (fun k hk => hz k (by omega)) (fun Hq hq hqb => rdel_any w94 Hq (b4 :: av) r (U) hq hgU.mv (keyS o.key) (by first | exact key_le _ | omega) hgU.p8)) ?_
    rintro _ w101 ⟨rfl, hD99, hfp100⟩
    refine ⟨_, rfl, fun a h102 => ?_⟩
    have hsw101 := hfp100.size
    have hFP_103 := hFP_96.trP hfp100 (fun k hk => .inl ⟨hk.1, fun hm => hk.2 (by simp [hm])⟩)
    refine V.re h102 [(0, .q (.bool (decide (((findT (tbStep T) (keyS o.key)).2) = ((findT (tbStep U) (keyS o.key)).2)))) V.t_beql)] 69 69 [(6, .bool (decide (((findT (tbStep T) (keyS o.key)).2) = ((findT (tbStep U) (keyS o.key)).2))))] fun a h105 => k90 _ _ ?_
    refine V.ret (V.blk_r (V.then_r ?_))
    refine V.r1 h105 (.bool (decide (((findT (tbStep T) (keyS o.key)).2) = ((findT (tbStep U) (keyS o.key)).2)))) ?_
    rw [act3 (T := T) ht88, act3 (T := U) ht88]
    exact ⟨_, rfl, fun h => decide_eq_true (by rw [h]), hD99.sub (by intro k hk; simp [hk]), hFP_103⟩
   ·
    refine V.sr h87 [(0, .eq o.kind 4)] 71 71 [(70, .bool (decide (o.kind = 4)))] fun a h108 => ?_
    refine V.cp h108 (o.kind = 4) (fun ht109 => ?_) (fun ht109 => ?_)
    ·
     refine V.sg fun K110 k111 => ?_
     refine V.run h108 [] 2 1 0 [(73, .pointer (some ⟨t, 0, none⟩)), (74, .string (keyS o.key))] fun a h112 => ?_
     refine V.cl h112 (Go.Proofs.enters_of Try.func22 (by kernel_rfl) rfl) (hD_18.rdT (fun Hq hq hqb => look_any w16 Hq (b4 :: av) t (T) hq (keyS o.key) (by first | exact key_le _ | omega))) ?_
     rintro _ w114 ⟨rfl, hF113⟩
     refine ⟨_, rfl, fun a h115 => ?_⟩
     have hsw114 := hF113.size
     have hD_116 := hD_18.fr0 hF113
     have hFP_117 := hFP_19.tr0 hF113
     refine V.re h115 [] 72 77 [(12, .int .i64 ((lookT 0 T (keyS o.key)).1)), (13, .bool ((lookT 0 T (keyS o.key)).2))] fun a h119 => k111 _ _ ?_
     refine V.sg fun K120 k121 => ?_
     refine V.run h119 [] 2 1 0 [(79, .pointer (some ⟨r, 0, none⟩)), (80, .string (keyS o.key))] fun a h122 => ?_
     refine V.cl h122 (Go.Proofs.enters_of Try.func48 (by kernel_rfl) rfl) (hD_116.rdU (fun Hq hq hqb => rlook_any w114 Hq (b4 :: av) r (U) hq (keyS o.key) (by first | exact key_le _ | omega))) ?_
     rintro _ w124 ⟨rfl, hF123⟩
     refine ⟨_, rfl, fun a h125 => ?_⟩
     have hsw124 := hF123.size
     have hD_126 := hD_116.fr0 hF123
     have hFP_127 := hFP_117.tr0 hF123
     refine V.re h125 [] 78 83 [(14, .int .i64 ((lookT 0 U (keyS o.key)).1)), (15, .bool ((lookT 0 U (keyS o.key)).2))] fun a h129 => k121 _ _ ?_
     refine V.sg fun K130 k131 => ?_
     refine V.run h129 [(2, .eq ((lookT 0 T (keyS o.key)).1) ((lookT 0 U (keyS o.key)).1))] 4 84 86 [(87, .bool (decide (((lookT 0 T (keyS o.key)).1) = ((lookT 0 U (keyS o.key)).1))))] fun a h132 => ?_
     by_cases hg133 : ((lookT 0 T (keyS o.key)).1) = ((lookT 0 U (keyS o.key)).1)
     ·
      have h134 := h132.kt 87 hg133
      refine V.re h134 [(2, .q (.bool (decide (((lookT 0 T (keyS o.key)).2) = ((lookT 0 U (keyS o.key)).2)))) V.t_beql)] 88 91 [(6, .bool (decide (((lookT 0 T (keyS o.key)).2) = ((lookT 0 U (keyS o.key)).2))))] fun a h135 => k131 _ _ ?_
      have h136 := h135.only [(6, .bool (decide (((lookT 0 T (keyS o.key)).2) = ((lookT 0 U (keyS o.key)).2))))]
      refine V.ret (V.blk_r (V.then_r ?_))
      refine V.r1 h136 (.bool (decide (((lookT 0 T (keyS o.key)).2) = ((lookT 0 U (keyS o.key)).2)))) ?_
      rw [act0 (T := T) ht30 ht56 ht88 (by omega), act0 (T := U) ht30 ht56 ht88 (by omega)]
      exact ⟨_, rfl, fun h => decide_eq_true (by rw [h]), hD_126.sub (by intro k hk; simp [hk]), hFP_127⟩
     ·
      have h137 := h132.kf 87 hg133
      refine V.re h137 [] 88 91 [(6, .bool false)] fun a h138 => k131 _ _ ?_
      have h139 := h138.only [(6, .bool false)]
      refine V.ret (V.blk_r (V.then_r ?_))
      refine V.r1 h139 (.bool false) ?_
      rw [act0 (T := T) ht30 ht56 ht88 (by omega), act0 (T := U) ht30 ht56 ht88 (by omega)]
      exact ⟨_, rfl, fun h => absurd (by rw [h]) hg133, hD_126.sub (by intro k hk; simp [hk]), hFP_127⟩
    ·
     refine V.sr h108 [(0, .eq o.kind 5)] 93 93 [(92, .bool (decide (o.kind = 5)))] fun a h142 => ?_
     refine V.cp h142 (o.kind = 5) (fun ht143 => ?_) (fun ht143 => ?_)
     ·
      refine V.sg fun K144 k145 => ?_
      refine V.run h142 [] 1 1 0 [(94, .pointer (some ⟨t, 0, none⟩))] fun a h146 => ?_
      refine V.cl h146 (Go.Proofs.enters_of Try.func40 (by kernel_rfl) rfl) (hD_18.wrT (fun k hk => hz k (by omega)) (fun Hq hq hqb => stepx_any w16 Hq (b4 :: av) t (T) hq hgT.mv)) ?_
      rintro _ w149 ⟨rfl, hD147, hfp148⟩
      refine ⟨_, rfl, fun a h150 => ?_⟩
      have hsw149 := hfp148.size
      have hFP_151 := hFP_19.trP hfp148 (fun k hk => .inl ⟨hk.1, fun hm => hk.2 (by simp [hm])⟩)
      refine V.run h150 [] 1 1 0 [(96, .pointer (some ⟨r, 0, none⟩))] fun a h153 => ?_
      refine V.cl h153 (Go.Proofs.enters_of Try.func49 (by kernel_rfl) rfl) (hD147.wrU (fun k hk => hz k (by omega)) (fun Hq hq hqb => rstep_any w149 Hq (b4 :: av) r (U) hq hgU.mv)) ?_
      rintro _ w156 ⟨rfl, hD154, hfp155⟩
      refine ⟨_, rfl, fun a h157 => ?_⟩
      have hsw156 := hfp155.size
      have hFP_158 := hFP_151.trP hfp155 (fun k hk => .inl ⟨hk.1, fun hm => hk.2 (by simp [hm])⟩)
      refine V.re h157 [(0, .q (.bool (decide ((decide ((tbStep T).b.length ≠ 0)) = (decide ((tbStep U).b.length ≠ 0))))) V.t_beql)] 98 98 [(6, .bool (decide ((decide ((tbStep T).b.length ≠ 0)) = (decide ((tbStep U).b.length ≠ 0)))))] fun a h160 => k145 _ _ ?_
      refine V.ret (V.blk_r (V.then_r ?_))
      refine V.r1 h160 (.bool (decide ((decide ((tbStep T).b.length ≠ 0)) = (decide ((tbStep U).b.length ≠ 0))))) ?_
      rw [act5 (T := T) ht143, act5 (T := U) ht143]
      exact ⟨_, rfl, fun h => decide_eq_true (by rw [h]), hD154.sub (by intro k hk; simp [hk]), hFP_158⟩
     ·
      refine V.sr h142 [(0, .eq o.kind 6)] 100 100 [(99, .bool (decide (o.kind = 6)))] fun a h163 => ?_
      refine V.cp h163 (o.kind = 6) (fun ht164 => ?_) (fun ht164 => ?_)
      ·
       refine V.sg fun K165 k166 => ?_
       refine V.run h163 [(2, .b hB6_20 3)] 3 103 103 [(102, .pointer (some ⟨t, 0, none⟩)), (104, .int .u64 (o.draw : Int))] fun a h167 => ?_
       refine V.cl h167 (Go.Proofs.enters_of Try.func37 (by kernel_rfl) rfl) (hD_18.rdT (fun Hq hq hqb => pick_any w16 Hq (b4 :: av) t (T) hq hqb o.draw hd)) ?_
       rintro _ w169 ⟨rfl, hF168⟩
       refine ⟨_, rfl, fun a h170 => ?_⟩
       have hsw169 := hF168.size
       have hD_171 := hD_18.fr0 hF168
       have hFP_172 := hFP_19.tr0 hF168
       have hB6_173 := hB6_20.fr0 hF168
       refine V.re h170 [] 101 108 [(16, .string ((pickT (⟨#[]⟩, (0 : Int)) T o.draw).1.1)), (17, .int .i64 ((pickT (⟨#[]⟩, (0 : Int)) T o.draw).1.2)), (18, .bool ((pickT (⟨#[]⟩, (0 : Int)) T o.draw).2))] fun a h174 => k166 _ _ ?_
       refine V.sg fun K175 k176 => ?_
       refine V.run h174 [(2, .b hB6_173 3)] 3 111 111 [(110, .pointer (some ⟨r, 0, none⟩)), (112, .int .u64 (o.draw : Int))] fun a h177 => ?_
       refine V.cl h177 (Go.Proofs.enters_of Try.func50 (by kernel_rfl) rfl) (hD_171.rdU (fun Hq hq hqb => rpick_any w169 Hq (b4 :: av) r (U) hq hqb o.draw hd)) ?_
       rintro _ w179 ⟨rfl, hF178⟩
       refine ⟨_, rfl, fun a h180 => ?_⟩
       have hsw179 := hF178.size
       have hD_181 := hD_171.fr0 hF178
       have hFP_182 := hFP_172.tr0 hF178
       refine V.run h180 [] 3 109 109 [(114, .agg #[.string ((pickT (⟨#[]⟩, (0 : Int)) U o.draw).1.1), .int .i64 ((pickT (⟨#[]⟩, (0 : Int)) U o.draw).1.2)]), (115, .bool ((pickT (⟨#[]⟩, (0 : Int)) U o.draw).2))] fun a h188 => ?_
       refine V.go (V.mk [] trivial (by kernel_rfl) [.string ⟨#[]⟩, .int .i64 0] 60 (fun b => .pointer (some ⟨b, 0, none⟩)) (by kernel_rfl) ?_)
       intro w185 b184 heb184 hB186 hF187 hsb184
       have hD_189 := hD_181.alloc hF187 heb184 (by omega)
       have hFP_190 := hFP_182.tr0 hF187
       refine V.pt h188 fun a h192 => ?_
       refine V.go (V.stn b184 0 (.agg #[.string ((pickT (⟨#[]⟩, (0 : Int)) U o.draw).1.1), .int .i64 ((pickT (⟨#[]⟩, (0 : Int)) U o.draw).1.2)]) [.string ((pickT (⟨#[]⟩, (0 : Int)) U o.draw).1.1), .int .i64 ((pickT (⟨#[]⟩, (0 : Int)) U o.draw).1.2)] h192.e h192.e rfl rfl (by kernel_rfl) hB186 (by simp) [.string ((pickT (⟨#[]⟩, (0 : Int)) U o.draw).1.1), .int .i64 ((pickT (⟨#[]⟩, (0 : Int)) U o.draw).1.2)] rfl ?_)
       intro w193 hB194 hF195 hsw193
       have hD_196 := hD_189.fr hF195 (by intro k hk; simp only [List.mem_singleton] at hk; subst hk; first | exact .inl (by simp) | exact .inr (fun hq => by (try dsimp only at hq); omega))
       have hFP_197 := hFP_190.tr1 hF195 (by first | exact .inl (by assumption) | exact .inr (by omega) | exact .inl (.inl rfl))
       refine V.re h192 [] 1 0 [(20, .bool ((pickT (⟨#[]⟩, (0 : Int)) U o.draw).2))] fun a h199 => k176 _ _ ?_
       refine V.sg fun K200 k201 => ?_
       refine V.run h199 [(2, .b hB194 0), (0, .seq ((pickT (⟨#[]⟩, (0 : Int)) T o.draw).1.1) ((pickT (⟨#[]⟩, (0 : Int)) U o.draw).1.1))] 5 116 119 [(120, .bool (decide (((pickT (⟨#[]⟩, (0 : Int)) T o.draw).1.1) = ((pickT (⟨#[]⟩, (0 : Int)) U o.draw).1.1))))] fun a h202 => ?_
       by_cases hg203 : ((pickT (⟨#[]⟩, (0 : Int)) T o.draw).1.1) = ((pickT (⟨#[]⟩, (0 : Int)) U o.draw).1.1)
       ·
        have h204 := h202.kt 120 hg203
        refine V.run h204 [(2, .b hB194 1), (0, .eq ((pickT (⟨#[]⟩, (0 : Int)) T o.draw).1.2) ((pickT (⟨#[]⟩, (0 : Int)) U o.draw).1.2))] 6 121 125 [(126, .bool (decide (((pickT (⟨#[]⟩, (0 : Int)) T o.draw).1.2) = ((pickT (⟨#[]⟩, (0 : Int)) U o.draw).1.2))))] fun a h205 => ?_
        by_cases hg206 : ((pickT (⟨#[]⟩, (0 : Int)) T o.draw).1.2) = ((pickT (⟨#[]⟩, (0 : Int)) U o.draw).1.2)
        ·
         have h207 := h205.kt 126 hg206
         refine V.re h207 [(2, .q (.bool (decide (((pickT (⟨#[]⟩, (0 : Int)) T o.draw).2) = ((pickT (⟨#[]⟩, (0 : Int)) U o.draw).2)))) V.t_beql)] 127 130 [(6, .bool (decide (((pickT (⟨#[]⟩, (0 : Int)) T o.draw).2) = ((pickT (⟨#[]⟩, (0 : Int)) U o.draw).2))))] fun a h208 => k201 _ _ ?_
         have h209 := h208.only [(6, .bool (decide (((pickT (⟨#[]⟩, (0 : Int)) T o.draw).2) = ((pickT (⟨#[]⟩, (0 : Int)) U o.draw).2))))]
         refine V.ret (V.blk_r (V.then_r ?_))
         refine V.r1 h209 (.bool (decide (((pickT (⟨#[]⟩, (0 : Int)) T o.draw).2) = ((pickT (⟨#[]⟩, (0 : Int)) U o.draw).2)))) ?_
         rw [act0 (T := T) ht30 ht56 ht88 ht143, act0 (T := U) ht30 ht56 ht88 ht143]
         exact ⟨_, rfl, fun h => decide_eq_true (by rw [h]), hD_196.sub (by intro k hk; simp [hk]), hFP_197⟩
        ·
         have h210 := h205.kf 126 hg206
         refine V.re h210 [] 127 130 [(6, .bool false)] fun a h211 => k201 _ _ ?_
         have h212 := h211.only [(6, .bool false)]
         refine V.ret (V.blk_r (V.then_r ?_))
         refine V.r1 h212 (.bool false) ?_
         rw [act0 (T := T) ht30 ht56 ht88 ht143, act0 (T := U) ht30 ht56 ht88 ht143]
         exact ⟨_, rfl, fun h => absurd (by rw [h]) hg206, hD_196.sub (by intro k hk; simp [hk]), hFP_197⟩
       ·
        have h213 := h202.kf 120 hg203
        refine V.re h213 [] 121 130 [(6, .bool false)] fun a h214 => k201 _ _ ?_
        have h215 := h214.only [(6, .bool false)]
        refine V.ret (V.blk_r (V.then_r ?_))
        refine V.r1 h215 (.bool false) ?_
        rw [act0 (T := T) ht30 ht56 ht88 ht143, act0 (T := U) ht30 ht56 ht88 ht143]
        exact ⟨_, rfl, fun h => absurd (by rw [h]) hg203, hD_196.sub (by intro k hk; simp [hk]), hFP_197⟩
      ·
       refine V.skip (V.blk_n ?_)
       refine V.then_n (k23 _ _ ?_)
       refine V.sr h163 [] 1 0 [(6, .bool true)] fun a h218 => ?_
       refine V.ret ?_
       refine V.r1 h218 (.bool true) ?_
       rw [act0 (T := T) ht30 ht56 ht88 ht143, act0 (T := U) ht30 ht56 ht88 ht143]
       exact ⟨_, rfl, fun _ => rfl, hD_18.sub (by intro k hk; simp [hk]), hFP_19⟩
theorem wf_u64 {n : Int} (h : (Lit.int .u64 n).wf = true) : 0 ≤ n ∧ n < 18446744073709551616 := by
  unfold Lit.wf at h
  have h1 : IntKind.u64.min = 0 := by decide
  have h2 : IntKind.u64.max = 18446744073709551615 := by decide
  simp [h1, h2] at h; omega
theorem wf_i64 {n : Int} (h : (Lit.int .i64 n).wf = true) : -9223372036854775808 ≤ n ∧ n ≤ 9223372036854775807 := by
  unfold Lit.wf at h
  have h1 : IntKind.i64.min = -9223372036854775808 := by decide
  have h2 : IntKind.i64.max = 9223372036854775807 := by decide
  simp [h1, h2] at h; omega
/-- An act as it lies in cells. -/
def opR : Rp OpD where
  dflt := ⟨0, ⟨#[]⟩, 0, 0⟩
  sz := 4
  ok := fun _ _ x cs => cs = [.int .i64 x.kind, .string x.key, .int .i64 x.v, .int .u64 (x.draw : Int)] ∧ x.ok
  len := by rintro _ _ x cs ⟨rfl, _⟩; rfl
  one := by rintro _ _ x cs ⟨rfl, _⟩ u hu; simp at hu; rcases hu with rfl | rfl | rfl | rfl <;> rfl
  mono := by rintro _ _ _ _ x cs _ _ h; exact h
/-- The program's table alone. -/
def D1 (Z : Nat → Prop) (w : World) (av : List Nat) (t : Nat) (T : Tb Int) : Prop := ∃ Ht : Nat → Prop, TabX 67 87 86 itI w Ht av t T ∧ ∀ k, Ht k → Z k ∧ k < w.heap.size
section
variable {Z Z' : Nat → Prop} {w w1 w2 : World} {av av' : List Nat} {t r : Nat} {T U : Tb Int}
theorem D1.new (h1 : TabX 67 87 86 itI w1 (gr (fun _ => False) w w1) av t T) (hz : ∀ k, w.heap.size ≤ k → Z k) : D1 Z w1 av t T :=
  ⟨_, h1, fun k hk => by
    rcases hk with hk | hk
    · exact hk.elim
    · exact ⟨hz k hk.1, hk.2⟩⟩
theorem D1.two (h1 : D1 Z w1 av t T) (f : Fr [] w w1) (h2 : TabX 40 42 60 itI w1 (gr (fun _ => False) w w1) av r U) (h0 : D1 Z w av t T) (hz : ∀ k, w.heap.size ≤ k → Z k) : D2 Z w1 av t T r U := by
  obtain ⟨Ht, h3, h4⟩ := h0
  have hs := f.size
  exact ⟨Ht, _, h3.fr0 f, h2, fun k hk => ⟨(h4 k hk).1, by have := (h4 k hk).2; omega, fun hr => by
    rcases hr with hr | hr
    · exact hr
    · have := (h4 k hk).2; omega⟩, fun k hk => by
    rcases hk with hk | hk
    · exact hk.elim
    · exact ⟨hz k hk.1, hk.2⟩⟩
theorem D2.one (h : D2 Z w av t T r U) : D1 Z w av t T := by
  obtain ⟨Ht, Hr, h1, h2, h3, h4⟩ := h
  exact ⟨Ht, h1, fun k hk => ⟨(h3 k hk).1, (h3 k hk).2.1⟩⟩
theorem D1.frP (h : D1 Z w av t T) {p : Nat → Prop} (f : FrP p w w1) (hl : ∀ k, p k → k ∈ av ∨ ¬ Z k) : D1 Z w1 av t T := by
  obtain ⟨Ht, h1, h3⟩ := h
  have hs := f.size
  exact ⟨Ht, h1.frP f fun k hk => (hl k hk).imp id fun q hq => q (h3 k hq).1, fun k hk => ⟨(h3 k hk).1, by have := (h3 k hk).2; omega⟩⟩
theorem D1.fr (h : D1 Z w av t T) {l : List Nat} (f : Fr l w w1) (hl : ∀ k ∈ l, k ∈ av ∨ ¬ Z k) : D1 Z w1 av t T := h.frP (FrP.of f) hl
theorem D1.fr0 (h : D1 Z w av t T) (f : Fr [] w w1) : D1 Z w1 av t T := h.fr f fun k hk => by cases hk
theorem D1.alloc (h : D1 Z w av t T) (f : Fr [] w w1) {b : Nat} (hb : b = w.heap.size) (hlt : b < w1.heap.size) : D1 Z w1 (b :: av) t T := by
  obtain ⟨Ht, h1, h3⟩ := h
  have hs := f.size
  exact ⟨Ht, h1.alloc f hb hlt, fun k hk => ⟨(h3 k hk).1, by have := (h3 k hk).2; omega⟩⟩
theorem D1.sub (h : D1 Z w av t T) (hs : ∀ k ∈ av', k ∈ av) : D1 Z w av' t T := by
  obtain ⟨Ht, h1, h3⟩ := h
  exact ⟨Ht, h1.sub hs fun _ _ q => q, h3⟩
theorem D1.mono (h : D1 Z w av t T) (hz : ∀ k, k < w.heap.size → Z k → Z' k) : D1 Z' w av t T := by
  obtain ⟨Ht, h1, h3⟩ := h
  exact ⟨Ht, h1, fun k hk => ⟨hz k (h3 k hk).2 (h3 k hk).1, (h3 k hk).2⟩⟩
theorem act_same (w : World) (Z : Nat → Prop) (av : List Nat) (t r : Nat) (T : Tb Int) (N : Nat) (o : OpD) (hD : D2 Z w av t T r T) (hgT : Gd T N) (hN : N < 1000000) (ho : o.ok) (hz : ∀ k, w.heap.size ≤ k → Z k) :
    Calls Try.prog 16 #[.pointer (some ⟨t, 0, none⟩), .pointer (some ⟨r, 0, none⟩), .agg #[.int .i64 o.kind, .string o.key, .int .i64 o.v, .int .u64 (o.draw : Int)]] w (fun e w' => e = .returned (.bool true) ∧ D2 Z w' av t (actT T o) r (actT T o) ∧ FrP (zn Z av) w w') :=
  (act_any w Z av t r T T N o hD hgT hgT hN ho hz).mono fun e w' ⟨b, he, hb, q⟩ => ⟨by rw [he, hb rfl], q⟩
theorem act_new (w : World) (Z : Nat → Prop) (av : List Nat) (t r : Nat) (T U : Tb Int) (N : Nat) (o : OpD) (hD : D2 Z w av t T r U) (hgT : Gd T N) (hgU : Gd U 0) (hN : N < 1000000) (ho : o.ok) (hz : ∀ k, w.heap.size ≤ k → Z k) :
    Calls Try.prog 16 #[.pointer (some ⟨t, 0, none⟩), .pointer (some ⟨r, 0, none⟩), .agg #[.int .i64 o.kind, .string o.key, .int .i64 o.v, .int .u64 (o.draw : Int)]] w (fun e w' => (∃ b, e = .returned (.bool b)) ∧ D1 Z w' av t (actT T o) ∧ FrP (zn Z av) w w') :=
  (act_any w Z av t r T U N o hD hgT (hgU.raise (Nat.zero_le _)) hN ho hz).mono fun e w' ⟨b, he, _, q1, q2⟩ => ⟨⟨b, he⟩, q1.one, q2⟩
theorem avh (h : D1 Z w av t T) : ∀ k ∈ av, k < w.heap.size := by
  obtain ⟨Ht, h1, _⟩ := h
  rcases h1.2 with ⟨_, gA, vsA, h⟩ | ⟨_, gA, gB, vsA, vsB, h⟩
  · exact fun k hk => h.bk.avl k (by simp [hk])
  · exact fun k hk => h.bk.avl k (by simp [hk])
end
end Go.Proofs.Ytalhmegjomfbaaa
end
section
namespace Go.V
open Go.Base Go.RowKit Go.WideShapes Go.ChangeShapes Go.Deep
set_option linter.unusedVariables false
theorem open_slR {α : Type} {R : Rp α} {H : Type} {enc : TypeId × Value → H} {P : Program} {W : World} {t e : TypeId} (ht : P.underlying t = some (.slice e)) (hc : P.cellsOf e = R.sz) (hpos : 0 < R.sz)
    (hel : ∀ (n : Nat) (cs : List Value) (x : DataW H × List MemPlace), DataW.trod enc P W 0 (fun _ => true) true n e cs = some x → (∀ p ∈ x.2, p.block < W.heap.size) → ∃ d : α, R.ok (fun b => b < W.heap.size) W d cs)
    {A : Option Addr} {n c : Nat} {d : DataW H} {ps : List MemPlace} (hd : DataW.Trod enc P W 0 (fun _ => true) true t (.slice A n c) d ps) (hlt : ∀ x ∈ ps, x.block < W.heap.size) :
    ∃ l : List α, n = l.length ∧ SlR R (fun b => b < W.heap.size) W (.slice A n c) l := by
  obtain ⟨fuel, hf⟩ := hd
  rcases open_slice ht hf with ⟨hcs, hx⟩ | ⟨a, len, cap, m, k, D, Pl, hcs, _, hl, hm, hmm, hx, hall⟩
  · simp [Value.cells] at hcs
    obtain ⟨rfl, rfl, rfl⟩ := hcs
    exact ⟨[], rfl, SlR.nil _ _ _⟩
  · simp [Value.cells] at hcs
    obtain ⟨rfl, rfl, rfl⟩ := hcs
    simp only [Prod.mk.injEq] at hx
    obtain ⟨rfl, rfl⟩ := hx
    simp only [if_true] at hmm
    subst hmm
    have hone : ∀ i, i < m → ∃ (x : α) (cs : List Value), R.ok (fun b => b < W.heap.size) W x cs ∧ ∀ j u, cs[j]? = some u → W.cell? (a.add (i * R.sz + j)) = some u := fun i hi => by
      obtain ⟨cs', h1, h2⟩ := hall i hi
      obtain ⟨x, hx⟩ := hel k cs' _ h2 fun p hp => hlt p (List.mem_append_right _ (List.mem_flatMap.2 ⟨i, List.mem_range.2 hi, hp⟩))
      obtain ⟨_, hlen, hcell⟩ := World.cells?_some h1
      refine ⟨x, cs', hx, fun j u hj => ?_⟩
      have hjl : j < P.cellsOf e := by rw [← hlen]; exact (List.getElem?_eq_some_iff.1 hj).1
      have := hcell j hjl
      rw [hj, hc] at this
      rw [← this, add_add]
    have hex : ∀ q, q ≤ m → ∃ l : List α, l.length = q ∧ ∀ i x, l[i]? = some x → ∃ cs, R.ok (fun b => b < W.heap.size) W x cs ∧ ∀ j u, cs[j]? = some u → W.cell? (a.add (i * R.sz + j)) = some u := by
      intro q
      induction q with
      | zero => exact fun _ => ⟨[], rfl, fun i x h => by simp at h⟩
      | succ q ih =>
        intro hq
        obtain ⟨l, hll, hli⟩ := ih (by omega)
        obtain ⟨x, cs, h1, h2⟩ := hone q (by omega)
        refine ⟨l ++ [x], by simp [hll], fun i y hy => ?_⟩
        rcases Nat.lt_or_ge i l.length with hi | hi
        · rw [List.getElem?_append_left hi] at hy; exact hli i y hy
        · rw [List.getElem?_append_right hi] at hy
          have : i - l.length = 0 := by
            have := (List.getElem?_eq_some_iff.1 hy).1; simp at this; omega
          rw [this] at hy
          simp at hy; subst hy
          have hiq : i = q := by omega
          subst hiq
          exact ⟨cs, h1, h2⟩
    obtain ⟨l, hll, hli⟩ := hex n hl
    subst hll
    refine ⟨l, rfl, _, _, rfl, hl, by unfold maxLen at hm; omega, fun i x hi => ?_⟩
    obtain ⟨cs, h1, h2⟩ := hli i x hi
    have hin : i < l.length := (List.getElem?_eq_some_iff.1 hi).1
    obtain ⟨b, off, spot⟩ := a
    have hcl := R.len h1
    obtain ⟨u0, hu0⟩ : ∃ u, cs[0]? = some u := ⟨cs[0]'(by omega), List.getElem?_eq_getElem (by omega)⟩
    obtain ⟨cz, z1, z2⟩ := hli 0 _ (List.getElem?_eq_getElem (by omega))
    have hzl := R.len z1
    have hspot : spot = none := by simpa [Addr.add] using World.cell?_spot (z2 0 _ (List.getElem?_eq_getElem (by omega)))
    subst hspot
    have hbW : b < W.heap.size := by
      have := h2 0 u0 hu0
      have hmem : MemPlace.cell b off ∈ MemPlace.row ⟨b, off, none⟩ (m * P.cellsOf e) := MemPlace.mem_row.2 ⟨0, by rw [hc]; exact Nat.mul_pos (by omega) hpos, by simp⟩
      exact hlt _ (List.mem_append_left _ hmem)
    refine ⟨b, off, cs, rfl, hbW, hbW, h1, fun j u hj => ?_⟩
    have := h2 j u hj
    rwa [show (⟨b, off, none⟩ : Addr).add (i * R.sz + j) = ⟨b, off + i * R.sz + j, none⟩ by unfold Addr.add; split <;> simp_all [Nat.add_assoc]] at this
end Go.V
end
section
namespace Go.Proofs.Ytalhmegjomfbaaa
open Go.V Go.Base Go.Deep Go.WideShapes Go.ChangeShapes Go.Joins
set_option linter.unusedVariables false
theorem cells34 : Try.prog.cellsOf 34 = 4 := by kernel_rfl
theorem cells3 : Try.prog.cellsOf 3 = 1 := by kernel_rfl
theorem cells9 : Try.prog.cellsOf 9 = 1 := by kernel_rfl
theorem cells22 : Try.prog.cellsOf 22 = 1 := by kernel_rfl
theorem list4 {β : Type} {cs : List β} (h : cs.length = 4) : ∃ a b c d, cs = [a, b, c, d] := by
  match cs, h with
  | [a, b, c, d], _ => exact ⟨a, b, c, d, rfl⟩
/-- A struct of a number, a text, a number, a word. -/
theorem four_el {H : Type} {enc : TypeId × Value → H} {P : Program} {W : World} {t t3 t9 t22 : TypeId} {f0 f1 f2 f3 : Field} (n : Nat) (cs : List Value) (x : DataW H × List MemPlace) (ht : P.underlying t = some (.struct #[f0, f1, f2, f3])) (hc : P.cellsOf t = 4)
    (e0 : f0.type = t3 ∧ f0.offset = 0) (e1 : f1.type = t9 ∧ f1.offset = 1) (e2 : f2.type = t3 ∧ f2.offset = 2) (e3 : f3.type = t22 ∧ f3.offset = 3) (c3 : P.cellsOf t3 = 1) (c9 : P.cellsOf t9 = 1) (c22 : P.cellsOf t22 = 1)
    (u3 : P.underlying t3 = some (.int .i64)) (u9 : P.underlying t9 = some .string) (u22 : P.underlying t22 = some (.int .u64)) (h : DataW.trod enc P W 0 (fun _ => true) true n t cs = some x) :
    ∃ d : OpD, cs = [.int .i64 d.kind, .string d.key, .int .i64 d.v, .int .u64 (d.draw : Int)] ∧ d.ok := by
  obtain ⟨y0, y1, y2, y3, k, rfl, hl, h0, h1, h2, h3⟩ := trod_struct4 ht h
  rw [hc] at hl
  obtain ⟨c0, c1, c2, c3', rfl⟩ := list4 hl
  rw [e0.1, e0.2, c3] at h0
  rw [e1.1, e1.2, c9] at h1
  rw [e2.1, e2.2, c3] at h2
  rw [e3.1, e3.2, c22] at h3
  obtain ⟨n0, q0, _, w0⟩ := DataW.trod_int u3 h0
  obtain ⟨s1, q1, _, w1⟩ := DataW.trod_string u9 h1
  obtain ⟨n2, q2, _, w2⟩ := DataW.trod_int u3 h2
  obtain ⟨n3, q3, _, w3⟩ := DataW.trod_int u22 h3
  simp at q0 q1 q2 q3
  subst q0; subst q1; subst q2; subst q3
  have z3 := wf_u64 w3
  obtain ⟨m3, rfl⟩ : ∃ m : Nat, n3 = (m : Int) := ⟨n3.toNat, by omega⟩
  exact ⟨⟨n0, s1, n2, m3⟩, rfl, wf_i64 w0, by unfold maxLen at w1; omega, wf_i64 w2, by show m3 < 18446744073709551616; omega⟩
theorem op_el {H : Type} {enc : TypeId × Value → H} {W : World} (n : Nat) (cs : List Value) (x : DataW H × List MemPlace) (h : DataW.trod enc Try.prog W 0 (fun _ => true) true n 34 cs = some x) (hp : ∀ p ∈ x.2, p.block < W.heap.size) : ∃ d : OpD, opR.ok (fun b => b < W.heap.size) W d cs :=
  four_el n cs x Try.underlying34 cells34 ⟨rfl, rfl⟩ ⟨rfl, rfl⟩ ⟨rfl, rfl⟩ ⟨rfl, rfl⟩ cells3 cells9 cells22 Try.underlying3 Try.underlying9 Try.underlying22 h
theorem open_ops {H : Type} {enc : TypeId × Value → H} {W : World} {A : Option Addr} {n c : Nat} {d : DataW H} {ps : List MemPlace} (hd : DataW.Trod enc Try.prog W 0 (fun _ => true) true 27 (.slice A n c) d ps) (hlt : ∀ x ∈ ps, x.block < W.heap.size) :
    ∃ l : List OpD, n = l.length ∧ SlR opR (fun b => b < W.heap.size) W (.slice A n c) l :=
  open_slR Try.underlying27 cells34 (by decide) op_el hd hlt
end Go.Proofs.Ytalhmegjomfbaaa
end
