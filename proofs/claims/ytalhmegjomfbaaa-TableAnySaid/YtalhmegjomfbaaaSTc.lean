/- Walks of a table of texts: start, step. -/
import Derived.Test.YtalhmegjomfbaaaProg
import Derived.Test.YtalhmegjomfbaaaSTb
import Derived.Test.YtalhmegjomfbaaaTc
namespace Go.Proofs.Ytalhmegjomfbaaa.S
open Go.V Go.Base
open Go.RowKit (Below)
attribute [local irreducible] Act.put Act.eval
set_option linter.unusedVariables false
set_option linter.unusedSimpArgs false
set_option maxHeartbeats 4000000 in
set_option maxRecDepth 20000 in
theorem start_N (w : World) (H : Nat → Prop) (av : List Nat) (t gA : Nat) (vsA : List Value) (T : Tb ByteArray) (hok : T.Ok) (hT : TabN 91 94 93 itI w H av t gA vsA T) (n : Nat) (hb0 : T.b = []) (hn : 0 < n) (hn2 : n ≤ 4398046511104) : Calls Try.prog 59 #[.pointer (some ⟨t, 0, none⟩), .int .i64 (n : Int)] w (fun e w' => e = .returned (.tuple #[]) ∧ TabX 91 94 93 itI w' (gr H w w') av t (startT T n) ∧ FrP (gp H av) w w') := by
 have hK0 : ∀ k ∈ av, k < w.heap.size := fun k hk => hT.bk.avl k (by simp [hk])
 have hok0 := hok
 obtain ⟨hsd, hpa, hla, hlb, hmv, hmz, hnn, hcn, hks⟩ := hok0
 obtain ⟨hB, hRA, hlA, hK, hne, hpt, hpg⟩ := hT
 have hltt := hB.lt
 have hltg := hRA.lt
 have hFP := FrP.refl (gp H av) w
 replace hK := hK.toH
 refine V.en 13 Try.func59 fun a h1 => ?_
 refine V.seq fun K2 k3 => ?_
 refine V.pl [([0,1,3,4],some (2,[])),([5],some (6,[])),([],none)] fun w4 hF5 hsw4 => ?_
 have hB_6 := hB.fr0 hF5
 have hRA_7 := hRA.fr0 hF5
 have hK_8 := hK.fr0 hF5
 have hFP_9 := hFP.tr0 hF5
 refine V.pe h1 [] 4 7 [(5, .int .i64 (n : Int)), (8, .pointer (some ⟨t, 1, none⟩))] fun a h10 => ?_
 refine V.go (V.mks (enc := idV) (n) (.slice none 0 0) nilS 24 ((h10.e (v := (.int .i64 (n : Int)))).trans (V.int_eq (by omega))) ((h10.e (v := (.int .i64 (n : Int)))).trans (V.int_eq (by omega))) (by kernel_rfl) info94 rfl rfl (by omega) (by omega) ?_)
 intro w12 b11 heb11 hR13 hF14
 have hsb11 := hR13.lt
 have hB_15 := hB_6.fr0 hF14
 have hRA_16 := hRA_7.fr0 hF14
 have hK_17 := hK_8.alloc hF14 heb11 (by omega)
 have hFP_18 := hFP_9.tr0 hF14
 refine V.pt h10 fun a h19 => ?_
 refine V.eh trivial ?_
 refine V.pe h19 [] 1 0 [(9, .pointer (some ⟨t, 2, none⟩))] fun a h20 => ?_
 refine V.go (V.stn t 2 (.slice (some ⟨b11, 0, none⟩) n n) [.slice (some ⟨b11, 0, none⟩) n n] h20.e h20.e rfl rfl (by kernel_rfl) hB_15 (by simp) [.int .u64 (T.seed : Int), .slice (some ⟨gA, 0, none⟩) T.a.length T.a.length, .slice (some ⟨b11, 0, none⟩) n n, .int .i64 (T.moved : Int), .int .i64 (T.n : Int)] rfl ?_)
 intro w21 hB22 hF23 hsw21
 have hRA_24 := hRA_16.fr1 hF23 (by omega)
 have hK_25 := hK_17.fr hF23 (by simp)
 have hFP_26 := hFP_18.tr1 hF23 (by first | exact .inl (by assumption) | exact .inr (by omega) | exact .inl (.inl rfl))
 have hR13_27 := hR13.fr1 hF23 (by omega)
 refine V.eh trivial ?_
 refine V.pz h20 [] 1 0 [] fun a h28 => k3 _ _ ?_
 refine V.rg ?_
 refine V.run h28 [] 3 10 11 [(12, .pointer (some ⟨t, 3, none⟩))] fun a h32 => ?_
 refine V.go (V.stn t 3 (.int .i64 0) [.int .i64 0] h32.e evc rfl rfl (by kernel_rfl) hB22 (by simp) [.int .u64 (T.seed : Int), .slice (some ⟨gA, 0, none⟩) T.a.length T.a.length, .slice (some ⟨b11, 0, none⟩) n n, .int .i64 0, .int .i64 (T.n : Int)] rfl ?_)
 intro w29 hB30 hF31 hsw29
 have hRA_33 := hRA_24.fr1 hF31 (by omega)
 have hK_34 := hK_25.fr hF31 (by simp)
 have hFP_35 := hFP_26.tr1 hF31 (by first | exact .inl (by assumption) | exact .inr (by omega) | exact .inl (.inl rfl))
 have hR13_36 := hR13_27.fr1 hF31 (by omega)
 refine V.nil ?_
 refine V.e0 h32 ?_
 have hK37 := hK_34.addNil n
 simp only [List.append_nil] at hK37
 have hgB : gh H w b11 ∧ b11 ∉ av := ⟨.inr (by omega), fun hm => by have := hK0 _ hm; omega⟩
 exact ⟨rfl, TabM.fin (T := (startT T n)) (startT_ok hok hb0 hn hn2) (by simp only [startT]; intro h; have := congrArg List.length h; simp at this; omega) hB30 hRA_33 hR13_36 (by first | exact hlA | (simp only [List.length_set]; exact hlA)) hK37 (mem4 (l := (b11 :: t :: gA :: av)) (by simp) (by simp) (by simp) (by intro k hk; simp [hk])) (by first | assumption | omega) (by first | assumption | omega) (by first | assumption | omega) hpt ⟨.inl hpg.1, hpg.2⟩ hgB rfl rfl rfl rfl rfl rfl (by simp [startT]), hFP_35⟩
set_option maxHeartbeats 4000000 in
set_option maxRecDepth 20000 in
theorem step_M (w : World) (H : Nat → Prop) (av : List Nat) (t gA gB : Nat) (vsA vsB : List Value) (T : Tb ByteArray) (hok : T.Ok) (hT : TabM 91 94 93 itI w H av t gA gB vsA vsB T) (hb : T.b.length ≠ 0) (hm : T.Mv) : Calls Try.prog 55 #[.pointer (some ⟨t, 0, none⟩)] w (fun e w' => e = .returned (.tuple #[]) ∧ TabX 91 94 93 itI w' (gr H w w') av t (tbStep T) ∧ FrP (gp H av) w w') := by
 have hok0 := hok
 have hK0 : ∀ k ∈ av, k < w.heap.size := fun k hk => hT.bk.avl k (by simp [hk])
 obtain ⟨hsd, hpa, hla, hlb, hmv, hmz, hnn, hcn, hks⟩ := hok0
 obtain ⟨hB, hRA, hRB, hlA, hlB, hK, hne, hne2, hne3, hpt, hpg, hph⟩ := hT
 have hltg2 := hRB.lt
 have hltt := hB.lt
 have hltg := hRA.lt
 have hFP := FrP.refl (gp H av) w
 replace hK := hK.toH
 refine V.en 111 Try.func55 fun a h1 => ?_
 refine V.seq fun K2 k3 => ?_
 refine V.sg fun K4 k5 => ?_
 refine V.run h1 [] 1 1 0 [(5, .pointer (some ⟨t, 0, none⟩))] fun a h6 => ?_
 refine V.cl h6 (Go.Proofs.enters_of Try.func57 (by kernel_rfl) rfl) (moves_M w t T.seed T.a.length T.b.length 0 gA gB (.int .i64 (T.moved : Int)) (.int .i64 (T.n : Int)) hB) ?_
 rintro _ w8 ⟨rfl, hF7⟩
 refine ⟨_, rfl, fun a h9 => ?_⟩
 have hsw8 := hF7.size
 have hB_10 := hB.fr0 hF7
 have hRA_11 := hRA.fr0 hF7
 have hRB_12 := hRB.fr0 hF7
 have hK_13 := hK.fr0 hF7
 have hFP_14 := hFP.tr0 hF7
 refine V.re h9 [] 1 0 [(7, .bool false)] fun a h15 => k5 _ _ ?_
 refine V.cf h15 ?_
 refine V.skip ?_
 refine V.then_n (k3 _ _ ?_)
 refine V.seq fun K16 k17 => ?_
 refine V.seq fun K18 k19 => ?_
 refine V.pl [([0,1,2,3,4,5,6,7,8,9,10,11,12],none)] fun w20 hF21 hsw20 => ?_
 have hB_22 := hB_10.fr0 hF21
 have hRA_23 := hRA_11.fr0 hF21
 have hRB_24 := hRB_12.fr0 hF21
 have hK_25 := hK_13.fr0 hF21
 have hFP_26 := hFP_14.tr0 hF21
 obtain ⟨A27, c28, hv29⟩ := hK_25.getA hlA (i := T.moved) (by omega) nilS
 have hS30 := hK_25.slA hlA (i := T.moved) (by omega) hv29
 refine V.pz h15 [(4, .b hB_22 1), (3, .b hB_22 3), (0, .ix gA 0 T.a.length T.a.length .i64 (T.moved : Int) 1 rfl), (0, .l ⟨gA, 0 + (T.moved : Int).toNat * 1, none⟩ (.slice A27 ((T.a.getD T.moved []).length) c28) ((hRA_23.at T.moved nilS (by omega)).trans (congrArg some hv29)))] 8 17 [(18, .slice A27 ((T.a.getD T.moved []).length) c28), (19, .int .i64 (((T.a.getD T.moved []).length : Nat) : Int)), (20, .int .i64 0)] fun a h31 => k19 _ _ ?_
 refine V.block ?_
 obtain ⟨hK9, hS9, hoh⟩ := hK_25.takeA hlA (i := T.moved) (by omega) hv29
 have hlA2 : (vsA.set T.moved nilS).length = (T.a.set T.moved []).length := by simp [hlA]
 refine V.loop3 (fun (i : Nat) (vb : List Value) (xb : List (List (ByteArray × ByteArray))) a_ w_ => En 111 [] a_ [(0, .pointer (some ⟨t, 0, none⟩)), (18, .slice A27 ((T.a.getD T.moved []).length) c28), (19, .int .i64 (((T.a.getD T.moved []).length : Nat) : Int)), (20, .int .i64 (i : Int))] ∧ Row idV w_ gB vb 94 ∧ Bks itI w_ 93 (gh H w) (((Value.slice A27 ((T.a.getD T.moved []).length) c28).ownBlock.toList ++ (t :: gA :: gB :: av))) (vsA.set T.moved nilS ++ vb) (T.a.set T.moved [] ++ xb) ∧ FrP (fun _ => True) w20 w_ ∧ Blk w_ t [.int .u64 (T.seed : Int), .slice (some ⟨gA, 0, none⟩) T.a.length T.a.length, .slice (some ⟨gB, 0, none⟩) T.b.length T.b.length, .int .i64 (T.moved : Int), .int .i64 (T.n : Int)] 91 ∧ Row idV w_ gA vsA 94 ∧ FrP (gp H av) w w_ ∧ SlR itI (fun k => k ∈ (Value.slice A27 ((T.a.getD T.moved []).length) c28).ownBlock.toList) w_ (.slice A27 ((T.a.getD T.moved []).length) c28) (T.a.getD T.moved []) ∧ (i ≤ (T.a.getD T.moved []).length) ∧ (vb.length = xb.length) ∧ (((T.a.getD T.moved []).take i).foldl (putB T.seed) T.b = xb)) (fun (i : Nat) (vb : List Value) (xb : List (List (ByteArray × ByteArray))) => (T.a.getD T.moved []).length - i) 0 vsB T.b ?_ ?_
 ·
  refine ⟨(h31.eq 20 (v := (.int .i64 0)) (u := (.int .i64 (0 : Int))) (V.int_eq (by omega))).only _, hRB_24, hK9, (FrP.refl _ _), hB_22, hRA_23, hFP_26, hS9, (by omega), hlB, (by simp)⟩
 ·
  rintro i vb xb a32 w33 ⟨h34, hRB_35, hK_36, hF0_37, hB_38, hRA_39, hFP_40, hS9_41, hi, hlb, hxb⟩
  have hlt42 := hRB_35.lt
  have hfs43 := hF0_37.size
  have hlt44 := hB_38.lt
  have hlt45 := hRA_39.lt
  have hfs46 := hFP_40.size
  have hxl : xb.length = T.b.length := by rw [← hxb, putBs_length]
  have hfl : xb.flatten.length = T.b.flatten.length + i := by (rw [← hxb, putBs_flat _ _ (by omega), List.length_take]; omega)
  have hsum := hok.sum
  have hfa := flat_getD T.a T.moved
  refine V.sr h34 [] 1 0 [(21, .bool (decide ((i : Int) < (((T.a.getD T.moved []).length : Nat) : Int))))] fun a h49 => ?_
  refine V.seq fun K50 k51 => ?_
  refine V.cp h49 ((i : Int) < (((T.a.getD T.moved []).length : Nat) : Int)) (fun ht52 => ?_) (fun ht52 => ?_)
  ·
   refine V.skip ?_
   refine V.then_n (k51 _ _ ?_)
   refine V.seq fun K53 k54 => ?_
   refine V.block ?_
   obtain ⟨g57, o58, hA59, hA59l, hA59z⟩ := hS9_41.addr (by omega)
   obtain ⟨cs60, hok61, hE62⟩ := hS9_41.els hA59 (i : Int) (by omega) (by omega)
   refine V.sg fun K55 k56 => ?_
   refine V.run h49 [(0, .ix g57 o58 ((T.a.getD T.moved []).length) c28 .i64 (i : Int) 2 hA59)] 1 1 0 [(22, .pointer (some ⟨g57, o58 + (i : Int).toNat * 2, none⟩))] fun a h63 => ?_
   obtain rfl : cs60 = [.string (at_ itI (T.a.getD T.moved []) (i : Int)).1, .string (at_ itI (T.a.getD T.moved []) (i : Int)).2] := hok61
   refine V.run h63 [(0, .ls ⟨g57, o58 + (i : Int).toNat * 2, none⟩ [.string ((at_ itI (T.a.getD T.moved []) (i : Int)).1), .string ((at_ itI (T.a.getD T.moved []) (i : Int)).2)] (hE62.cells 0 _ rfl))] 1 1 0 [(23, .agg #[.string ((at_ itI (T.a.getD T.moved []) (i : Int)).1), .string ((at_ itI (T.a.getD T.moved []) (i : Int)).2)])] fun a h68 => ?_
   refine V.go (V.mk [] trivial (by kernel_rfl) [.string ⟨#[]⟩, .string ⟨#[]⟩] 93 (fun b => .pointer (some ⟨b, 0, none⟩)) (by kernel_rfl) ?_)
   intro w65 b64 heb64 hB66 hF67 hsb64
   have hRB_69 := hRB_35.fr0 hF67
   have hK_70 := hK_36.alloc hF67 heb64 (by omega)
   have hF0_71 := hF0_37.tr hF67 (fun _ _ => .inl trivial)
   have hB_72 := hB_38.fr0 hF67
   have hRA_73 := hRA_39.fr0 hF67
   have hFP_74 := hFP_40.tr0 hF67
   have hS9_75 := hS9_41.fr0 hF67
   have hE62_76 := hE62.fr0 hF67
   refine V.pt h68 fun a h77 => ?_
   refine V.go (V.stn b64 0 (.agg #[.string ((at_ itI (T.a.getD T.moved []) (i : Int)).1), .string ((at_ itI (T.a.getD T.moved []) (i : Int)).2)]) [.string ((at_ itI (T.a.getD T.moved []) (i : Int)).1), .string ((at_ itI (T.a.getD T.moved []) (i : Int)).2)] h77.e h77.e rfl rfl (by kernel_rfl) hB66 (by simp) [.string ((at_ itI (T.a.getD T.moved []) (i : Int)).1), .string ((at_ itI (T.a.getD T.moved []) (i : Int)).2)] rfl ?_)
   intro w78 hB79 hF80 hsw78
   have hRB_81 := hRB_69.fr1 hF80 (by omega)
   have hK_82 := hK_70.fr hF80 (by simp)
   have hF0_83 := hF0_71.tr hF80 (fun _ _ => .inl trivial)
   have hB_84 := hB_72.fr1 hF80 (by omega)
   have hRA_85 := hRA_73.fr1 hF80 (by omega)
   have hFP_86 := hFP_74.tr1 hF80 (by first | exact .inl (by assumption) | exact .inr (by omega) | exact .inl (.inl rfl))
   have hS9_87 := hS9_75.fr hF80 (by intro x hx hz; simp only [List.mem_singleton] at hx; subst hx; first | (have := (hoh _ hz).2; omega) | exact (hoh _ hz).1 (by simp))
   have hE62_88 := hE62_76.fr hF80 (by simp <;> omega)
   refine V.nt (k56 _ _ ?_)
   refine V.seq fun K89 k90 => ?_
   have hkz := ks_at (R := itI) (hks.1 T.moved) (i := (i : Int)) (by omega) (by omega)
   refine V.rg ?_
   refine V.run h77 [(2, .b hB79 0)] 3 25 25 [(24, .pointer (some ⟨t, 0, none⟩)), (26, .string ((at_ itI (T.a.getD T.moved []) (i : Int)).1))] fun a h91 => ?_
   refine V.cl h91 (Go.Proofs.enters_of Try.func58 (by kernel_rfl) rfl) (bucket_M1 w78 t T.seed T.a.length T.b.length 0 gA gB (.int .i64 (T.moved : Int)) (.int .i64 (T.n : Int)) hB_84 ((at_ itI (T.a.getD T.moved []) (i : Int)).1) (by omega) (by omega) (by omega) (by omega)) ?_
   rintro _ w93 ⟨rfl, hF92⟩
   refine ⟨_, rfl, fun a h94 => ?_⟩
   have hsw93 := hF92.size
   have hRB_95 := hRB_81.fr0 hF92
   have hK_96 := hK_82.fr0 hF92
   have hF0_97 := hF0_83.tr hF92 (fun _ _ => .inl trivial)
   have hB_98 := hB_84.fr0 hF92
   have hRA_99 := hRA_85.fr0 hF92
   have hFP_100 := hFP_86.tr0 hF92
   have hS9_101 := hS9_87.fr0 hF92
   have hE62_102 := hE62_88.fr0 hF92
   have hB79_103 := hB79.fr0 hF92
   have hbl92 := bkt_lt T.seed ((at_ itI (T.a.getD T.moved []) (i : Int)).1) (n := T.b.length) (by omega)
   refine V.re h94 [] 1 0 [(4, .int .i64 ((bkt T.seed T.b.length ((at_ itI (T.a.getD T.moved []) (i : Int)).1) : Nat) : Int))] fun a h104 => k90 _ _ ?_
   have hfg := flat_getD xb (bkt T.seed T.b.length ((at_ itI (T.a.getD T.moved []) (i : Int)).1))
   refine V.pl [([0,1,2,3,4,5,6,7,8,9,10,11,12,13,14],some (15,[4,10,13])),([],some (16,[4])),([17],some (18,[])),([],none)] fun w105 hF106 hsw105 => ?_
   have hRB_107 := hRB_95.fr0 hF106
   have hK_108 := hK_96.fr0 hF106
   have hF0_109 := hF0_97.tr hF106 (fun _ _ => .inl trivial)
   have hB_110 := hB_98.fr0 hF106
   have hRA_111 := hRA_99.fr0 hF106
   have hFP_112 := hFP_100.tr0 hF106
   have hS9_113 := hS9_101.fr0 hF106
   have hE62_114 := hE62_102.fr0 hF106
   have hB79_115 := hB79_103.fr0 hF106
   obtain ⟨A116, c117, hv118⟩ := hK_108.getB hlA2 (i := (bkt T.seed T.b.length ((at_ itI (T.a.getD T.moved []) (i : Int)).1))) (by omega) nilS
   have hS119 := hK_108.slB hlA2 (i := (bkt T.seed T.b.length ((at_ itI (T.a.getD T.moved []) (i : Int)).1))) (by omega) hv118
   refine V.pe h104 [(4, .b hB_110 2), (5, .b hB_110 2), (1, .ix gB 0 T.b.length T.b.length .i64 ((bkt T.seed T.b.length ((at_ itI (T.a.getD T.moved []) (i : Int)).1) : Nat) : Int) 1 rfl), (0, .l ⟨gB, 0 + ((bkt T.seed T.b.length ((at_ itI (T.a.getD T.moved []) (i : Int)).1) : Nat) : Int).toNat * 1, none⟩ (.slice A116 ((xb.getD (bkt T.seed T.b.length ((at_ itI (T.a.getD T.moved []) (i : Int)).1)) []).length) c117) ((hRB_107.at (bkt T.seed T.b.length ((at_ itI (T.a.getD T.moved []) (i : Int)).1)) nilS (by omega)).trans (congrArg some hv118))), (0, .bs hB79_115 0 [.string ((at_ itI (T.a.getD T.moved []) (i : Int)).1), .string ((at_ itI (T.a.getD T.moved []) (i : Int)).2)])] 28 39 [(31, .pointer (some ⟨t, 2, none⟩)), (32, .slice (some ⟨gB, 0, none⟩) T.b.length T.b.length), (33, .int .i64 ((bkt T.seed T.b.length ((at_ itI (T.a.getD T.moved []) (i : Int)).1) : Nat) : Int)), (37, .pointer (some ⟨t, 2, none⟩)), (40, .pointer (some ⟨gB, 0 + ((bkt T.seed T.b.length ((at_ itI (T.a.getD T.moved []) (i : Int)).1) : Nat) : Int).toNat * 1, none⟩)), (41, .slice A116 ((xb.getD (bkt T.seed T.b.length ((at_ itI (T.a.getD T.moved []) (i : Int)).1)) []).length) c117), (42, .agg #[.string ((at_ itI (T.a.getD T.moved []) (i : Int)).1), .string ((at_ itI (T.a.getD T.moved []) (i : Int)).2)])] fun a h120 => ?_
   refine V.go (V.mk [(42, .agg #[.string ((at_ itI (T.a.getD T.moved []) (i : Int)).1), .string ((at_ itI (T.a.getD T.moved []) (i : Int)).2)])] ⟨h120.e, trivial⟩ (by kernel_rfl) [.string ((at_ itI (T.a.getD T.moved []) (i : Int)).1), .string ((at_ itI (T.a.getD T.moved []) (i : Int)).2)] 93 (fun b => .slice (some ⟨b, 0, none⟩) 1 1) (by kernel_rfl) ?_)
   intro w122 b121 heb121 hB123 hF124 hsb121
   have hRB_125 := hRB_107.fr0 hF124
   have hK_126 := hK_108.alloc hF124 heb121 (by omega)
   have hF0_127 := hF0_109.tr hF124 (fun _ _ => .inl trivial)
   have hB_128 := hB_110.fr0 hF124
   have hRA_129 := hRA_111.fr0 hF124
   have hFP_130 := hFP_112.tr0 hF124
   have hS9_131 := hS9_113.fr0 hF124
   have hE62_132 := hE62_114.fr0 hF124
   have hB79_133 := hB79_115.fr0 hF124
   have hS119_134 := hS119.fr0 hF124
   refine V.pt h120 fun a h135 => ?_
   refine V.eh ⟨(fun _ => held_blk (n := 1) (hx := (h120.e (v := (.pointer (some ⟨t, 2, none⟩))))) hB_110 hB_128 (by kernel_rfl) rfl (by simp only [List.length]; omega)), (fun _ => held_blk (n := 1) (hx := (h120.e (v := (.pointer (some ⟨t, 2, none⟩))))) hB_110 hB_128 (by kernel_rfl) rfl (by simp only [List.length]; omega)), (fun _ => held_row (hx := (h120.e (v := (.pointer (some ⟨gB, 0 + ((bkt T.seed T.b.length ((at_ itI (T.a.getD T.moved []) (i : Int)).1) : Nat) : Int).toNat * 1, none⟩))))) hRB_107 hRB_125 (by kernel_rfl) (by omega))⟩ ?_
   refine V.pe h135 [] 1 0 [] fun a h136 => ?_
   refine V.go (V.appRB (R := itI) (ys := ([((at_ itI (T.a.getD T.moved []) (i : Int)).1, (at_ itI (T.a.getD T.moved []) (i : Int)).2)])) (news := [.string ((at_ itI (T.a.getD T.moved []) (i : Int)).1), .string ((at_ itI (T.a.getD T.moved []) (i : Int)).2)]) hK_126 hlA2 (i := (bkt T.seed T.b.length ((at_ itI (T.a.getD T.moved []) (i : Int)).1))) (by omega) hv118 (h136.e (v := (.slice A116 ((xb.getD (bkt T.seed T.b.length ((at_ itI (T.a.getD T.moved []) (i : Int)).1)) []).length) c117))) ⟨b121, 0, none⟩ 1 1 (h136.e (v := (.slice (some ⟨b121, 0, none⟩) 1 1))) (by kernel_rfl) (info93) (by kernel_rfl) (by decide) rfl ⟨[.string ((at_ itI (T.a.getD T.moved []) (i : Int)).1), .string ((at_ itI (T.a.getD T.moved []) (i : Int)).2)], [], rfl, rfl, rfl⟩ (blk_cells hB123 0 _ rfl) (by omega) (by decide) (.inr (by omega)) ?_)
   intro A137 c138 w139 hK140 hF141 ho142
   have hsw139 := hF141.size
   have hRB_143 := hRB_125.fr hF141 (fun hm => (ho142 _ hm).1 (by simp))
   have hF0_144 := hF0_127.tr hF141 (fun _ _ => .inl trivial)
   have hB_145 := hB_128.fr hF141 (fun hm => (ho142 _ hm).1 (by simp))
   have hRA_146 := hRA_129.fr hF141 (fun hm => (ho142 _ hm).1 (by simp))
   have hFP_147 := hFP_130.tr hF141 (fun k hk => ((ho142 k hk).2).imp (fun h => ⟨h, fun hm => (ho142 k hk).1 (by simp [hm])⟩) id)
   have hS9_148 := hS9_131.fr hF141 (fun k hk hz => (ho142 k hk).1 (by simp at hz; simp [hz]))
   have hB79_149 := hB79_133.fr hF141 (fun hm => (ho142 _ hm).1 (by simp))
   refine V.pt h136 fun a h150 => ?_
   refine V.eh (fun _ => held_blk (n := 1) (hx := (h136.e (v := (.pointer (some ⟨t, 2, none⟩))))) hB_128 hB_145 (by kernel_rfl) rfl (by simp only [List.length]; omega)) ?_
   refine V.pe h150 [(0, .ix gB 0 T.b.length T.b.length .i64 ((bkt T.seed T.b.length ((at_ itI (T.a.getD T.moved []) (i : Int)).1) : Nat) : Int) 1 rfl)] 1 0 [(45, .pointer (some ⟨gB, 0 + ((bkt T.seed T.b.length ((at_ itI (T.a.getD T.moved []) (i : Int)).1) : Nat) : Int).toNat * 1, none⟩))] fun a h151 => ?_
   refine V.go (V.strow (enc := idV) gB (((bkt T.seed T.b.length ((at_ itI (T.a.getD T.moved []) (i : Int)).1) : Nat) : Int).toNat) (.slice A137 ((xb.getD (bkt T.seed T.b.length ((at_ itI (T.a.getD T.moved []) (i : Int)).1)) []).length + 1) c138) h151.e h151.e rfl rfl (by kernel_rfl) hRB_143 (by first | omega | (simp only [List.length_set, List.length_replicate]; omega)) ?_)
   intro w152 hR153 hF154 hsw152
   have hF0_155 := hF0_144.tr hF154 (fun _ _ => .inl trivial)
   have hB_156 := hB_145.fr1 hF154 (by omega)
   have hRA_157 := hRA_146.fr1 hF154 (by omega)
   have hFP_158 := hFP_147.tr1 hF154 (by first | exact .inl (by assumption) | exact .inr (by omega) | exact .inl (.inl rfl))
   have hS9_159 := hS9_148.fr hF154 (by intro x hx hz; simp only [List.mem_singleton] at hx; subst hx; first | (have := (hoh _ hz).2; omega) | exact (hoh _ hz).1 (by simp))
   have hB79_160 := hB79_149.fr1 hF154 (by omega)
   have hK140_161 := hK140.fr hF154 (by simp)
   refine V.eh trivial ?_
   refine V.pz h151 [] 1 0 [] fun a h162 => ?_
   refine V.blk_n ?_
   refine V.then_n (k54 _ _ ?_)
   refine V.rr h162 [(0, .i ((i : Int) + 1))] 46 46 [(20, .int .i64 ((i : Int) + 1))] fun a h163 => ?_
   refine V.then_n ?_
   refine ⟨i + 1, vb.set (((bkt T.seed T.b.length ((at_ itI (T.a.getD T.moved []) (i : Int)).1) : Nat) : Int).toNat) (.slice A137 ((xb.getD (bkt T.seed T.b.length ((at_ itI (T.a.getD T.moved []) (i : Int)).1)) []).length + 1) c138), (xb.set (bkt T.seed T.b.length ((at_ itI (T.a.getD T.moved []) (i : Int)).1)) (xb.getD (bkt T.seed T.b.length ((at_ itI (T.a.getD T.moved []) (i : Int)).1)) [] ++ [((at_ itI (T.a.getD T.moved []) (i : Int)).1, (at_ itI (T.a.getD T.moved []) (i : Int)).2)])), by omega, ?_⟩
   refine ⟨(h163.eq 20 (v := (.int .i64 ((i : Int) + 1))) (u := (.int .i64 ((i + 1) : Int))) (V.int_eq (by omega))).only _, hR153, (hK140_161.sub (fun k hk => List.mem_cons_of_mem _ (List.mem_cons_of_mem _ (hk))) (fun k _ _ q => q)), hF0_155, hB_156, hRA_157, hFP_158, hS9_159, (by omega), (by simp [hlb]), (by rw [take_at itI (by omega), List.foldl_append, hxb, List.foldl_cons, List.foldl_nil]; unfold putB; rw [hxl])⟩
  ·
   refine V.exit ?_
   refine V.then_e ?_
   refine V.then_e ?_
   refine V.blk_hit ?_
   refine V.then_n (k17 _ _ ?_)
   refine V.seq fun K164 k165 => ?_
   have hxe : xb = (movedT T).b := by (rw [← hxb, List.take_of_length_le (by omega)]; rfl)
   refine V.pl [([0,1,2,3,4,5,6,7,8,9],some (10,[])),([],none)] fun w166 hF167 hsw166 => ?_
   have hRB_168 := hRB_35.fr0 hF167
   have hK_169 := hK_36.fr0 hF167
   have hF0_170 := hF0_37.tr hF167 (fun _ _ => .inl trivial)
   have hB_171 := hB_38.fr0 hF167
   have hRA_172 := hRA_39.fr0 hF167
   have hFP_173 := hFP_40.tr0 hF167
   have hS9_174 := hS9_41.fr0 hF167
   refine V.pe h49 [(4, .b hB_171 1), (3, .b hB_171 3), (0, .ix gA 0 T.a.length T.a.length .i64 (T.moved : Int) 1 rfl)] 47 55 [(56, .pointer (some ⟨gA, 0 + (T.moved : Int).toNat * 1, none⟩))] fun a h175 => ?_
   refine V.go (V.strow (enc := idV) gA ((T.moved : Int).toNat) (.slice none 0 0) h175.e evc rfl rfl (by kernel_rfl) hRA_172 (by first | omega | (simp only [List.length_set, List.length_replicate]; omega)) ?_)
   intro w176 hR177 hF178 hsw176
   have hRB_179 := hRB_168.fr1 hF178 (by omega)
   have hK_180 := hK_169.fr hF178 (by simp)
   have hF0_181 := hF0_170.tr hF178 (fun _ _ => .inl trivial)
   have hB_182 := hB_171.fr1 hF178 (by omega)
   have hFP_183 := hFP_173.tr1 hF178 (by first | exact .inl (by assumption) | exact .inr (by omega) | exact .inl (.inl rfl))
   have hS9_184 := hS9_174.fr hF178 (by intro x hx hz; simp only [List.mem_singleton] at hx; subst hx; first | (have := (hoh _ hz).2; omega) | exact (hoh _ hz).1 (by simp))
   refine V.eh trivial ?_
   refine V.pz h175 [] 1 0 [] fun a h185 => k165 _ _ ?_
   refine V.sg fun K186 k187 => ?_
   refine V.run h185 [(3, .b hB_182 3), (0, .i ((T.moved : Int) + 1))] 7 57 62 [(61, .int .i64 ((T.moved : Int) + 1)), (63, .pointer (some ⟨t, 3, none⟩))] fun a h191 => ?_
   refine V.go (V.stn t 3 (.int .i64 ((T.moved : Int) + 1)) [.int .i64 ((T.moved : Int) + 1)] h191.e h191.e rfl rfl (by kernel_rfl) hB_182 (by simp) [.int .u64 (T.seed : Int), .slice (some ⟨gA, 0, none⟩) T.a.length T.a.length, .slice (some ⟨gB, 0, none⟩) T.b.length T.b.length, .int .i64 ((T.moved : Int) + 1), .int .i64 (T.n : Int)] rfl ?_)
   intro w188 hB189 hF190 hsw188
   have hRB_192 := hRB_179.fr1 hF190 (by omega)
   have hK_193 := hK_180.fr hF190 (by simp)
   have hF0_194 := hF0_181.tr hF190 (fun _ _ => .inl trivial)
   have hFP_195 := hFP_183.tr1 hF190 (by first | exact .inl (by assumption) | exact .inr (by omega) | exact .inl (.inl rfl))
   have hS9_196 := hS9_184.fr hF190 (by intro x hx hz; simp only [List.mem_singleton] at hx; subst hx; first | (have := (hoh _ hz).2; omega) | exact (hoh _ hz).1 (by simp))
   have hR177_197 := hR177.fr1 hF190 (by omega)
   refine V.nt (k187 _ _ ?_)
   refine V.seq fun K198 k199 => ?_
   refine V.seq fun K200 k201 => ?_
   refine V.pl [([0,1,2,3,4,5,6,7,8,9,10],none)] fun w202 hF203 hsw202 => ?_
   have hRB_204 := hRB_192.fr0 hF203
   have hK_205 := hK_193.fr0 hF203
   have hF0_206 := hF0_194.tr hF203 (fun _ _ => .inl trivial)
   have hFP_207 := hFP_195.tr0 hF203
   have hS9_208 := hS9_196.fr0 hF203
   have hR177_209 := hR177_197.fr0 hF203
   have hB189_210 := hB189.fr0 hF203
   refine V.pz h191 [(3, .b hB189_210 3), (4, .b hB189_210 1)] 64 73 [(74, .bool (decide (((T.moved : Int) + 1) < ((T.a.length : Nat) : Int))))] fun a h211 => k201 _ _ ?_
   refine V.cp h211 (((T.moved : Int) + 1) < ((T.a.length : Nat) : Int)) (fun ht212 => ?_) (fun ht212 => ?_)
   ·
    refine V.ret ?_
    refine V.then_r ?_
    refine V.r0 h211 ?_
    have hst : tbStep T = movedT T := by (unfold tbStep; rw [if_neg hb, if_pos (by omega)])
    have hsok := (tbStep_ok hok hm).1
    rw [hst] at hsok ⊢
    exact ⟨rfl, TabM.fin (T := (movedT T)) hsok (fun h => hb (by rw [← movedT_b, h]; rfl)) hB189_210 hR177_209 hRB_204 hlA2 hK_205 (mem4 (l := (((Value.slice A27 ((T.a.getD T.moved []).length) c28).ownBlock.toList ++ (t :: gA :: gB :: av)))) (by simp) (by simp) (by simp) (by intro k hk; simp [hk])) (by first | assumption | omega) (by first | assumption | omega) (by first | assumption | omega) hpt ⟨.inl hpg.1, hpg.2⟩ ⟨.inl hph.1, hph.2⟩ rfl (movedT_a T).symm (by simp [movedT]) rfl rfl hxe (movedT_b T).symm, hFP_207⟩
   ·
    refine V.skip ?_
    refine V.then_n (k199 _ _ ?_)
    refine V.seq fun K213 k214 => ?_
    refine V.pl [([0,1,2,3,4,5,6,7,8,9,10,12,13],some (11,[])),([14],some (15,[])),([16,17],some (18,[])),([],none)] fun w215 hF216 hsw215 => ?_
    have hRB_217 := hRB_204.fr0 hF216
    have hK_218 := hK_205.fr0 hF216
    have hF0_219 := hF0_206.tr hF216 (fun _ _ => .inl trivial)
    have hFP_220 := hFP_207.tr0 hF216
    have hS9_221 := hS9_208.fr0 hF216
    have hR177_222 := hR177_209.fr0 hF216
    have hB189_223 := hB189_210.fr0 hF216
    refine V.pe h211 [(7, .b hB189_223 2)] 75 86 [(77, .pointer (some ⟨t, 0, none⟩)), (82, .slice (some ⟨gB, 0, none⟩) T.b.length T.b.length), (85, .pointer (some ⟨t, 1, none⟩)), (87, .pointer (some ⟨t, 1, none⟩))] fun a h224 => ?_
    refine V.go (V.stn t 1 (.slice (some ⟨gB, 0, none⟩) T.b.length T.b.length) [.slice (some ⟨gB, 0, none⟩) T.b.length T.b.length] h224.e h224.e rfl rfl (by kernel_rfl) hB189_223 (by simp) [.int .u64 (T.seed : Int), .slice (some ⟨gB, 0, none⟩) T.b.length T.b.length, .slice (some ⟨gB, 0, none⟩) T.b.length T.b.length, .int .i64 ((T.moved : Int) + 1), .int .i64 (T.n : Int)] rfl ?_)
    intro w225 hB226 hF227 hsw225
    have hRB_228 := hRB_217.fr1 hF227 (by omega)
    have hK_229 := hK_218.fr hF227 (by simp)
    have hF0_230 := hF0_219.tr hF227 (fun _ _ => .inl trivial)
    have hFP_231 := hFP_220.tr1 hF227 (by first | exact .inl (by assumption) | exact .inr (by omega) | exact .inl (.inl rfl))
    have hS9_232 := hS9_221.fr hF227 (by intro x hx hz; simp only [List.mem_singleton] at hx; subst hx; first | (have := (hoh _ hz).2; omega) | exact (hoh _ hz).1 (by simp))
    have hR177_233 := hR177_222.fr1 hF227 (by omega)
    refine V.eh trivial ?_
    refine V.pe h224 [] 1 0 [(88, .pointer (some ⟨t, 2, none⟩))] fun a h234 => ?_
    refine V.go (V.stn t 2 (.slice none 0 0) [.slice none 0 0] h234.e evc rfl rfl (by kernel_rfl) hB226 (by simp) [.int .u64 (T.seed : Int), .slice (some ⟨gB, 0, none⟩) T.b.length T.b.length, .slice none 0 0, .int .i64 ((T.moved : Int) + 1), .int .i64 (T.n : Int)] rfl ?_)
    intro w235 hB236 hF237 hsw235
    have hRB_238 := hRB_228.fr1 hF237 (by omega)
    have hK_239 := hK_229.fr hF237 (by simp)
    have hF0_240 := hF0_230.tr hF237 (fun _ _ => .inl trivial)
    have hFP_241 := hFP_231.tr1 hF237 (by first | exact .inl (by assumption) | exact .inr (by omega) | exact .inl (.inl rfl))
    have hS9_242 := hS9_232.fr hF237 (by intro x hx hz; simp only [List.mem_singleton] at hx; subst hx; first | (have := (hoh _ hz).2; omega) | exact (hoh _ hz).1 (by simp))
    have hR177_243 := hR177_233.fr1 hF237 (by omega)
    refine V.eh trivial ?_
    refine V.pe h234 [] 89 89 [(90, .pointer (some ⟨t, 3, none⟩))] fun a h244 => ?_
    refine V.go (V.stn t 3 (.int .i64 0) [.int .i64 0] h244.e evc rfl rfl (by kernel_rfl) hB236 (by simp) [.int .u64 (T.seed : Int), .slice (some ⟨gB, 0, none⟩) T.b.length T.b.length, .slice none 0 0, .int .i64 0, .int .i64 (T.n : Int)] rfl ?_)
    intro w245 hB246 hF247 hsw245
    have hRB_248 := hRB_238.fr1 hF247 (by omega)
    have hK_249 := hK_239.fr hF247 (by simp)
    have hF0_250 := hF0_240.tr hF247 (fun _ _ => .inl trivial)
    have hFP_251 := hFP_241.tr1 hF247 (by first | exact .inl (by assumption) | exact .inr (by omega) | exact .inl (.inl rfl))
    have hS9_252 := hS9_242.fr hF247 (by intro x hx hz; simp only [List.mem_singleton] at hx; subst hx; first | (have := (hoh _ hz).2; omega) | exact (hoh _ hz).1 (by simp))
    have hR177_253 := hR177_243.fr1 hF247 (by omega)
    refine V.eh trivial ?_
    refine V.pz h244 [] 1 0 [] fun a h254 => k214 _ _ ?_
    have h255 := h254.only [(0, .pointer (some ⟨t, 0, none⟩))]
    refine V.seq fun K256 k257 => ?_
    refine V.pl [([0,1,2,3,4,5,6,7,8,9,10],none)] fun w258 hF259 hsw258 => ?_
    have hRB_260 := hRB_248.fr0 hF259
    have hK_261 := hK_249.fr0 hF259
    have hF0_262 := hF0_250.tr hF259 (fun _ _ => .inl trivial)
    have hFP_263 := hFP_251.tr0 hF259
    have hS9_264 := hS9_252.fr0 hF259
    have hR177_265 := hR177_253.fr0 hF259
    have hB246_266 := hB246.fr0 hF259
    refine V.pz h255 [(3, .b hB246_266 4), (4, .b hB246_266 1)] 91 100 [(101, .bool (decide ((T.n : Int) > ((T.b.length : Nat) : Int))))] fun a h267 => k257 _ _ ?_
    refine V.cp h267 ((T.n : Int) > ((T.b.length : Nat) : Int)) (fun ht268 => ?_) (fun ht268 => ?_)
    ·
     refine V.rg ?_
     refine V.run h267 [(5, .b hB246_266 1), (1, .q (.int .i64 ((2 * T.b.length : Nat) : Int)) (w_mulN (by omega)))] 8 103 108 [(102, .pointer (some ⟨t, 0, none⟩)), (109, .int .i64 ((2 * T.b.length : Nat) : Int))] fun a h269 => ?_
     have hKd270 := hK_261.dropNil hlA2
     have hsok2 : (swapT (movedT T)).Ok := swapT_ok hok hm hb (by omega)
     have hN271 : TabN 91 94 93 itI w258 (gh H w) av t gB vb (swapT (movedT T)) := TabN.mk2 hB246_266 hRB_260 hKd270 (mem3 (by simp) (by simp) (by intro k hk; simp [hk])) hne2 ⟨.inl hpt.1, hpt.2⟩ ⟨.inl hph.1, hph.2⟩ rfl (movedT_b T).symm rfl rfl hxe
     have hmb := movedT_b T
     refine V.cl h269 (Go.Proofs.enters_of Try.func59 (by kernel_rfl) rfl) (start_N w258 (gh H w) av t gB vb (swapT (movedT T)) hsok2 hN271 (2 * T.b.length) rfl (by omega) (by omega)) ?_
     rintro _ w274 ⟨rfl, hT272, hfp273⟩
     refine ⟨_, rfl, fun a h275 => ?_⟩
     have hsw274 := hfp273.size
     have hFP_276 := hFP_263.trP hfp273 (fun k hk => hk.1.imp (fun h => ⟨h, hk.2⟩) id)
     have hT272q := hT272
     rw [show 2 * T.b.length = 2 * (movedT T).b.length by rw [movedT_b]] at hT272q
     refine V.nil ?_
     refine V.e0 h275 ?_
     have hst : tbStep T = startT (swapT (movedT T)) (2 * (movedT T).b.length) := by (unfold tbStep; rw [if_neg hb, if_neg (by omega), if_pos (by rw [movedT_b]; omega)])
     have hsok := (tbStep_ok hok hm).1
     rw [hst] at hsok ⊢
     exact ⟨rfl, hT272q.gr2 (by omega), hFP_276⟩
    ·
     refine V.skip ?_
     refine V.e0 h267 ?_
     have hst : tbStep T = swapT (movedT T) := by (unfold tbStep; rw [if_neg hb, if_neg (by omega), if_neg (by rw [movedT_b]; omega)])
     have hsok := (tbStep_ok hok hm).1
     rw [hst] at hsok ⊢
     have hKd277 := hK_261.dropNil hlA2
     exact ⟨rfl, TabN.fin (T := (swapT (movedT T))) hsok rfl hB246_266 hRB_260 hKd277 (mem3 (l := (((Value.slice A27 ((T.a.getD T.moved []).length) c28).ownBlock.toList ++ (t :: gA :: gB :: av)))) (by simp) (by simp) (by intro k hk; simp [hk])) (by first | assumption | exact Ne.symm (by assumption) | omega) hpt ⟨.inl hph.1, hph.2⟩ rfl (movedT_b T).symm rfl rfl hxe, hFP_263⟩
end Go.Proofs.Ytalhmegjomfbaaa.S
