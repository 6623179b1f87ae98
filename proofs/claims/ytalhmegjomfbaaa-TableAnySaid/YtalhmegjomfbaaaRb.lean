/- Walks: the reference: a step. -/
import Derived.Test.YtalhmegjomfbaaaProg
import Derived.Test.YtalhmegjomfbaaaRa
namespace Go.Proofs.Ytalhmegjomfbaaa
open Go.V Go.Base
open Go.RowKit (Below)
attribute [local irreducible] Act.put Act.eval
set_option linter.unusedVariables false
set_option linter.unusedSimpArgs false
set_option maxHeartbeats 4000000 in
set_option maxRecDepth 20000 in
theorem rstep_N (w : World) (H : Nat → Prop) (av : List Nat) (t gA : Nat) (vsA : List Value) (T : Tb Int) (hok : T.Ok) (hT : TabN 40 42 60 itI w H av t gA vsA T) (hb : T.b.length = 0) : Calls Try.prog 49 #[.pointer (some ⟨t, 0, none⟩)] w (fun e w' => e = .returned (.bool false) ∧ Fr [] w w') := by
 have hF := Fr.refl [] w
 obtain ⟨hsd, hpa, hla, hlb, hmv, hmz, hnn, hcn, hks⟩ := hok
 obtain ⟨hB, hRA, hlA, hK, hne, hpt, hpg⟩ := hT
 have hltt := hB.lt
 have hltg := hRA.lt
 refine V.en 124 Try.func49 fun a h1 => ?_
 refine V.sr h1 [] 2 2 [] fun a h4 => ?_
 refine V.seq fun K5 k6 => ?_
 refine V.sr h4 [(3, .b hB 2)] 6 10 [(11, .bool true)] fun a h9 => ?_
 refine V.ct h9 ?_
 refine V.sr h9 [] 1 0 [(2, .bool false)] fun a h12 => ?_
 refine V.ret ?_
 refine V.then_r ?_
 refine V.r1 h12 (.bool false) ?_
 exact ⟨rfl, hF⟩
set_option maxHeartbeats 4000000 in
set_option maxRecDepth 20000 in
theorem rstep_M (w : World) (H : Nat → Prop) (av : List Nat) (t gA gB : Nat) (vsA vsB : List Value) (T : Tb Int) (hok : T.Ok) (hT : TabM 40 42 60 itI w H av t gA gB vsA vsB T) (hb : T.b.length ≠ 0) (hm : T.Mv) : Calls Try.prog 49 #[.pointer (some ⟨t, 0, none⟩)] w (fun e w' => e = .returned (.bool (decide ((tbStep T).b.length ≠ 0))) ∧ TabX 40 42 60 itI w' (gr H w w') av t (tbStep T) ∧ FrP (gp H av) w w') := by
 have hok0 := hok
 have hK0 : ∀ k ∈ av, k < w.heap.size := fun k hk => hT.bk.avl k (by simp [hk])
 obtain ⟨hsd, hpa, hla, hlb, hmv, hmz, hnn, hcn, hks⟩ := hok0
 obtain ⟨hB, hRA, hRB, hlA, hlB, hK, hne, hne2, hne3, hpt, hpg, hph⟩ := hT
 have hltg2 := hRB.lt
 have hltt := hB.lt
 have hltg := hRA.lt
 have hFP := FrP.refl (gp H av) w
 replace hK := hK.toH
 refine V.en 124 Try.func49 fun a h1 => ?_
 refine V.sr h1 [] 2 2 [] fun a h4 => ?_
 refine V.seq fun K5 k6 => ?_
 refine V.sr h4 [(3, .b hB 2), (1, .eq ((T.b.length : Nat) : Int) 0)] 6 10 [(11, .bool (decide (((T.b.length : Nat) : Int) = 0)))] fun a h9 => ?_
 refine V.cp h9 (((T.b.length : Nat) : Int) = 0) (fun ht10 => ?_) (fun ht10 => ?_)
 ·
  refine V.sr h9 [] 1 0 [(2, .bool false)] fun a h13 => ?_
  refine V.ret ?_
  refine V.then_r ?_
  refine V.r1 h13 (.bool false) ?_
  exact absurd ht10 (by omega)
 ·
  refine V.skip ?_
  refine V.then_n (k6 _ _ ?_)
  refine V.seq fun K14 k15 => ?_
  refine V.pl [([0,1,2,3,4,5,6,7,8,9,10],none)] fun w16 hF17 hsw16 => ?_
  have hB_18 := hB.fr0 hF17
  have hRA_19 := hRA.fr0 hF17
  have hRB_20 := hRB.fr0 hF17
  have hK_21 := hK.fr0 hF17
  have hFP_22 := hFP.tr0 hF17
  obtain ⟨A23, c24, hv25⟩ := hK_21.getA hlA (i := T.moved) (by omega) nilS
  have hS26 := hK_21.slA hlA (i := T.moved) (by omega) hv25
  refine V.pz h9 [(3, .b hB_18 1), (3, .b hB_18 3), (0, .ix gA 0 T.a.length T.a.length .i64 (T.moved : Int) 1 rfl), (0, .l ⟨gA, 0 + (T.moved : Int).toNat * 1, none⟩ (.slice A23 ((T.a.getD T.moved []).length) c24) ((hRA_19.at T.moved nilS (by omega)).trans (congrArg some hv25)))] 12 21 [(3, .slice A23 ((T.a.getD T.moved []).length) c24)] fun a h27 => k15 _ _ ?_
  refine V.seq fun K28 k29 => ?_
  obtain ⟨hK9, hS9, hoh⟩ := hK_21.takeA hlA (i := T.moved) (by omega) hv25
  have hlA2 : (vsA.set T.moved nilS).length = (T.a.set T.moved []).length := by simp [hlA]
  refine V.pl [([0,1,2,3,4,5,6,7,8],some (9,[])),([],none)] fun w30 hF31 hsw30 => ?_
  have hB_32 := hB_18.fr0 hF31
  have hRA_33 := hRA_19.fr0 hF31
  have hRB_34 := hRB_20.fr0 hF31
  have hFP_35 := hFP_22.tr0 hF31
  have hK9_36 := hK9.fr0 hF31
  have hS9_37 := hS9.fr0 hF31
  refine V.pe h27 [(3, .b hB_32 1), (3, .b hB_32 3), (0, .ix gA 0 T.a.length T.a.length .i64 (T.moved : Int) 1 rfl)] 22 29 [(30, .pointer (some ⟨gA, 0 + (T.moved : Int).toNat * 1, none⟩))] fun a h38 => ?_
  refine V.go (V.strow (enc := idV) gA ((T.moved : Int).toNat) (.slice none 0 0) h38.e evc rfl rfl (by kernel_rfl) hRA_33 (by first | omega | (simp only [List.length_set, List.length_replicate]; omega)) ?_)
  intro w39 hR40 hF41 hsw39
  have hB_42 := hB_32.fr1 hF41 (by omega)
  have hRB_43 := hRB_34.fr1 hF41 (by omega)
  have hFP_44 := hFP_35.tr1 hF41 (by first | exact .inl (by assumption) | exact .inr (by omega) | exact .inl (.inl rfl))
  have hK9_45 := hK9_36.fr hF41 (by simp)
  have hS9_46 := hS9_37.fr hF41 (by intro x hx hz; simp only [List.mem_singleton] at hx; subst hx; first | (have := (hoh _ hz).2; omega) | exact (hoh _ hz).1 (by simp))
  refine V.eh trivial ?_
  refine V.pz h38 [] 1 0 [] fun a h47 => k29 _ _ ?_
  refine V.seq fun K48 k49 => ?_
  refine V.sr h47 [] 1 0 [(4, .int .i64 0)] fun a h52 => ?_
  refine V.block ?_
  refine V.loop3 (fun (i : Nat) (vb : List Value) (xb : List (List (ByteArray × Int))) a_ w_ => En 124 [] a_ [(0, .pointer (some ⟨t, 0, none⟩)), (3, .slice A23 ((T.a.getD T.moved []).length) c24), (4, .int .i64 (i : Int))] ∧ Row idV w_ gB vb 42 ∧ Bks itI w_ 60 (gh H w) (((Value.slice A23 ((T.a.getD T.moved []).length) c24).ownBlock.toList ++ (t :: gA :: gB :: av))) (vsA.set T.moved nilS ++ vb) (T.a.set T.moved [] ++ xb) ∧ FrP (fun _ => True) w39 w_ ∧ Blk w_ t [.int .u64 (T.seed : Int), .slice (some ⟨gA, 0, none⟩) T.a.length T.a.length, .slice (some ⟨gB, 0, none⟩) T.b.length T.b.length, .int .i64 (T.moved : Int), .int .i64 (T.n : Int)] 40 ∧ FrP (gp H av) w w_ ∧ SlR itI (fun k => k ∈ (Value.slice A23 ((T.a.getD T.moved []).length) c24).ownBlock.toList) w_ (.slice A23 ((T.a.getD T.moved []).length) c24) (T.a.getD T.moved []) ∧ Row idV w_ gA (vsA.set ((T.moved : Int).toNat) (.slice none 0 0)) 42 ∧ (i ≤ (T.a.getD T.moved []).length) ∧ (vb.length = xb.length) ∧ (((T.a.getD T.moved []).take i).foldl (putB T.seed) T.b = xb)) (fun (i : Nat) (vb : List Value) (xb : List (List (ByteArray × Int))) => (T.a.getD T.moved []).length - i) 0 vsB T.b ?_ ?_
  ·
   refine ⟨(h52.eq 4 (v := (.int .i64 0)) (u := (.int .i64 (0 : Int))) (V.int_eq (by omega))).only _, hRB_43, hK9_45, (FrP.refl _ _), hB_42, hFP_44, hS9_46, hR40, (by omega), hlB, (by simp)⟩
  ·
   rintro i vb xb a53 w54 ⟨h55, hRB_56, hK_57, hF0_58, hB_59, hFP_60, hS9_61, hR40_62, hi, hlb, hxb⟩
   have hlt63 := hRB_56.lt
   have hfs64 := hF0_58.size
   have hlt65 := hB_59.lt
   have hfs66 := hFP_60.size
   have hlt67 := hR40_62.lt
   have hxl : xb.length = T.b.length := by rw [← hxb, putBs_length]
   have hfl : xb.flatten.length = T.b.flatten.length + i := by (rw [← hxb, putBs_flat _ _ (by omega), List.length_take]; omega)
   have hsum := hok.sum
   have hfa := flat_getD T.a T.moved
   refine V.seq fun K68 k69 => ?_
   refine V.sr h55 [] 31 33 [(34, .bool (decide ((i : Int) < (((T.a.getD T.moved []).length : Nat) : Int))))] fun a h72 => ?_
   refine V.cp h72 ((i : Int) < (((T.a.getD T.moved []).length : Nat) : Int)) (fun ht73 => ?_) (fun ht73 => ?_)
   ·
    refine V.skip ?_
    refine V.then_n (k69 _ _ ?_)
    refine V.seq fun K74 k75 => ?_
    refine V.block ?_
    refine V.seq fun K76 k77 => ?_
    have hkz := ks_at (R := itI) (hks.1 T.moved) (i := (i : Int)) (by omega) (by omega)
    refine V.pl [([0,1,2,3,4,5,6,7,8,9,10],some (11,[])),([12],none)] fun w78 hF79 hsw78 => ?_
    have hRB_80 := hRB_56.fr0 hF79
    have hK_81 := hK_57.fr0 hF79
    have hF0_82 := hF0_58.tr hF79 (fun _ _ => .inl trivial)
    have hB_83 := hB_59.fr0 hF79
    have hFP_84 := hFP_60.tr0 hF79
    have hS9_85 := hS9_61.fr0 hF79
    have hR40_86 := hR40_62.fr0 hF79
    obtain ⟨g87, o88, hA89, hA89l, hA89z⟩ := hS9_85.addr (by omega)
    obtain ⟨cs90, hok91, hE92⟩ := hS9_85.els hA89 (i : Int) (by omega) (by omega)
    refine V.pe0 ?_
    refine V.run h72 [(4, .b hB_83 2), (3, .ix g87 o88 ((T.a.getD T.moved []).length) c24 .i64 (i : Int) 2 hA89)] 10 39 45 [(37, .pointer (some ⟨t, 0, none⟩)), (38, .pointer (some ⟨t, 0, none⟩)), (41, .slice (some ⟨gB, 0, none⟩) T.b.length T.b.length), (42, .int .i64 ((T.b.length : Nat) : Int)), (46, .pointer (some ⟨g87, o88 + (i : Int).toNat * 2, none⟩))] fun a h93 => ?_
    obtain rfl : cs90 = [.string (at_ itI (T.a.getD T.moved []) (i : Int)).1, .int .i64 (at_ itI (T.a.getD T.moved []) (i : Int)).2] := hok91
    refine V.se h93 [(0, .l ⟨g87, o88 + (i : Int).toNat * 2, none⟩ (.string ((at_ itI (T.a.getD T.moved []) (i : Int)).1)) (hE92.at 0 rfl))] 1 0 [(47, .string ((at_ itI (T.a.getD T.moved []) (i : Int)).1))] fun a h94 => ?_
    refine V.cl h94 (Go.Proofs.enters_of Try.func72 (by kernel_rfl) rfl) (rbucket_blk w78 t T.seed (.slice (some ⟨gA, 0, none⟩) T.a.length T.a.length) (.slice (some ⟨gB, 0, none⟩) T.b.length T.b.length) (.int .i64 (T.moved : Int)) (.int .i64 (T.n : Int)) hB_83 T.b.length ((at_ itI (T.a.getD T.moved []) (i : Int)).1)  (by omega) (by omega) (by omega) (by omega)) ?_
    rintro _ w96 ⟨rfl, hF95⟩
    refine ⟨_, rfl, fun a h97 => ?_⟩
    have hsw96 := hF95.size
    have hRB_98 := hRB_80.fr0 hF95
    have hK_99 := hK_81.fr0 hF95
    have hF0_100 := hF0_82.tr hF95 (fun _ _ => .inl trivial)
    have hB_101 := hB_83.fr0 hF95
    have hFP_102 := hFP_84.tr0 hF95
    have hS9_103 := hS9_85.fr0 hF95
    have hR40_104 := hR40_86.fr0 hF95
    have hE92_105 := hE92.fr0 hF95
    have hbl95 := bkt_lt T.seed ((at_ itI (T.a.getD T.moved []) (i : Int)).1) (n := T.b.length) (by omega)
    refine V.eh trivial ?_
    refine V.pz h97 [] 1 0 [(5, .int .i64 ((bkt T.seed T.b.length ((at_ itI (T.a.getD T.moved []) (i : Int)).1) : Nat) : Int))] fun a h106 => k77 _ _ ?_
    have hfg := flat_getD xb (bkt T.seed T.b.length ((at_ itI (T.a.getD T.moved []) (i : Int)).1))
    refine V.pl [([0,1,2,3,4,5,6,7,8,9,10,11,12,13,14,15],some (16,[3,8,11])),([],some (17,[3])),([18],some (19,[])),([],none)] fun w107 hF108 hsw107 => ?_
    have hRB_109 := hRB_98.fr0 hF108
    have hK_110 := hK_99.fr0 hF108
    have hF0_111 := hF0_100.tr hF108 (fun _ _ => .inl trivial)
    have hB_112 := hB_101.fr0 hF108
    have hFP_113 := hFP_102.tr0 hF108
    have hS9_114 := hS9_103.fr0 hF108
    have hR40_115 := hR40_104.fr0 hF108
    have hE92_116 := hE92_105.fr0 hF108
    obtain ⟨A117, c118, hv119⟩ := hK_110.getB hlA2 (i := (bkt T.seed T.b.length ((at_ itI (T.a.getD T.moved []) (i : Int)).1))) (by omega) nilS
    have hS120 := hK_110.slB hlA2 (i := (bkt T.seed T.b.length ((at_ itI (T.a.getD T.moved []) (i : Int)).1))) (by omega) hv119
    refine V.pe h106 [(3, .b hB_112 2), (4, .b hB_112 2), (1, .ix gB 0 T.b.length T.b.length .i64 ((bkt T.seed T.b.length ((at_ itI (T.a.getD T.moved []) (i : Int)).1) : Nat) : Int) 1 rfl), (0, .l ⟨gB, 0 + ((bkt T.seed T.b.length ((at_ itI (T.a.getD T.moved []) (i : Int)).1) : Nat) : Int).toNat * 1, none⟩ (.slice A117 ((xb.getD (bkt T.seed T.b.length ((at_ itI (T.a.getD T.moved []) (i : Int)).1)) []).length) c118) ((hRB_109.at (bkt T.seed T.b.length ((at_ itI (T.a.getD T.moved []) (i : Int)).1)) nilS (by omega)).trans (congrArg some hv119))), (2, .ix g87 o88 ((T.a.getD T.moved []).length) c24 .i64 (i : Int) 2 hA89), (0, .ls ⟨g87, o88 + (i : Int).toNat * 2, none⟩ [.string ((at_ itI (T.a.getD T.moved []) (i : Int)).1), .int .i64 ((at_ itI (T.a.getD T.moved []) (i : Int)).2)] (hE92_116.cells 0 _ rfl))] 49 63 [(51, .pointer (some ⟨t, 2, none⟩)), (52, .slice (some ⟨gB, 0, none⟩) T.b.length T.b.length), (53, .int .i64 ((bkt T.seed T.b.length ((at_ itI (T.a.getD T.moved []) (i : Int)).1) : Nat) : Int)), (56, .pointer (some ⟨t, 2, none⟩)), (59, .pointer (some ⟨gB, 0 + ((bkt T.seed T.b.length ((at_ itI (T.a.getD T.moved []) (i : Int)).1) : Nat) : Int).toNat * 1, none⟩)), (60, .slice A117 ((xb.getD (bkt T.seed T.b.length ((at_ itI (T.a.getD T.moved []) (i : Int)).1)) []).length) c118), (64, .agg #[.string ((at_ itI (T.a.getD T.moved []) (i : Int)).1), .int .i64 ((at_ itI (T.a.getD T.moved []) (i : Int)).2)])] fun a h121 => ?_
    refine V.go (V.mk [(64, .agg #[.string ((at_ itI (T.a.getD T.moved []) (i : Int)).1), .int .i64 ((at_ itI (T.a.getD T.moved []) (i : Int)).2)])] ⟨h121.e, trivial⟩ (by kernel_rfl) [.string ((at_ itI (T.a.getD T.moved []) (i : Int)).1), .int .i64 ((at_ itI (T.a.getD T.moved []) (i : Int)).2)] 60 (fun b => .slice (some ⟨b, 0, none⟩) 1 1) (by kernel_rfl) ?_)
    intro w123 b122 heb122 hB124 hF125 hsb122
    have hRB_126 := hRB_109.fr0 hF125
    have hK_127 := hK_110.alloc hF125 heb122 (by omega)
    have hF0_128 := hF0_111.tr hF125 (fun _ _ => .inl trivial)
    have hB_129 := hB_112.fr0 hF125
    have hFP_130 := hFP_113.tr0 hF125
    have hS9_131 := hS9_114.fr0 hF125
    have hR40_132 := hR40_115.fr0 hF125
    have hE92_133 := hE92_116.fr0 hF125
    have hS120_134 := hS120.fr0 hF125
    refine V.pt h121 fun a h135 => ?_
    refine V.eh ⟨(fun _ => held_blk (n := 1) (hx := (h121.e (v := (.pointer (some ⟨t, 2, none⟩))))) hB_112 hB_129 (by kernel_rfl) rfl (by simp only [List.length]; omega)), (fun _ => held_blk (n := 1) (hx := (h121.e (v := (.pointer (some ⟨t, 2, none⟩))))) hB_112 hB_129 (by kernel_rfl) rfl (by simp only [List.length]; omega)), (fun _ => held_row (hx := (h121.e (v := (.pointer (some ⟨gB, 0 + ((bkt T.seed T.b.length ((at_ itI (T.a.getD T.moved []) (i : Int)).1) : Nat) : Int).toNat * 1, none⟩))))) hRB_109 hRB_126 (by kernel_rfl) (by omega))⟩ ?_
    refine V.pe h135 [] 1 0 [] fun a h136 => ?_
    refine V.go (V.appRB (R := itI) (ys := ([((at_ itI (T.a.getD T.moved []) (i : Int)).1, (at_ itI (T.a.getD T.moved []) (i : Int)).2)])) (news := [.string ((at_ itI (T.a.getD T.moved []) (i : Int)).1), .int .i64 ((at_ itI (T.a.getD T.moved []) (i : Int)).2)]) hK_127 hlA2 (i := (bkt T.seed T.b.length ((at_ itI (T.a.getD T.moved []) (i : Int)).1))) (by omega) hv119 (h136.e (v := (.slice A117 ((xb.getD (bkt T.seed T.b.length ((at_ itI (T.a.getD T.moved []) (i : Int)).1)) []).length) c118))) ⟨b122, 0, none⟩ 1 1 (h136.e (v := (.slice (some ⟨b122, 0, none⟩) 1 1))) (by kernel_rfl) (info60) (by kernel_rfl) (by decide) rfl ⟨[.string ((at_ itI (T.a.getD T.moved []) (i : Int)).1), .int .i64 ((at_ itI (T.a.getD T.moved []) (i : Int)).2)], [], rfl, rfl, rfl⟩ (blk_cells hB124 0 _ rfl) (by omega) (by decide) (.inr (by omega)) ?_)
    intro A137 c138 w139 hK140 hF141 ho142
    have hsw139 := hF141.size
    have hRB_143 := hRB_126.fr hF141 (fun hm => (ho142 _ hm).1 (by simp))
    have hF0_144 := hF0_128.tr hF141 (fun _ _ => .inl trivial)
    have hB_145 := hB_129.fr hF141 (fun hm => (ho142 _ hm).1 (by simp))
    have hFP_146 := hFP_130.tr hF141 (fun k hk => ((ho142 k hk).2).imp (fun h => ⟨h, fun hm => (ho142 k hk).1 (by simp [hm])⟩) id)
    have hS9_147 := hS9_131.fr hF141 (fun k hk hz => (ho142 k hk).1 (by simp at hz; simp [hz]))
    have hR40_148 := hR40_132.fr hF141 (fun hm => (ho142 _ hm).1 (by simp))
    refine V.pt h136 fun a h149 => ?_
    refine V.eh (fun _ => held_blk (n := 1) (hx := (h136.e (v := (.pointer (some ⟨t, 2, none⟩))))) hB_129 hB_145 (by kernel_rfl) rfl (by simp only [List.length]; omega)) ?_
    refine V.pe h149 [(0, .ix gB 0 T.b.length T.b.length .i64 ((bkt T.seed T.b.length ((at_ itI (T.a.getD T.moved []) (i : Int)).1) : Nat) : Int) 1 rfl)] 1 0 [(67, .pointer (some ⟨gB, 0 + ((bkt T.seed T.b.length ((at_ itI (T.a.getD T.moved []) (i : Int)).1) : Nat) : Int).toNat * 1, none⟩))] fun a h150 => ?_
    refine V.go (V.strow (enc := idV) gB (((bkt T.seed T.b.length ((at_ itI (T.a.getD T.moved []) (i : Int)).1) : Nat) : Int).toNat) (.slice A137 ((xb.getD (bkt T.seed T.b.length ((at_ itI (T.a.getD T.moved []) (i : Int)).1)) []).length + 1) c138) h150.e h150.e rfl rfl (by kernel_rfl) hRB_143 (by first | omega | (simp only [List.length_set, List.length_replicate]; omega)) ?_)
    intro w151 hR152 hF153 hsw151
    have hF0_154 := hF0_144.tr hF153 (fun _ _ => .inl trivial)
    have hB_155 := hB_145.fr1 hF153 (by omega)
    have hFP_156 := hFP_146.tr1 hF153 (by first | exact .inl (by assumption) | exact .inr (by omega) | exact .inl (.inl rfl))
    have hS9_157 := hS9_147.fr hF153 (by intro x hx hz; simp only [List.mem_singleton] at hx; subst hx; first | (have := (hoh _ hz).2; omega) | exact (hoh _ hz).1 (by simp))
    have hR40_158 := hR40_148.fr1 hF153 (by omega)
    have hK140_159 := hK140.fr hF153 (by simp)
    refine V.eh trivial ?_
    refine V.pz h150 [] 1 0 [] fun a h160 => ?_
    refine V.blk_n ?_
    refine V.then_n (k75 _ _ ?_)
    refine V.rr h160 [(1, .i ((i : Int) + 1))] 35 36 [(4, .int .i64 ((i : Int) + 1))] fun a h161 => ?_
    refine V.then_n ?_
    refine ⟨i + 1, vb.set (((bkt T.seed T.b.length ((at_ itI (T.a.getD T.moved []) (i : Int)).1) : Nat) : Int).toNat) (.slice A137 ((xb.getD (bkt T.seed T.b.length ((at_ itI (T.a.getD T.moved []) (i : Int)).1)) []).length + 1) c138), (xb.set (bkt T.seed T.b.length ((at_ itI (T.a.getD T.moved []) (i : Int)).1)) (xb.getD (bkt T.seed T.b.length ((at_ itI (T.a.getD T.moved []) (i : Int)).1)) [] ++ [((at_ itI (T.a.getD T.moved []) (i : Int)).1, (at_ itI (T.a.getD T.moved []) (i : Int)).2)])), by omega, ?_⟩
    refine ⟨(h161.eq 4 (v := (.int .i64 ((i : Int) + 1))) (u := (.int .i64 ((i + 1) : Int))) (V.int_eq (by omega))).only _, hR152, (hK140_159.sub (fun k hk => List.mem_cons_of_mem _ (hk)) (fun k _ _ q => q)), hF0_154, hB_155, hFP_156, hS9_157, hR40_158, (by omega), (by simp [hlb]), (by rw [take_at itI (by omega), List.foldl_append, hxb, List.foldl_cons, List.foldl_nil]; unfold putB; rw [hxl])⟩
   ·
    refine V.exit ?_
    refine V.then_e ?_
    refine V.then_e ?_
    refine V.blk_hit ?_
    refine V.then_n (k49 _ _ ?_)
    refine V.seq fun K162 k163 => ?_
    have hxe : xb = (movedT T).b := by (rw [← hxb, List.take_of_length_le (by omega)]; rfl)
    have hmb := movedT_b T
    refine V.rg ?_
    refine V.run h72 [(3, .b hB_59 3), (0, .i ((T.moved : Int) + 1))] 7 68 73 [(72, .int .i64 ((T.moved : Int) + 1)), (74, .pointer (some ⟨t, 3, none⟩))] fun a h167 => ?_
    refine V.go (V.stn t 3 (.int .i64 ((T.moved : Int) + 1)) [.int .i64 ((T.moved : Int) + 1)] h167.e h167.e rfl rfl (by kernel_rfl) hB_59 (by simp) [.int .u64 (T.seed : Int), .slice (some ⟨gA, 0, none⟩) T.a.length T.a.length, .slice (some ⟨gB, 0, none⟩) T.b.length T.b.length, .int .i64 ((T.moved : Int) + 1), .int .i64 (T.n : Int)] rfl ?_)
    intro w164 hB165 hF166 hsw164
    have hRB_168 := hRB_56.fr1 hF166 (by omega)
    have hK_169 := hK_57.fr hF166 (by simp)
    have hF0_170 := hF0_58.tr hF166 (fun _ _ => .inl trivial)
    have hFP_171 := hFP_60.tr1 hF166 (by first | exact .inl (by assumption) | exact .inr (by omega) | exact .inl (.inl rfl))
    have hS9_172 := hS9_61.fr hF166 (by intro x hx hz; simp only [List.mem_singleton] at hx; subst hx; first | (have := (hoh _ hz).2; omega) | exact (hoh _ hz).1 (by simp))
    have hR40_173 := hR40_62.fr1 hF166 (by omega)
    refine V.nt (k163 _ _ ?_)
    refine V.seq fun K174 k175 => ?_
    refine V.seq fun K176 k177 => ?_
    refine V.pl [([0,1,2,3,4,5,6,7,8,9],none)] fun w178 hF179 hsw178 => ?_
    have hRB_180 := hRB_168.fr0 hF179
    have hK_181 := hK_169.fr0 hF179
    have hF0_182 := hF0_170.tr hF179 (fun _ _ => .inl trivial)
    have hFP_183 := hFP_171.tr0 hF179
    have hS9_184 := hS9_172.fr0 hF179
    have hR40_185 := hR40_173.fr0 hF179
    have hB165_186 := hB165.fr0 hF179
    refine V.pz h167 [(3, .b hB165_186 3), (3, .b hB165_186 1), (1, .eq ((T.moved : Int) + 1) ((T.a.length : Nat) : Int))] 75 83 [(84, .bool (decide (((T.moved : Int) + 1) = ((T.a.length : Nat) : Int))))] fun a h187 => k177 _ _ ?_
    refine V.cp h187 (((T.moved : Int) + 1) = ((T.a.length : Nat) : Int)) (fun ht188 => ?_) (fun ht188 => ?_)
    ·
     refine V.sg fun K189 k190 => ?_
     refine V.run h187 [(6, .b hB165_186 2)] 9 85 92 [(86, .pointer (some ⟨t, 0, none⟩)), (87, .pointer (some ⟨t, 0, none⟩)), (91, .slice (some ⟨gB, 0, none⟩) T.b.length T.b.length), (93, .pointer (some ⟨t, 1, none⟩))] fun a h194 => ?_
     refine V.go (V.stn t 1 (.slice (some ⟨gB, 0, none⟩) T.b.length T.b.length) [.slice (some ⟨gB, 0, none⟩) T.b.length T.b.length] h194.e h194.e rfl rfl (by kernel_rfl) hB165_186 (by simp) [.int .u64 (T.seed : Int), .slice (some ⟨gB, 0, none⟩) T.b.length T.b.length, .slice (some ⟨gB, 0, none⟩) T.b.length T.b.length, .int .i64 ((T.moved : Int) + 1), .int .i64 (T.n : Int)] rfl ?_)
     intro w191 hB192 hF193 hsw191
     have hRB_195 := hRB_180.fr1 hF193 (by omega)
     have hK_196 := hK_181.fr hF193 (by simp)
     have hF0_197 := hF0_182.tr hF193 (fun _ _ => .inl trivial)
     have hFP_198 := hFP_183.tr1 hF193 (by first | exact .inl (by assumption) | exact .inr (by omega) | exact .inl (.inl rfl))
     have hS9_199 := hS9_184.fr hF193 (by intro x hx hz; simp only [List.mem_singleton] at hx; subst hx; first | (have := (hoh _ hz).2; omega) | exact (hoh _ hz).1 (by simp))
     have hR40_200 := hR40_185.fr1 hF193 (by omega)
     refine V.run h194 [] 2 94 94 [(95, .pointer (some ⟨t, 2, none⟩))] fun a h204 => ?_
     refine V.go (V.stn t 2 (.slice none 0 0) [.slice none 0 0] h204.e evc rfl rfl (by kernel_rfl) hB192 (by simp) [.int .u64 (T.seed : Int), .slice (some ⟨gB, 0, none⟩) T.b.length T.b.length, .slice none 0 0, .int .i64 ((T.moved : Int) + 1), .int .i64 (T.n : Int)] rfl ?_)
     intro w201 hB202 hF203 hsw201
     have hRB_205 := hRB_195.fr1 hF203 (by omega)
     have hK_206 := hK_196.fr hF203 (by simp)
     have hF0_207 := hF0_197.tr hF203 (fun _ _ => .inl trivial)
     have hFP_208 := hFP_198.tr1 hF203 (by first | exact .inl (by assumption) | exact .inr (by omega) | exact .inl (.inl rfl))
     have hS9_209 := hS9_199.fr hF203 (by intro x hx hz; simp only [List.mem_singleton] at hx; subst hx; first | (have := (hoh _ hz).2; omega) | exact (hoh _ hz).1 (by simp))
     have hR40_210 := hR40_200.fr1 hF203 (by omega)
     refine V.run h204 [] 2 96 96 [(97, .pointer (some ⟨t, 3, none⟩))] fun a h214 => ?_
     refine V.go (V.stn t 3 (.int .i64 0) [.int .i64 0] h214.e evc rfl rfl (by kernel_rfl) hB202 (by simp) [.int .u64 (T.seed : Int), .slice (some ⟨gB, 0, none⟩) T.b.length T.b.length, .slice none 0 0, .int .i64 0, .int .i64 (T.n : Int)] rfl ?_)
     intro w211 hB212 hF213 hsw211
     have hRB_215 := hRB_205.fr1 hF213 (by omega)
     have hK_216 := hK_206.fr hF213 (by simp)
     have hF0_217 := hF0_207.tr hF213 (fun _ _ => .inl trivial)
     have hFP_218 := hFP_208.tr1 hF213 (by first | exact .inl (by assumption) | exact .inr (by omega) | exact .inl (.inl rfl))
     have hS9_219 := hS9_209.fr hF213 (by intro x hx hz; simp only [List.mem_singleton] at hx; subst hx; first | (have := (hoh _ hz).2; omega) | exact (hoh _ hz).1 (by simp))
     have hR40_220 := hR40_210.fr1 hF213 (by omega)
     refine V.nt (k190 _ _ ?_)
     refine V.seq fun K221 k222 => ?_
     refine V.pl [([0,1,2,3,4,5,6,7,8,9],none)] fun w223 hF224 hsw223 => ?_
     have hRB_225 := hRB_215.fr0 hF224
     have hK_226 := hK_216.fr0 hF224
     have hF0_227 := hF0_217.tr hF224 (fun _ _ => .inl trivial)
     have hFP_228 := hFP_218.tr0 hF224
     have hS9_229 := hS9_219.fr0 hF224
     have hR40_230 := hR40_220.fr0 hF224
     have hB212_231 := hB212.fr0 hF224
     refine V.pz h214 [(3, .b hB212_231 4), (3, .b hB212_231 1)] 98 106 [(107, .bool (decide ((T.n : Int) > ((T.b.length : Nat) : Int))))] fun a h232 => k222 _ _ ?_
     have h233 := h232.only [(0, .pointer (some ⟨t, 0, none⟩)), (107, .bool (decide ((T.n : Int) > ((T.b.length : Nat) : Int))))]
     refine V.cp h233 ((T.n : Int) > ((T.b.length : Nat) : Int)) (fun ht234 => ?_) (fun ht234 => ?_)
     ·
      refine V.rg ?_
      refine V.run h233 [(4, .b hB212_231 1), (1, .q (.int .i64 ((2 * T.b.length : Nat) : Int)) (w_mulN (by omega)))] 7 109 113 [(108, .pointer (some ⟨t, 0, none⟩)), (114, .int .i64 ((2 * T.b.length : Nat) : Int))] fun a h239 => ?_
      refine V.go (V.mks (enc := idV) (2 * T.b.length) (.slice none 0 0) nilS 24 ((h239.e (v := (.int .i64 ((2 * T.b.length : Nat) : Int)))).trans (V.int_eq (by omega))) ((h239.e (v := (.int .i64 ((2 * T.b.length : Nat) : Int)))).trans (V.int_eq (by omega))) (by kernel_rfl) info42 rfl rfl (by omega) (by omega) ?_)
      intro w236 b235 heb235 hR237 hF238
      have hsb235 := hR237.lt
      have hRB_240 := hRB_225.fr0 hF238
      have hK_241 := hK_226.alloc hF238 heb235 (by omega)
      have hF0_242 := hF0_227.tr hF238 (fun _ _ => .inl trivial)
      have hFP_243 := hFP_228.tr0 hF238
      have hS9_244 := hS9_229.fr0 hF238
      have hR40_245 := hR40_230.fr0 hF238
      have hB212_246 := hB212_231.fr0 hF238
      refine V.pt h239 fun a h247 => ?_
      refine V.run h247 [] 2 116 116 [(117, .pointer (some ⟨t, 2, none⟩))] fun a h251 => ?_
      refine V.go (V.stn t 2 (.slice (some ⟨b235, 0, none⟩) (2 * T.b.length) (2 * T.b.length)) [.slice (some ⟨b235, 0, none⟩) (2 * T.b.length) (2 * T.b.length)] h251.e h251.e rfl rfl (by kernel_rfl) hB212_246 (by simp) [.int .u64 (T.seed : Int), .slice (some ⟨gB, 0, none⟩) T.b.length T.b.length, .slice (some ⟨b235, 0, none⟩) (2 * T.b.length) (2 * T.b.length), .int .i64 0, .int .i64 (T.n : Int)] rfl ?_)
      intro w248 hB249 hF250 hsw248
      have hRB_252 := hRB_240.fr1 hF250 (by omega)
      have hK_253 := hK_241.fr hF250 (by simp)
      have hF0_254 := hF0_242.tr hF250 (fun _ _ => .inl trivial)
      have hFP_255 := hFP_243.tr1 hF250 (by first | exact .inl (by assumption) | exact .inr (by omega) | exact .inl (.inl rfl))
      have hS9_256 := hS9_244.fr hF250 (by intro x hx hz; simp only [List.mem_singleton] at hx; subst hx; first | (have := (hoh _ hz).2; omega) | exact (hoh _ hz).1 (by simp))
      have hR40_257 := hR40_245.fr1 hF250 (by omega)
      have hR237_258 := hR237.fr1 hF250 (by omega)
      refine V.nt (k175 _ _ ?_)
      refine V.sr h251 [(3, .b hB249 2)] 118 123 [(2, .bool (decide (((2 * T.b.length : Nat) : Int) > 0)))] fun a h261 => ?_
      refine V.ret ?_
      refine V.r1 h261 (.bool (decide (((2 * T.b.length : Nat) : Int) > 0))) ?_
      have hst : tbStep T = startT (swapT (movedT T)) (2 * (movedT T).b.length) := by (unfold tbStep; rw [if_neg hb, if_neg (by omega), if_pos (by omega)])
      have hsok := (tbStep_ok hok hm).1
      rw [hst] at hsok ⊢
      have hKd262 := hK_253.dropNil hlA2
      have hKa263 := hKd262.addNil (2 * T.b.length)
      have hsb : (startT (swapT (movedT T)) (2 * (movedT T).b.length)).b.length = 2 * T.b.length := by rw [← hmb]; simp [startT]
      have hsb2 : (startT (swapT (movedT T)) (2 * (movedT T).b.length)).b.length ≠ 0 := by omega
      exact ⟨congrArg (fun b => Ending.returned (Value.bool b)) (decide_eq_decide.2 ⟨fun _ => by omega, fun _ => by omega⟩), TabM.fin (T := (startT (swapT (movedT T)) (2 * (movedT T).b.length))) hsok (fun h => hsb2 (by rw [h]; rfl)) hB249 hRB_252 hR237_258 hlb hKa263 (mem4 (l := (b235 :: ((Value.slice A23 ((T.a.getD T.moved []).length) c24).ownBlock.toList ++ (t :: gA :: gB :: av)))) (by simp) (by simp) (by simp) (by intro k hk; simp [hk])) (by first | assumption | omega) (by first | assumption | omega) (by first | assumption | omega) hpt ⟨.inl hph.1, hph.2⟩ ⟨.inr (by omega), fun hm => by have := hK0 _ hm; omega⟩ rfl (movedT_b T).symm rfl rfl hxe (by rw [← hmb]; rfl) hsb.symm, hFP_255⟩
     ·
      refine V.skip ?_
      refine V.then_n (k175 _ _ ?_)
      refine V.sr h233 [(3, .b hB212_231 2)] 118 123 [(2, .bool false)] fun a h266 => ?_
      refine V.ret ?_
      refine V.r1 h266 (.bool false) ?_
      have hst : tbStep T = swapT (movedT T) := by (unfold tbStep; rw [if_neg hb, if_neg (by omega), if_neg (by omega)])
      have hsok := (tbStep_ok hok hm).1
      rw [hst] at hsok ⊢
      have hKd267 := hK_226.dropNil hlA2
      exact ⟨rfl, TabN.fin (T := (swapT (movedT T))) hsok rfl hB212_231 hRB_225 hKd267 (mem3 (l := (((Value.slice A23 ((T.a.getD T.moved []).length) c24).ownBlock.toList ++ (t :: gA :: gB :: av)))) (by simp) (by simp) (by intro k hk; simp [hk])) (by first | assumption | exact Ne.symm (by assumption) | omega) hpt ⟨.inl hph.1, hph.2⟩ rfl (movedT_b T).symm rfl rfl hxe, hFP_228⟩
    ·
     refine V.skip ?_
     refine V.then_n (k175 _ _ ?_)
     refine V.sr h187 [(3, .b hB165_186 2)] 118 123 [(2, .bool (decide (((T.b.length : Nat) : Int) > 0)))] fun a h270 => ?_
     refine V.ret ?_
     refine V.r1 h270 (.bool (decide (((T.b.length : Nat) : Int) > 0))) ?_
     have hst : tbStep T = movedT T := by (unfold tbStep; rw [if_neg hb, if_pos (by omega)])
     have hsok := (tbStep_ok hok hm).1
     rw [hst] at hsok ⊢
     exact ⟨congrArg (fun b => Ending.returned (Value.bool b)) (decide_eq_decide.2 ⟨fun _ => by omega, fun _ => by omega⟩), TabM.fin (T := (movedT T)) hsok (fun h => hb (by rw [← movedT_b, h]; rfl)) hB165_186 hR40_185 hRB_180 hlA2 hK_181 (mem4 (l := (((Value.slice A23 ((T.a.getD T.moved []).length) c24).ownBlock.toList ++ (t :: gA :: gB :: av)))) (by simp) (by simp) (by simp) (by intro k hk; simp [hk])) (by first | assumption | omega) (by first | assumption | omega) (by first | assumption | omega) hpt ⟨.inl hpg.1, hpg.2⟩ ⟨.inl hph.1, hph.2⟩ rfl (movedT_a T).symm (by simp [movedT]) rfl rfl hxe (movedT_b T).symm, hFP_183⟩
end Go.Proofs.Ytalhmegjomfbaaa
