/- Walks: Look, Get, Step, Sizes, Len, New. -/
import Derived.Test.YtalhmegjomfbaaaProg
import Derived.Test.YtalhmegjomfbaaaTe
namespace Go.Proofs.Ytalhmegjomfbaaa
open Go.V Go.Base
open Go.RowKit (Below)
attribute [local irreducible] Act.put Act.eval
set_option linter.unusedVariables false
set_option linter.unusedSimpArgs false
set_option maxHeartbeats 4000000 in
set_option maxRecDepth 20000 in
theorem look_any (w : World) (H : Nat → Prop) (av : List Nat) (t : Nat) (T1 : Tb Int) (hT : TabX 67 87 86 itI w H av t T1) (k : ByteArray) (hkz : k.size ≤ 9223372036854775807) : Calls Try.prog 22 #[.pointer (some ⟨t, 0, none⟩), .string k] w (fun e w' => e = .returned (.tuple #[.int .i64 (lookT 0 T1 k).1, .bool (lookT 0 T1 k).2]) ∧ Fr [] w w') := by
 have hFP := FrP.refl (gp H av) w
 have hF := Fr.refl [] w
 refine V.en 38 Try.func22 fun a h1 => ?_
 refine V.sr h1 [] 4 5 [] fun a h4 => ?_
 refine V.sr h4 [] 1 0 [(6, .int .i64 0)] fun a h7 => ?_
 refine V.seq fun K8 k9 => ?_
 refine V.sg fun K10 k11 => ?_
 refine V.run h7 [] 1 1 0 [(9, .pointer (some ⟨t, 0, none⟩))] fun a h12 => ?_
 refine V.cl h12 (Go.Proofs.enters_of Try.func51 (by kernel_rfl) rfl) (made_any w (H) (av) t (T1) hT) ?_
 rintro _ w14 ⟨rfl, hF13⟩
 refine ⟨_, rfl, fun a h15 => ?_⟩
 have hsw14 := hF13.size
 have hT_16 := hT.fr0 hF13
 have hFP_17 := hFP.tr0 hF13
 have hF_18 := hF.new hF13
 refine V.re h15 [] 1 0 [(11, .bool false)] fun a h19 => k11 _ _ ?_
 refine V.cf h19 ?_
 refine V.skip ?_
 refine V.then_n (k9 _ _ ?_)
 refine V.sg fun K20 k21 => ?_
 refine V.run h19 [] 2 1 0 [(14, .pointer (some ⟨t, 0, none⟩)), (15, .string k)] fun a h22 => ?_
 have hok1 := hT_16.1
 rcases findT_cases hok1 k with hf | ⟨j, hf, hj⟩ | ⟨hbn, j, hf, hj⟩
 ·
  rcases hT_16.2 with ⟨hb0, gA, vsA, hN⟩ | ⟨hb0, gA, gB, vsA, vsB, hN⟩
  ·
   have hb1 : T1.b.length = 0 := by rw [hb0]; rfl
   obtain ⟨hB, hRA, hlA, hK, hne, hpt, hpg⟩ := hN
   replace hK := hK.toH
   have hltt := hB.lt
   have hltg := hRA.lt
   have hE : FrP (gp (H) av) w14 w14 := FrP.refl _ _
   have hK0 : ∀ k ∈ av, k < w14.heap.size := fun k hk => hK.avl k (by simp [hk])
   obtain ⟨hsd, hpa, hla, hlb, hmv, hmz, hnn, hcn, hks⟩ := (show T1.Ok from hok1)
   have hbl := hok1.bl
   have hFPE := hFP_17
   refine V.cl (av := #[.pointer (some ⟨t, 0, none⟩), .string k]) h22 (Go.Proofs.enters_of Try.func53 (by kernel_rfl) rfl) (by have h := find_any w14 (H) (av) t T1 hT_16 k hkz; rw [hf] at h; exact h) ?_
   rintro _ w24 ⟨rfl, hF23⟩
   refine ⟨_, rfl, fun a h25 => ?_⟩
   have hsw24 := hF23.size
   have hF_26 := hF_18.new hF23
   have hB_27 := hB.fr0 hF23
   have hRA_28 := hRA.fr0 hF23
   have hK_29 := hK.fr0 hF23
   have hE_30 := hE.tr0 hF23
   refine V.run h25 [] 3 13 13 [(17, .agg #[.int .i64 0, .int .i64 0, .int .i64 0]), (18, .bool false)] fun a h35 => ?_
   refine V.go (V.mk [] trivial (by kernel_rfl) [.int .i64 0, .int .i64 0, .int .i64 0] 82 (fun b => .pointer (some ⟨b, 0, none⟩)) (by kernel_rfl) ?_)
   intro w32 b31 heb31 hB33 hF34 hsb31
   have hF_36 := hF_26.new hF34
   have hB_37 := hB_27.fr0 hF34
   have hRA_38 := hRA_28.fr0 hF34
   have hK_39 := hK_29.alloc hF34 heb31 (by omega)
   have hE_40 := hE_30.tr0 hF34
   refine V.pt h35 fun a h41 => ?_
   refine V.go (V.stn b31 0 (.agg #[.int .i64 0, .int .i64 0, .int .i64 0]) [.int .i64 0, .int .i64 0, .int .i64 0] h41.e h41.e rfl rfl (by kernel_rfl) hB33 (by simp) [.int .i64 0, .int .i64 0, .int .i64 0] rfl ?_)
   intro w42 hB43 hF44 hsw42
   have hF_45 := hF_36.own hF44 (by simp <;> omega)
   have hB_46 := hB_37.fr1 hF44 (by omega)
   have hRA_47 := hRA_38.fr1 hF44 (by omega)
   have hK_48 := hK_39.fr hF44 (by simp)
   have hE_49 := hE_40.tr1 hF44 (by first | exact .inl (by assumption) | exact .inr (by omega) | exact .inl (.inl rfl))
   refine V.re h41 [] 1 0 [(8, .bool false)] fun a h50 => k21 _ _ ?_
   refine V.seq fun K51 k52 => ?_
   refine V.sr h50 [] 19 19 [(20, .bool true)] fun a h55 => ?_
   refine V.ct h55 ?_
   refine V.sr h55 [] 21 21 [(4, .int .i64 0), (5, .bool false)] fun a h58 => ?_
   refine V.ret ?_
   refine V.then_r ?_
   refine V.r2 h58 (.int .i64 0) (.bool false) ?_
   refine ⟨?_, hF_45⟩
   unfold lookT; rw [hf]
   rfl
  ·
   have hb1 : T1.b.length ≠ 0 := fun h => hb0 (List.eq_nil_of_length_eq_zero h)
   obtain ⟨hB, hRA, hRB, hlA, hlB, hK, hne, hne2, hne3, hpt, hpg, hph⟩ := hN
   replace hK := hK.toH
   have hltt := hB.lt
   have hltg := hRA.lt
   have hltg2 := hRB.lt
   have hE : FrP (gp (H) av) w14 w14 := FrP.refl _ _
   have hK0 : ∀ k ∈ av, k < w14.heap.size := fun k hk => hK.avl k (by simp [hk])
   obtain ⟨hsd, hpa, hla, hlb, hmv, hmz, hnn, hcn, hks⟩ := (show T1.Ok from hok1)
   have hbl := hok1.bl
   have hFPE := hFP_17
   refine V.cl (av := #[.pointer (some ⟨t, 0, none⟩), .string k]) h22 (Go.Proofs.enters_of Try.func53 (by kernel_rfl) rfl) (by have h := find_any w14 (H) (av) t T1 hT_16 k hkz; rw [hf] at h; exact h) ?_
   rintro _ w60 ⟨rfl, hF59⟩
   refine ⟨_, rfl, fun a h61 => ?_⟩
   have hsw60 := hF59.size
   have hF_62 := hF_18.new hF59
   have hB_63 := hB.fr0 hF59
   have hRA_64 := hRA.fr0 hF59
   have hRB_65 := hRB.fr0 hF59
   have hK_66 := hK.fr0 hF59
   have hE_67 := hE.tr0 hF59
   refine V.run h61 [] 3 13 13 [(17, .agg #[.int .i64 0, .int .i64 0, .int .i64 0]), (18, .bool false)] fun a h72 => ?_
   refine V.go (V.mk [] trivial (by kernel_rfl) [.int .i64 0, .int .i64 0, .int .i64 0] 82 (fun b => .pointer (some ⟨b, 0, none⟩)) (by kernel_rfl) ?_)
   intro w69 b68 heb68 hB70 hF71 hsb68
   have hF_73 := hF_62.new hF71
   have hB_74 := hB_63.fr0 hF71
   have hRA_75 := hRA_64.fr0 hF71
   have hRB_76 := hRB_65.fr0 hF71
   have hK_77 := hK_66.alloc hF71 heb68 (by omega)
   have hE_78 := hE_67.tr0 hF71
   refine V.pt h72 fun a h79 => ?_
   refine V.go (V.stn b68 0 (.agg #[.int .i64 0, .int .i64 0, .int .i64 0]) [.int .i64 0, .int .i64 0, .int .i64 0] h79.e h79.e rfl rfl (by kernel_rfl) hB70 (by simp) [.int .i64 0, .int .i64 0, .int .i64 0] rfl ?_)
   intro w80 hB81 hF82 hsw80
   have hF_83 := hF_73.own hF82 (by simp <;> omega)
   have hB_84 := hB_74.fr1 hF82 (by omega)
   have hRA_85 := hRA_75.fr1 hF82 (by omega)
   have hRB_86 := hRB_76.fr1 hF82 (by omega)
   have hK_87 := hK_77.fr hF82 (by simp)
   have hE_88 := hE_78.tr1 hF82 (by first | exact .inl (by assumption) | exact .inr (by omega) | exact .inl (.inl rfl))
   refine V.re h79 [] 1 0 [(8, .bool false)] fun a h89 => k21 _ _ ?_
   refine V.seq fun K90 k91 => ?_
   refine V.sr h89 [] 19 19 [(20, .bool true)] fun a h94 => ?_
   refine V.ct h94 ?_
   refine V.sr h94 [] 21 21 [(4, .int .i64 0), (5, .bool false)] fun a h97 => ?_
   refine V.ret ?_
   refine V.then_r ?_
   refine V.r2 h97 (.int .i64 0) (.bool false) ?_
   refine ⟨?_, hF_83⟩
   unfold lookT; rw [hf]
   rfl
 ·
  rcases hT_16.2 with ⟨hb0, gA, vsA, hN⟩ | ⟨hb0, gA, gB, vsA, vsB, hN⟩
  ·
   have hb1 : T1.b.length = 0 := by rw [hb0]; rfl
   obtain ⟨hB, hRA, hlA, hK, hne, hpt, hpg⟩ := hN
   replace hK := hK.toH
   have hltt := hB.lt
   have hltg := hRA.lt
   have hE : FrP (gp (H) av) w14 w14 := FrP.refl _ _
   have hK0 : ∀ k ∈ av, k < w14.heap.size := fun k hk => hK.avl k (by simp [hk])
   obtain ⟨hsd, hpa, hla, hlb, hmv, hmz, hnn, hcn, hks⟩ := (show T1.Ok from hok1)
   have hbl := hok1.bl
   have hFPE := hFP_17
   refine V.cl (av := #[.pointer (some ⟨t, 0, none⟩), .string k]) h22 (Go.Proofs.enters_of Try.func53 (by kernel_rfl) rfl) (by have h := find_any w14 (H) (av) t T1 hT_16 k hkz; rw [hf] at h; exact h) ?_
   rintro _ w99 ⟨rfl, hF98⟩
   refine ⟨_, rfl, fun a h100 => ?_⟩
   have hsw99 := hF98.size
   have hF_101 := hF_18.new hF98
   have hB_102 := hB.fr0 hF98
   have hRA_103 := hRA.fr0 hF98
   have hK_104 := hK.fr0 hF98
   have hE_105 := hE.tr0 hF98
   have hbkl := bkt_lt T1.seed k (n := T1.a.length) (by omega)
   refine V.run h100 [] 3 13 13 [(17, .agg #[.int .i64 0, .int .i64 ((bkt T1.seed T1.a.length k : Nat) : Int), .int .i64 (j : Int)]), (18, .bool true)] fun a h110 => ?_
   refine V.go (V.mk [] trivial (by kernel_rfl) [.int .i64 0, .int .i64 0, .int .i64 0] 82 (fun b => .pointer (some ⟨b, 0, none⟩)) (by kernel_rfl) ?_)
   intro w107 b106 heb106 hB108 hF109 hsb106
   have hF_111 := hF_101.new hF109
   have hB_112 := hB_102.fr0 hF109
   have hRA_113 := hRA_103.fr0 hF109
   have hK_114 := hK_104.alloc hF109 heb106 (by omega)
   have hE_115 := hE_105.tr0 hF109
   refine V.pt h110 fun a h116 => ?_
   refine V.go (V.stn b106 0 (.agg #[.int .i64 0, .int .i64 ((bkt T1.seed T1.a.length k : Nat) : Int), .int .i64 (j : Int)]) [.int .i64 0, .int .i64 ((bkt T1.seed T1.a.length k : Nat) : Int), .int .i64 (j : Int)] h116.e h116.e rfl rfl (by kernel_rfl) hB108 (by simp) [.int .i64 0, .int .i64 ((bkt T1.seed T1.a.length k : Nat) : Int), .int .i64 (j : Int)] rfl ?_)
   intro w117 hB118 hF119 hsw117
   have hF_120 := hF_111.own hF119 (by simp <;> omega)
   have hB_121 := hB_112.fr1 hF119 (by omega)
   have hRA_122 := hRA_113.fr1 hF119 (by omega)
   have hK_123 := hK_114.fr hF119 (by simp)
   have hE_124 := hE_115.tr1 hF119 (by first | exact .inl (by assumption) | exact .inr (by omega) | exact .inl (.inl rfl))
   refine V.re h116 [] 1 0 [(8, .bool true)] fun a h125 => k21 _ _ ?_
   refine V.seq fun K126 k127 => ?_
   refine V.sr h125 [] 19 19 [(20, .bool false)] fun a h130 => ?_
   refine V.cf h130 ?_
   refine V.skip ?_
   refine V.then_n (k127 _ _ ?_)
   refine V.seq fun K131 k132 => ?_
   refine V.pl [([0,1,2,3,4,5,6,7,8,9,10,11,12,13,14,15,16,17],none)] fun w133 hF134 hsw133 => ?_
   have hF_135 := hF_120.new hF134
   have hB_136 := hB_121.fr0 hF134
   have hRA_137 := hRA_122.fr0 hF134
   have hK_138 := hK_123.fr0 hF134
   have hE_139 := hE_124.tr0 hF134
   have hB118_140 := hB118.fr0 hF134
   obtain ⟨A141, c142, hv143⟩ := hK_138.getA hlA (i := (bkt T1.seed T1.a.length k)) (by omega) nilS
   have hS144 := hK_138.slA hlA (i := (bkt T1.seed T1.a.length k)) (by omega) hv143
   obtain ⟨g145, o146, hA147, hA147l, hA147z⟩ := hS144.addr (by omega)
   obtain ⟨cs148, hok149, hE150⟩ := hS144.els hA147 (j : Int) (by omega) (by omega)
   refine V.pz0 ?_
   refine V.run h130 [(2, .b hB118_140 0), (3, .b hB_136 1), (1, .b hB118_140 1), (0, .ix gA 0 T1.a.length T1.a.length .i64 ((bkt T1.seed T1.a.length k : Nat) : Int) 1 rfl), (0, .l ⟨gA, 0 + ((bkt T1.seed T1.a.length k : Nat) : Int).toNat * 1, none⟩ (.slice A141 ((T1.a.getD (bkt T1.seed T1.a.length k) []).length) c142) ((hRA_137.at (bkt T1.seed T1.a.length k) nilS (by omega)).trans (congrArg some hv143))), (1, .b hB118_140 2), (0, .ix g145 o146 ((T1.a.getD (bkt T1.seed T1.a.length k) []).length) c142 .i64 (j : Int) 2 hA147)] 15 23 35 [(22, .pointer (some ⟨t, 0, none⟩)), (36, .pointer (some ⟨g145, (o146 + (j : Int).toNat * 2) + 1, none⟩))] fun a h151 => ?_
   obtain rfl : cs148 = [.string (at_ itI (T1.a.getD (bkt T1.seed T1.a.length k) []) (j : Int)).1, .int .i64 (at_ itI (T1.a.getD (bkt T1.seed T1.a.length k) []) (j : Int)).2] := hok149
   refine V.se h151 [(0, .l ⟨g145, (o146 + (j : Int).toNat * 2) + 1, none⟩ (.int .i64 ((at_ itI (T1.a.getD (bkt T1.seed T1.a.length k) []) (j : Int)).2)) (hE150.at 1 rfl))] 37 37 [(4, .int .i64 ((at_ itI (T1.a.getD (bkt T1.seed T1.a.length k) []) (j : Int)).2)), (5, .bool true)] fun a h152 => k132 _ _ ?_
   refine V.ret ?_
   refine V.r2 h152 (.int .i64 ((at_ itI (T1.a.getD (bkt T1.seed T1.a.length k) []) (j : Int)).2)) (.bool true) ?_
   refine ⟨?_, hF_135⟩
   unfold lookT; rw [hf]
   rfl
  ·
   have hb1 : T1.b.length ≠ 0 := fun h => hb0 (List.eq_nil_of_length_eq_zero h)
   obtain ⟨hB, hRA, hRB, hlA, hlB, hK, hne, hne2, hne3, hpt, hpg, hph⟩ := hN
   replace hK := hK.toH
   have hltt := hB.lt
   have hltg := hRA.lt
   have hltg2 := hRB.lt
   have hE : FrP (gp (H) av) w14 w14 := FrP.refl _ _
   have hK0 : ∀ k ∈ av, k < w14.heap.size := fun k hk => hK.avl k (by simp [hk])
   obtain ⟨hsd, hpa, hla, hlb, hmv, hmz, hnn, hcn, hks⟩ := (show T1.Ok from hok1)
   have hbl := hok1.bl
   have hFPE := hFP_17
   refine V.cl (av := #[.pointer (some ⟨t, 0, none⟩), .string k]) h22 (Go.Proofs.enters_of Try.func53 (by kernel_rfl) rfl) (by have h := find_any w14 (H) (av) t T1 hT_16 k hkz; rw [hf] at h; exact h) ?_
   rintro _ w154 ⟨rfl, hF153⟩
   refine ⟨_, rfl, fun a h155 => ?_⟩
   have hsw154 := hF153.size
   have hF_156 := hF_18.new hF153
   have hB_157 := hB.fr0 hF153
   have hRA_158 := hRA.fr0 hF153
   have hRB_159 := hRB.fr0 hF153
   have hK_160 := hK.fr0 hF153
   have hE_161 := hE.tr0 hF153
   have hbkl := bkt_lt T1.seed k (n := T1.a.length) (by omega)
   refine V.run h155 [] 3 13 13 [(17, .agg #[.int .i64 0, .int .i64 ((bkt T1.seed T1.a.length k : Nat) : Int), .int .i64 (j : Int)]), (18, .bool true)] fun a h166 => ?_
   refine V.go (V.mk [] trivial (by kernel_rfl) [.int .i64 0, .int .i64 0, .int .i64 0] 82 (fun b => .pointer (some ⟨b, 0, none⟩)) (by kernel_rfl) ?_)
   intro w163 b162 heb162 hB164 hF165 hsb162
   have hF_167 := hF_156.new hF165
   have hB_168 := hB_157.fr0 hF165
   have hRA_169 := hRA_158.fr0 hF165
   have hRB_170 := hRB_159.fr0 hF165
   have hK_171 := hK_160.alloc hF165 heb162 (by omega)
   have hE_172 := hE_161.tr0 hF165
   refine V.pt h166 fun a h173 => ?_
   refine V.go (V.stn b162 0 (.agg #[.int .i64 0, .int .i64 ((bkt T1.seed T1.a.length k : Nat) : Int), .int .i64 (j : Int)]) [.int .i64 0, .int .i64 ((bkt T1.seed T1.a.length k : Nat) : Int), .int .i64 (j : Int)] h173.e h173.e rfl rfl (by kernel_rfl) hB164 (by simp) [.int .i64 0, .int .i64 ((bkt T1.seed T1.a.length k : Nat) : Int), .int .i64 (j : Int)] rfl ?_)
   intro w174 hB175 hF176 hsw174
   have hF_177 := hF_167.own hF176 (by simp <;> omega)
   have hB_178 := hB_168.fr1 hF176 (by omega)
   have hRA_179 := hRA_169.fr1 hF176 (by omega)
   have hRB_180 := hRB_170.fr1 hF176 (by omega)
   have hK_181 := hK_171.fr hF176 (by simp)
   have hE_182 := hE_172.tr1 hF176 (by first | exact .inl (by assumption) | exact .inr (by omega) | exact .inl (.inl rfl))
   refine V.re h173 [] 1 0 [(8, .bool true)] fun a h183 => k21 _ _ ?_
   refine V.seq fun K184 k185 => ?_
   refine V.sr h183 [] 19 19 [(20, .bool false)] fun a h188 => ?_
   refine V.cf h188 ?_
   refine V.skip ?_
   refine V.then_n (k185 _ _ ?_)
   refine V.seq fun K189 k190 => ?_
   refine V.pl [([0,1,2,3,4,5,6,7,8,9,10,11,12,13,14,15,16,17],none)] fun w191 hF192 hsw191 => ?_
   have hF_193 := hF_177.new hF192
   have hB_194 := hB_178.fr0 hF192
   have hRA_195 := hRA_179.fr0 hF192
   have hRB_196 := hRB_180.fr0 hF192
   have hK_197 := hK_181.fr0 hF192
   have hE_198 := hE_182.tr0 hF192
   have hB175_199 := hB175.fr0 hF192
   obtain ⟨A200, c201, hv202⟩ := hK_197.getA hlA (i := (bkt T1.seed T1.a.length k)) (by omega) nilS
   have hS203 := hK_197.slA hlA (i := (bkt T1.seed T1.a.length k)) (by omega) hv202
   obtain ⟨g204, o205, hA206, hA206l, hA206z⟩ := hS203.addr (by omega)
   obtain ⟨cs207, hok208, hE209⟩ := hS203.els hA206 (j : Int) (by omega) (by omega)
   refine V.pz0 ?_
   refine V.run h188 [(2, .b hB175_199 0), (3, .b hB_194 1), (1, .b hB175_199 1), (0, .ix gA 0 T1.a.length T1.a.length .i64 ((bkt T1.seed T1.a.length k : Nat) : Int) 1 rfl), (0, .l ⟨gA, 0 + ((bkt T1.seed T1.a.length k : Nat) : Int).toNat * 1, none⟩ (.slice A200 ((T1.a.getD (bkt T1.seed T1.a.length k) []).length) c201) ((hRA_195.at (bkt T1.seed T1.a.length k) nilS (by omega)).trans (congrArg some hv202))), (1, .b hB175_199 2), (0, .ix g204 o205 ((T1.a.getD (bkt T1.seed T1.a.length k) []).length) c201 .i64 (j : Int) 2 hA206)] 15 23 35 [(22, .pointer (some ⟨t, 0, none⟩)), (36, .pointer (some ⟨g204, (o205 + (j : Int).toNat * 2) + 1, none⟩))] fun a h210 => ?_
   obtain rfl : cs207 = [.string (at_ itI (T1.a.getD (bkt T1.seed T1.a.length k) []) (j : Int)).1, .int .i64 (at_ itI (T1.a.getD (bkt T1.seed T1.a.length k) []) (j : Int)).2] := hok208
   refine V.se h210 [(0, .l ⟨g204, (o205 + (j : Int).toNat * 2) + 1, none⟩ (.int .i64 ((at_ itI (T1.a.getD (bkt T1.seed T1.a.length k) []) (j : Int)).2)) (hE209.at 1 rfl))] 37 37 [(4, .int .i64 ((at_ itI (T1.a.getD (bkt T1.seed T1.a.length k) []) (j : Int)).2)), (5, .bool true)] fun a h211 => k190 _ _ ?_
   refine V.ret ?_
   refine V.r2 h211 (.int .i64 ((at_ itI (T1.a.getD (bkt T1.seed T1.a.length k) []) (j : Int)).2)) (.bool true) ?_
   refine ⟨?_, hF_193⟩
   unfold lookT; rw [hf]
   rfl
 ·
  rcases hT_16.2 with ⟨hb0, gA, vsA, hN⟩ | ⟨hb0, gA, gB, vsA, vsB, hN⟩
  ·
   exact absurd (by rw [hb0]; rfl) hbn
  ·
   have hb1 : T1.b.length ≠ 0 := fun h => hb0 (List.eq_nil_of_length_eq_zero h)
   obtain ⟨hB, hRA, hRB, hlA, hlB, hK, hne, hne2, hne3, hpt, hpg, hph⟩ := hN
   replace hK := hK.toH
   have hltt := hB.lt
   have hltg := hRA.lt
   have hltg2 := hRB.lt
   have hE : FrP (gp (H) av) w14 w14 := FrP.refl _ _
   have hK0 : ∀ k ∈ av, k < w14.heap.size := fun k hk => hK.avl k (by simp [hk])
   obtain ⟨hsd, hpa, hla, hlb, hmv, hmz, hnn, hcn, hks⟩ := (show T1.Ok from hok1)
   have hbl := hok1.bl
   have hFPE := hFP_17
   refine V.cl (av := #[.pointer (some ⟨t, 0, none⟩), .string k]) h22 (Go.Proofs.enters_of Try.func53 (by kernel_rfl) rfl) (by have h := find_any w14 (H) (av) t T1 hT_16 k hkz; rw [hf] at h; exact h) ?_
   rintro _ w213 ⟨rfl, hF212⟩
   refine ⟨_, rfl, fun a h214 => ?_⟩
   have hsw213 := hF212.size
   have hF_215 := hF_18.new hF212
   have hB_216 := hB.fr0 hF212
   have hRA_217 := hRA.fr0 hF212
   have hRB_218 := hRB.fr0 hF212
   have hK_219 := hK.fr0 hF212
   have hE_220 := hE.tr0 hF212
   have hbkl := bkt_lt T1.seed k (n := T1.b.length) (by omega)
   refine V.run h214 [] 3 13 13 [(17, .agg #[.int .i64 1, .int .i64 ((bkt T1.seed T1.b.length k : Nat) : Int), .int .i64 (j : Int)]), (18, .bool true)] fun a h225 => ?_
   refine V.go (V.mk [] trivial (by kernel_rfl) [.int .i64 0, .int .i64 0, .int .i64 0] 82 (fun b => .pointer (some ⟨b, 0, none⟩)) (by kernel_rfl) ?_)
   intro w222 b221 heb221 hB223 hF224 hsb221
   have hF_226 := hF_215.new hF224
   have hB_227 := hB_216.fr0 hF224
   have hRA_228 := hRA_217.fr0 hF224
   have hRB_229 := hRB_218.fr0 hF224
   have hK_230 := hK_219.alloc hF224 heb221 (by omega)
   have hE_231 := hE_220.tr0 hF224
   refine V.pt h225 fun a h232 => ?_
   refine V.go (V.stn b221 0 (.agg #[.int .i64 1, .int .i64 ((bkt T1.seed T1.b.length k : Nat) : Int), .int .i64 (j : Int)]) [.int .i64 1, .int .i64 ((bkt T1.seed T1.b.length k : Nat) : Int), .int .i64 (j : Int)] h232.e h232.e rfl rfl (by kernel_rfl) hB223 (by simp) [.int .i64 1, .int .i64 ((bkt T1.seed T1.b.length k : Nat) : Int), .int .i64 (j : Int)] rfl ?_)
   intro w233 hB234 hF235 hsw233
   have hF_236 := hF_226.own hF235 (by simp <;> omega)
   have hB_237 := hB_227.fr1 hF235 (by omega)
   have hRA_238 := hRA_228.fr1 hF235 (by omega)
   have hRB_239 := hRB_229.fr1 hF235 (by omega)
   have hK_240 := hK_230.fr hF235 (by simp)
   have hE_241 := hE_231.tr1 hF235 (by first | exact .inl (by assumption) | exact .inr (by omega) | exact .inl (.inl rfl))
   refine V.re h232 [] 1 0 [(8, .bool true)] fun a h242 => k21 _ _ ?_
   refine V.seq fun K243 k244 => ?_
   refine V.sr h242 [] 19 19 [(20, .bool false)] fun a h247 => ?_
   refine V.cf h247 ?_
   refine V.skip ?_
   refine V.then_n (k244 _ _ ?_)
   refine V.seq fun K248 k249 => ?_
   refine V.pl [([0,1,2,3,4,5,6,7,8,9,10,11,12,13,14,15,16,17],none)] fun w250 hF251 hsw250 => ?_
   have hF_252 := hF_236.new hF251
   have hB_253 := hB_237.fr0 hF251
   have hRA_254 := hRA_238.fr0 hF251
   have hRB_255 := hRB_239.fr0 hF251
   have hK_256 := hK_240.fr0 hF251
   have hE_257 := hE_241.tr0 hF251
   have hB234_258 := hB234.fr0 hF251
   obtain ⟨A259, c260, hv261⟩ := hK_256.getB hlA (i := (bkt T1.seed T1.b.length k)) (by omega) nilS
   have hS262 := hK_256.slB hlA (i := (bkt T1.seed T1.b.length k)) (by omega) hv261
   obtain ⟨g263, o264, hA265, hA265l, hA265z⟩ := hS262.addr (by omega)
   obtain ⟨cs266, hok267, hE268⟩ := hS262.els hA265 (j : Int) (by omega) (by omega)
   refine V.pz0 ?_
   refine V.run h247 [(2, .b hB234_258 0), (3, .b hB_253 2), (1, .b hB234_258 1), (0, .ix gB 0 T1.b.length T1.b.length .i64 ((bkt T1.seed T1.b.length k : Nat) : Int) 1 rfl), (0, .l ⟨gB, 0 + ((bkt T1.seed T1.b.length k : Nat) : Int).toNat * 1, none⟩ (.slice A259 ((T1.b.getD (bkt T1.seed T1.b.length k) []).length) c260) ((hRB_255.at (bkt T1.seed T1.b.length k) nilS (by omega)).trans (congrArg some hv261))), (1, .b hB234_258 2), (0, .ix g263 o264 ((T1.b.getD (bkt T1.seed T1.b.length k) []).length) c260 .i64 (j : Int) 2 hA265)] 15 23 35 [(22, .pointer (some ⟨t, 0, none⟩)), (36, .pointer (some ⟨g263, (o264 + (j : Int).toNat * 2) + 1, none⟩))] fun a h269 => ?_
   obtain rfl : cs266 = [.string (at_ itI (T1.b.getD (bkt T1.seed T1.b.length k) []) (j : Int)).1, .int .i64 (at_ itI (T1.b.getD (bkt T1.seed T1.b.length k) []) (j : Int)).2] := hok267
   refine V.se h269 [(0, .l ⟨g263, (o264 + (j : Int).toNat * 2) + 1, none⟩ (.int .i64 ((at_ itI (T1.b.getD (bkt T1.seed T1.b.length k) []) (j : Int)).2)) (hE268.at 1 rfl))] 37 37 [(4, .int .i64 ((at_ itI (T1.b.getD (bkt T1.seed T1.b.length k) []) (j : Int)).2)), (5, .bool true)] fun a h270 => k249 _ _ ?_
   refine V.ret ?_
   refine V.r2 h270 (.int .i64 ((at_ itI (T1.b.getD (bkt T1.seed T1.b.length k) []) (j : Int)).2)) (.bool true) ?_
   refine ⟨?_, hF_252⟩
   unfold lookT; rw [hf]
   rfl
set_option maxHeartbeats 4000000 in
set_option maxRecDepth 20000 in
theorem get_any (w : World) (H : Nat → Prop) (av : List Nat) (t : Nat) (T : Tb Int) (hT : TabX 67 87 86 itI w H av t T) (hm : T.Mv) (k : ByteArray) (hkz : k.size ≤ 9223372036854775807) : Calls Try.prog 36 #[.pointer (some ⟨t, 0, none⟩), .string k] w (fun e w' => e = .returned (.tuple #[.int .i64 (lookT 0 (tbStep T) k).1, .bool (lookT 0 (tbStep T) k).2]) ∧ TabX 67 87 86 itI w' (gr H w w') av t (tbStep T) ∧ FrP (gp H av) w w') := by
 have hFP := FrP.refl (gp H av) w
 obtain ⟨hok0, hm1⟩ := tbStep_ok hT.1 hm
 obtain ⟨T1, hT1⟩ : ∃ T1, T1 = tbStep T := ⟨_, rfl⟩
 rw [← hT1] at hok0 hm1 ⊢
 refine V.en 15 Try.func36 fun a h1 => ?_
 refine V.sr h1 [] 4 5 [] fun a h4 => ?_
 refine V.seq fun K5 k6 => ?_
 refine V.sg fun K7 k8 => ?_
 refine V.run h4 [] 1 1 0 [(6, .pointer (some ⟨t, 0, none⟩))] fun a h9 => ?_
 refine V.cl h9 (Go.Proofs.enters_of Try.func51 (by kernel_rfl) rfl) (made_any w (H) (av) t (T) hT) ?_
 rintro _ w11 ⟨rfl, hF10⟩
 refine ⟨_, rfl, fun a h12 => ?_⟩
 have hsw11 := hF10.size
 have hT_13 := hT.fr0 hF10
 have hFP_14 := hFP.tr0 hF10
 refine V.nt (k8 _ _ ?_)
 refine V.ct h12 ?_
 refine V.rg ?_
 refine V.run h12 [] 1 1 0 [(8, .pointer (some ⟨t, 0, none⟩))] fun a h15 => ?_
 refine V.cl h15 (Go.Proofs.enters_of Try.func64 (by kernel_rfl) rfl) (step_any w11 (H) (av) t (T) hT_13 hm) ?_
 rintro _ w18 ⟨rfl, hT16, hfp17⟩
 refine ⟨_, rfl, fun a h19 => ?_⟩
 have hsw18 := hfp17.size
 have hFP_20 := hFP_14.trP hfp17 (fun k hk => .inl hk)
 have hT16q := hT16.grm (w := w) (by omega)
 rw [← hT1] at hT16q
 refine V.nt (k6 _ _ ?_)
 refine V.sg fun K21 k22 => ?_
 refine V.run h19 [] 2 1 0 [(10, .pointer (some ⟨t, 0, none⟩)), (11, .string k)] fun a h23 => ?_
 refine V.cl h23 (Go.Proofs.enters_of Try.func22 (by kernel_rfl) rfl) (look_any w18 (gr H w w18) (av) t (T1) hT16q k (by first | exact hkz | decide | omega)) ?_
 rintro _ w25 ⟨rfl, hF24⟩
 refine ⟨_, rfl, fun a h26 => ?_⟩
 have hsw25 := hF24.size
 have hFP_27 := hFP_20.tr0 hF24
 have hT16q_28 := hT16q.fr0 hF24
 refine V.re h26 [] 13 14 [(4, .int .i64 ((lookT 0 (T1) k).1)), (5, .bool ((lookT 0 (T1) k).2))] fun a h29 => k22 _ _ ?_
 refine V.ret ?_
 refine V.r2 h29 (.int .i64 ((lookT 0 (T1) k).1)) (.bool ((lookT 0 (T1) k).2)) ?_
 exact ⟨rfl, hT16q_28.grl (by omega), hFP_27⟩
set_option maxHeartbeats 4000000 in
set_option maxRecDepth 20000 in
theorem stepx_any (w : World) (H : Nat → Prop) (av : List Nat) (t : Nat) (T : Tb Int) (hT : TabX 67 87 86 itI w H av t T) (hm : T.Mv) : Calls Try.prog 40 #[.pointer (some ⟨t, 0, none⟩)] w (fun e w' => e = .returned (.bool (decide ((tbStep T).b.length ≠ 0))) ∧ TabX 67 87 86 itI w' (gr H w w') av t (tbStep T) ∧ FrP (gp H av) w w') := by
 have hFP := FrP.refl (gp H av) w
 obtain ⟨hok0, hm1⟩ := tbStep_ok hT.1 hm
 obtain ⟨T1, hT1⟩ : ∃ T1, T1 = tbStep T := ⟨_, rfl⟩
 rw [← hT1] at hok0 hm1 ⊢
 refine V.en 10 Try.func40 fun a h1 => ?_
 refine V.sr h1 [] 2 2 [] fun a h4 => ?_
 refine V.seq fun K5 k6 => ?_
 refine V.sg fun K7 k8 => ?_
 refine V.run h4 [] 1 1 0 [(3, .pointer (some ⟨t, 0, none⟩))] fun a h9 => ?_
 refine V.cl h9 (Go.Proofs.enters_of Try.func51 (by kernel_rfl) rfl) (made_any w (H) (av) t (T) hT) ?_
 rintro _ w11 ⟨rfl, hF10⟩
 refine ⟨_, rfl, fun a h12 => ?_⟩
 have hsw11 := hF10.size
 have hT_13 := hT.fr0 hF10
 have hFP_14 := hFP.tr0 hF10
 refine V.re h12 [] 1 0 [(5, .bool false)] fun a h15 => k8 _ _ ?_
 refine V.cf h15 ?_
 refine V.skip ?_
 refine V.then_n (k6 _ _ ?_)
 refine V.sg fun K16 k17 => ?_
 refine V.run h15 [] 1 1 0 [(6, .pointer (some ⟨t, 0, none⟩))] fun a h18 => ?_
 refine V.cl h18 (Go.Proofs.enters_of Try.func64 (by kernel_rfl) rfl) (step_any w11 (H) (av) t (T) hT_13 hm) ?_
 rintro _ w21 ⟨rfl, hT19, hfp20⟩
 refine ⟨_, rfl, fun a h22 => ?_⟩
 have hsw21 := hfp20.size
 have hFP_23 := hFP_14.trP hfp20 (fun k hk => .inl hk)
 have hT19q := hT19.grm (w := w) (by omega)
 rw [← hT1] at hT19q
 refine V.nt (k17 _ _ ?_)
 refine V.sg fun K24 k25 => ?_
 refine V.run h22 [] 1 1 0 [(8, .pointer (some ⟨t, 0, none⟩))] fun a h26 => ?_
 refine V.cl h26 (Go.Proofs.enters_of Try.func65 (by kernel_rfl) rfl) (moves_any w21 (gr H w w21) (av) t (T1) hT19q) ?_
 rintro _ w28 ⟨rfl, hF27⟩
 refine ⟨_, rfl, fun a h29 => ?_⟩
 have hsw28 := hF27.size
 have hFP_30 := hFP_23.tr0 hF27
 have hT19q_31 := hT19q.fr0 hF27
 refine V.re h29 [] 1 0 [(2, .bool (decide ((T1).b.length ≠ 0)))] fun a h32 => k25 _ _ ?_
 refine V.ret ?_
 refine V.r1 h32 (.bool (decide ((T1).b.length ≠ 0))) ?_
 exact ⟨rfl, hT19q_31.grl (by omega), hFP_30⟩
set_option maxHeartbeats 4000000 in
set_option maxRecDepth 20000 in
theorem sizes_N (w : World) (t : Nat) (seed n0 n1 c1 gA gB : Nat) (m1 m2 : Value) (hB : Blk w t [.int .u64 (seed : Int), .slice (some ⟨gA, 0, none⟩) n0 n0, .slice none 0 0, m1, m2] 67) : Calls Try.prog 17 #[.pointer (some ⟨t, 0, none⟩)] w (fun e w' => e = .returned (.tuple #[.int .i64 ((n0 : Nat) : Int), .int .i64 0, m1]) ∧ Fr [] w w') := by
 have hF := Fr.refl [] w
 refine V.en 24 Try.func17 fun a h1 => ?_
 refine V.sr h1 [] 2 4 [] fun a h4 => ?_
 refine V.seq fun K5 k6 => ?_
 refine V.sg fun K7 k8 => ?_
 refine V.run h4 [] 1 1 0 [(5, .pointer (some ⟨t, 0, none⟩))] fun a h9 => ?_
 refine V.cl h9 (Go.Proofs.enters_of Try.func51 (by kernel_rfl) rfl) (made_N w t seed n0 0 0 gA 0 m1 m2 hB) ?_
 rintro _ w11 ⟨rfl, hF10⟩
 refine ⟨_, rfl, fun a h12 => ?_⟩
 have hsw11 := hF10.size
 have hF_13 := hF.new hF10
 have hB_14 := hB.fr0 hF10
 refine V.re h12 [] 1 0 [(7, .bool false)] fun a h15 => k8 _ _ ?_
 refine V.cf h15 ?_
 refine V.skip ?_
 refine V.then_n (k6 _ _ ?_)
 refine V.seq fun K16 k17 => ?_
 refine V.pl [([0,1,2,3,4,5,6,7,8,9,10,11,12,13,14,15,16,17,18],none)] fun w18 hF19 hsw18 => ?_
 have hF_20 := hF_13.new hF19
 have hB_21 := hB_14.fr0 hF19
 refine V.pz h15 [(4, .b hB_21 1), (5, .b hB_21 2), (4, .b hB_21 3)] 8 23 [(2, .int .i64 ((n0 : Nat) : Int)), (3, .int .i64 0), (4, m1)] fun a h22 => k17 _ _ ?_
 refine V.ret ?_
 refine V.r3 h22 (.int .i64 ((n0 : Nat) : Int)) (.int .i64 0) (m1) ?_
 exact ⟨rfl, hF_20⟩
set_option maxHeartbeats 4000000 in
set_option maxRecDepth 20000 in
theorem sizes_M (w : World) (t : Nat) (seed n0 n1 c1 gA gB : Nat) (m1 m2 : Value) (hB : Blk w t [.int .u64 (seed : Int), .slice (some ⟨gA, 0, none⟩) n0 n0, .slice (some ⟨gB, 0, none⟩) n1 n1, m1, m2] 67) : Calls Try.prog 17 #[.pointer (some ⟨t, 0, none⟩)] w (fun e w' => e = .returned (.tuple #[.int .i64 ((n0 : Nat) : Int), .int .i64 ((n1 : Nat) : Int), m1]) ∧ Fr [] w w') := by
 have hF := Fr.refl [] w
 refine V.en 24 Try.func17 fun a h1 => ?_
 refine V.sr h1 [] 2 4 [] fun a h4 => ?_
 refine V.seq fun K5 k6 => ?_
 refine V.sg fun K7 k8 => ?_
 refine V.run h4 [] 1 1 0 [(5, .pointer (some ⟨t, 0, none⟩))] fun a h9 => ?_
 refine V.cl h9 (Go.Proofs.enters_of Try.func51 (by kernel_rfl) rfl) (made_M w t seed n0 n1 0 gA gB m1 m2 hB) ?_
 rintro _ w11 ⟨rfl, hF10⟩
 refine ⟨_, rfl, fun a h12 => ?_⟩
 have hsw11 := hF10.size
 have hF_13 := hF.new hF10
 have hB_14 := hB.fr0 hF10
 refine V.re h12 [] 1 0 [(7, .bool false)] fun a h15 => k8 _ _ ?_
 refine V.cf h15 ?_
 refine V.skip ?_
 refine V.then_n (k6 _ _ ?_)
 refine V.seq fun K16 k17 => ?_
 refine V.pl [([0,1,2,3,4,5,6,7,8,9,10,11,12,13,14,15,16,17,18],none)] fun w18 hF19 hsw18 => ?_
 have hF_20 := hF_13.new hF19
 have hB_21 := hB_14.fr0 hF19
 refine V.pz h15 [(4, .b hB_21 1), (5, .b hB_21 2), (4, .b hB_21 3)] 8 23 [(2, .int .i64 ((n0 : Nat) : Int)), (3, .int .i64 ((n1 : Nat) : Int)), (4, m1)] fun a h22 => k17 _ _ ?_
 refine V.ret ?_
 refine V.r3 h22 (.int .i64 ((n0 : Nat) : Int)) (.int .i64 ((n1 : Nat) : Int)) (m1) ?_
 exact ⟨rfl, hF_20⟩
set_option maxHeartbeats 4000000 in
set_option maxRecDepth 20000 in
theorem len_blk (w : World) (t : Nat) (seed n0 c0 : Nat) (A0 : Option Addr) (v1 m1 m2 : Value) (hB : Blk w t [.int .u64 (seed : Int), .slice A0 n0 c0, v1, m1, m2] 67) : Calls Try.prog 18 #[.pointer (some ⟨t, 0, none⟩)] w (fun e w' => e = .returned m2 ∧ Fr [] w w') := by
 have hF := Fr.refl [] w
 refine V.en 9 Try.func18 fun a h1 => ?_
 refine V.sr h1 [] 2 2 [] fun a h4 => ?_
 refine V.seq fun K5 k6 => ?_
 refine V.sr h4 [] 3 3 [(4, .bool false)] fun a h9 => ?_
 refine V.cf h9 ?_
 refine V.skip ?_
 refine V.then_n (k6 _ _ ?_)
 refine V.sr h9 [(3, .b hB 4)] 5 8 [(2, m2)] fun a h12 => ?_
 refine V.ret ?_
 refine V.r1 h12 (m2) ?_
 exact ⟨rfl, hF⟩
set_option maxHeartbeats 4000000 in
set_option maxRecDepth 20000 in
theorem new_any (w : World) (av : List Nat) (hav : ∀ k ∈ av, k < w.heap.size) (seed : Nat) (hsd : seed < 18446744073709551616) : Calls Try.prog 14 #[.int .u64 (seed : Int)] w (fun e w' => ∃ t, e = .returned (.pointer (some ⟨t, 0, none⟩)) ∧ TabX 67 87 86 itI w' (gr (fun _ => False) w w') av t (newT seed) ∧ Fr [] w w') := by
 have hF := Fr.refl [] w
 refine V.en 13 Try.func14 fun a h1 => ?_
 refine V.sr h1 [] 2 2 [] fun a h4 => ?_
 refine V.sg fun K5 k6 => ?_
 refine V.run h4 [] 2 4 4 [(5, .agg #[.int .u64 (seed : Int), .slice none 0 0, .slice none 0 0, .int .i64 0, .int .i64 0])] fun a h7 => ?_
 refine V.go (V.mk [(5, .agg #[.int .u64 (seed : Int), .slice none 0 0, .slice none 0 0, .int .i64 0, .int .i64 0])] ⟨h7.e, trivial⟩ (by kernel_rfl) [.int .u64 (seed : Int), .slice none 0 0, .slice none 0 0, .int .i64 0, .int .i64 0] 67 (fun b => .pointer (some ⟨b, 0, none⟩)) (by kernel_rfl) ?_)
 intro w9 b8 heb8 hB10 hF11 hsb8
 have hF_12 := hF.new hF11
 refine V.pt h7 fun a h13 => ?_
 refine V.re h13 [] 1 0 [(3, .pointer (some ⟨b8, 0, none⟩))] fun a h14 => k6 _ _ ?_
 refine V.seq fun K15 k16 => ?_
 refine V.pl [([0,2,3],some (1,[])),([4],some (5,[])),([],none)] fun w17 hF18 hsw17 => ?_
 have hF_19 := hF_12.new hF18
 have hB10_20 := hB10.fr0 hF18
 refine V.pe h14 [] 7 9 [(10, .pointer (some ⟨b8, 1, none⟩))] fun a h21 => ?_
 refine V.go (V.mks (enc := idV) (4) (.slice none 0 0) nilS 24 (evc.trans (V.int_eq (by omega))) (evc.trans (V.int_eq (by omega))) (by kernel_rfl) info87 rfl rfl (by omega) (by omega) ?_)
 intro w23 b22 heb22 hR24 hF25
 have hsb22 := hR24.lt
 have hF_26 := hF_19.new hF25
 have hB10_27 := hB10_20.fr0 hF25
 refine V.pt h21 fun a h28 => ?_
 refine V.eh trivial ?_
 refine V.pe h28 [] 1 0 [(11, .pointer (some ⟨b8, 1, none⟩))] fun a h29 => ?_
 refine V.go (V.stn b8 1 (.slice (some ⟨b22, 0, none⟩) 4 4) [.slice (some ⟨b22, 0, none⟩) 4 4] h29.e h29.e rfl rfl (by kernel_rfl) hB10_27 (by simp) [.int .u64 (seed : Int), .slice (some ⟨b22, 0, none⟩) 4 4, .slice none 0 0, .int .i64 0, .int .i64 0] rfl ?_)
 intro w30 hB31 hF32 hsw30
 have hF_33 := hF_26.own hF32 (by simp <;> omega)
 have hR24_34 := hR24.fr1 hF32 (by omega)
 refine V.eh trivial ?_
 refine V.pz h29 [] 1 0 [] fun a h35 => k16 _ _ ?_
 refine V.sr h35 [] 12 12 [(2, .pointer (some ⟨b8, 0, none⟩))] fun a h38 => ?_
 refine V.ret ?_
 refine V.r1 h38 (.pointer (some ⟨b8, 0, none⟩)) ?_
 exact ⟨b8, rfl, newT_tab hB31 hR24_34 (by omega) (by omega) (by omega) hsd hav, hF_33⟩
theorem sizes_any (w : World) (H : Nat → Prop) (av : List Nat) (t : Nat) (T : Tb Int) (hT : TabX 67 87 86 itI w H av t T) :
    Calls Try.prog 17 #[.pointer (some ⟨t, 0, none⟩)] w (fun e w' => e = .returned (.tuple #[.int .i64 (T.a.length : Int), .int .i64 (T.b.length : Int), .int .i64 (T.moved : Int)]) ∧ Fr [] w w') := by
  rcases hT.2 with ⟨hb, gA, vsA, h⟩ | ⟨hb, gA, gB, vsA, vsB, h⟩
  · rw [hb]; exact sizes_N w t T.seed T.a.length 0 0 gA 0 _ _ h.blk
  · exact sizes_M w t T.seed T.a.length T.b.length 0 gA gB _ _ h.blk
theorem len_any (w : World) (H : Nat → Prop) (av : List Nat) (t : Nat) (T : Tb Int) (hT : TabX 67 87 86 itI w H av t T) :
    Calls Try.prog 18 #[.pointer (some ⟨t, 0, none⟩)] w (fun e w' => e = .returned (.int .i64 (T.n : Int)) ∧ Fr [] w w') := by
  rcases hT.2 with ⟨hb, gA, vsA, h⟩ | ⟨hb, gA, gB, vsA, vsB, h⟩
  · exact len_blk w t T.seed T.a.length T.a.length _ _ _ _ h.blk
  · exact len_blk w t T.seed T.a.length T.a.length _ _ _ _ h.blk
end Go.Proofs.Ytalhmegjomfbaaa
