/- Joined texts: Ef, Ha, Hb, TabW, TabV, Hc, He, Hf, Hd, Hg, Hh, VX, Hi, Hj, Hk, Shf, So, AppZ. -/
import Derived.Test.YtjkegckfncfoaaaGreatProg
import Derived.Shelf.Slices.In.SortNone
import Derived.Shelf.Sort.Plain
import Derived.Ground.Names2Prog
import Derived.Ground.SlsfProg
import Derived.Shelf.SlSortCmp.WholeK
import Derived.Lib.AppendZeros
import Derived.Test.YtjkegckfncfoaaaGreatMs4
section
namespace Go.Proofs.YtjkegckfncfoaaaGreat
open Go.V Go.Base
open Go.RowKit (Below)
attribute [local irreducible] Act.put Act.eval
set_option linter.unusedVariables false
set_option linter.unusedSimpArgs false
set_option maxHeartbeats 4000000 in
set_option maxRecDepth 20000 in
theorem look_any (w : World) (H : Nat → Prop) (av : List Nat) (t : Nat) (T1 : Tb EntV) (hT : TabX 122 118 117 itI w H av t T1) (k : ByteArray) (hkz : k.size ≤ 9223372036854775807) : Calls Tryz.prog 37 #[.pointer (some ⟨t, 0, none⟩), .string k] w (fun e w' => e = .returned (.tuple #[.agg #[.int .i64 (lookT EntV.nil T1 k).1.kind, .string (lookT EntV.nil T1 k).1.s, .slice (lookT EntV.nil T1 k).1.l.a (lookT EntV.nil T1 k).1.l.n (lookT EntV.nil T1 k).1.l.c, .slice (lookT EntV.nil T1 k).1.z.a (lookT EntV.nil T1 k).1.z.n (lookT EntV.nil T1 k).1.z.c, .slice (lookT EntV.nil T1 k).1.h.a (lookT EntV.nil T1 k).1.h.n (lookT EntV.nil T1 k).1.h.c, .int .i64 (lookT EntV.nil T1 k).1.till], .bool (lookT EntV.nil T1 k).2]) ∧ Fr [] w w') := by
 have hFP := FrP.refl (gp H av) w
 have hF := Fr.refl [] w
 refine V.en 38 Tryz.func37 fun a h1 => ?_
 refine V.sg fun K2 k3 => ?_
 refine V.go (V.mk [] trivial (by kernel_rfl) [.int .i64 0, .string ⟨#[]⟩, .slice none 0 0, .slice none 0 0, .slice none 0 0, .int .i64 0] 79 (fun b => .pointer (some ⟨b, 0, none⟩)) (by kernel_rfl) ?_)
 intro w5 b4 heb4 hB6 hF7 hsb4
 have hT_8 := hT.alloc hF7 heb4 (by omega)
 have hFP_9 := hFP.tr0 hF7
 have hF_10 := hF.new hF7
 refine V.pt h1 fun a h11 => ?_
 refine V.re h11 [] 5 5 [] fun a h12 => k3 _ _ ?_
 refine V.sg fun K13 k14 => ?_
 refine V.go (V.mk [] trivial (by kernel_rfl) [.int .i64 0, .string ⟨#[]⟩, .slice none 0 0, .slice none 0 0, .slice none 0 0, .int .i64 0] 79 (fun b => .pointer (some ⟨b, 0, none⟩)) (by kernel_rfl) ?_)
 intro w16 b15 heb15 hB17 hF18 hsb15
 have hT_19 := hT_8.alloc hF18 heb15 (by omega)
 have hFP_20 := hFP_9.tr0 hF18
 have hF_21 := hF_10.new hF18
 have hB6_22 := hB6.fr0 hF18
 refine V.pt h12 fun a h23 => ?_
 refine V.nt (k14 _ _ ?_)
 refine V.seq fun K24 k25 => ?_
 refine V.sg fun K26 k27 => ?_
 refine V.run h23 [] 1 1 0 [(9, .pointer (some ⟨t, 0, none⟩))] fun a h28 => ?_
 refine V.cl h28 (Go.Proofs.enters_of Tryz.func64 (by kernel_rfl) rfl) (made_any w16 (H) (b15 :: b4 :: av) t (T1) hT_19) ?_
 rintro _ w30 ⟨rfl, hF29⟩
 refine ⟨_, rfl, fun a h31 => ?_⟩
 have hsw30 := hF29.size
 have hT_32 := hT_19.fr0 hF29
 have hFP_33 := hFP_20.tr0 hF29
 have hF_34 := hF_21.new hF29
 have hB6_35 := hB6_22.fr0 hF29
 have hB17_36 := hB17.fr0 hF29
 refine V.re h31 [] 1 0 [(11, .bool false)] fun a h37 => k27 _ _ ?_
 refine V.cf h37 ?_
 refine V.skip ?_
 refine V.then_n (k25 _ _ ?_)
 refine V.sg fun K38 k39 => ?_
 refine V.run h37 [] 2 1 0 [(14, .pointer (some ⟨t, 0, none⟩)), (15, .string k)] fun a h40 => ?_
 have hok1 := hT_32.1
 rcases findT_cases hok1 k with hf | ⟨j, hf, hj⟩ | ⟨hbn, j, hf, hj⟩
 ·
  rcases hT_32.2 with ⟨hb0, gA, vsA, hN⟩ | ⟨hb0, gA, gB, vsA, vsB, hN⟩
  ·
   have hb1 : T1.b.length = 0 := by rw [hb0]; rfl
   obtain ⟨hB, hRA, hlA, hK, hne, hpt, hpg⟩ := hN
   have hnb15t : t ≠ b15 := fun e => hpt.2 (by rw [e]; simp)
   have hnb15gA : gA ≠ b15 := fun e => hpg.2 (by rw [e]; simp)
   have hnb4t : t ≠ b4 := fun e => hpt.2 (by rw [e]; simp)
   have hnb4gA : gA ≠ b4 := fun e => hpg.2 (by rw [e]; simp)
   replace hK := hK.toH
   have hltt := hB.lt
   have hltg := hRA.lt
   have hE : FrP (gp (H) av) w30 w30 := FrP.refl _ _
   have hK0 : ∀ k ∈ av, k < w30.heap.size := fun k hk => hK.avl k (by simp [hk])
   obtain ⟨hsd, hpa, hla, hlb, hmv, hmz, hnn, hcn, hks⟩ := (show T1.Ok from hok1)
   have hbl := hok1.bl
   have hFPE := hFP_33
   refine V.cl (av := #[.pointer (some ⟨t, 0, none⟩), .string k]) h40 (Go.Proofs.enters_of Tryz.func70 (by kernel_rfl) rfl) (by have h := find_any w30 (H) (b15 :: b4 :: av) t T1 hT_32 k hkz; rw [hf] at h; exact h) ?_
   rintro _ w42 ⟨rfl, hF41⟩
   refine ⟨_, rfl, fun a h43 => ?_⟩
   have hsw42 := hF41.size
   have hF_44 := hF_34.new hF41
   have hB6_45 := hB6_35.fr0 hF41
   have hB17_46 := hB17_36.fr0 hF41
   have hB_47 := hB.fr0 hF41
   have hRA_48 := hRA.fr0 hF41
   have hK_49 := hK.fr0 hF41
   have hE_50 := hE.tr0 hF41
   refine V.run h43 [] 3 13 13 [(17, .agg #[.int .i64 0, .int .i64 0, .int .i64 0]), (18, .bool false)] fun a h55 => ?_
   refine V.go (V.mk [] trivial (by kernel_rfl) [.int .i64 0, .int .i64 0, .int .i64 0] 113 (fun b => .pointer (some ⟨b, 0, none⟩)) (by kernel_rfl) ?_)
   intro w52 b51 heb51 hB53 hF54 hsb51
   have hF_56 := hF_44.new hF54
   have hB6_57 := hB6_45.fr0 hF54
   have hB17_58 := hB17_46.fr0 hF54
   have hB_59 := hB_47.fr0 hF54
   have hRA_60 := hRA_48.fr0 hF54
   have hK_61 := hK_49.alloc hF54 heb51 (by omega)
   have hE_62 := hE_50.tr0 hF54
   refine V.pt h55 fun a h63 => ?_
   refine V.go (V.stn b51 0 (.agg #[.int .i64 0, .int .i64 0, .int .i64 0]) [.int .i64 0, .int .i64 0, .int .i64 0] h63.e h63.e rfl rfl (by kernel_rfl) hB53 (by simp) [.int .i64 0, .int .i64 0, .int .i64 0] rfl ?_)
   intro w64 hB65 hF66 hsw64
   have hF_67 := hF_56.own hF66 (by simp <;> omega)
   have hB6_68 := hB6_57.fr1 hF66 (by omega)
   have hB17_69 := hB17_58.fr1 hF66 (by omega)
   have hB_70 := hB_59.fr1 hF66 (by omega)
   have hRA_71 := hRA_60.fr1 hF66 (by omega)
   have hK_72 := hK_61.fr hF66 (by simp)
   have hE_73 := hE_62.tr1 hF66 (by first | exact .inl (by assumption) | exact .inr (by omega) | exact .inl (.inl rfl))
   refine V.re h63 [] 1 0 [(8, .bool false)] fun a h74 => k39 _ _ ?_
   refine V.seq fun K75 k76 => ?_
   refine V.seq fun K77 k78 => ?_
   refine V.rr h74 [] 19 19 [(20, .bool true)] fun a h79 => ?_
   refine V.then_n (k78 _ _ ?_)
   refine V.ct h79 ?_
   refine V.sg fun K80 k81 => ?_
   refine V.run h79 [(0, .bs hB17_69 0 [.int .i64 0, .string ⟨#[]⟩, .slice none 0 0, .slice none 0 0, .slice none 0 0, .int .i64 0])] 1 1 0 [(21, .agg #[.int .i64 0, .string ⟨#[]⟩, .slice none 0 0, .slice none 0 0, .slice none 0 0, .int .i64 0])] fun a h85 => ?_
   refine V.go (V.stn b4 0 (.agg #[.int .i64 0, .string ⟨#[]⟩, .slice none 0 0, .slice none 0 0, .slice none 0 0, .int .i64 0]) [.int .i64 0, .string ⟨#[]⟩, .slice none 0 0, .slice none 0 0, .slice none 0 0, .int .i64 0] h85.e h85.e rfl rfl (by kernel_rfl) hB6_68 (by simp) [.int .i64 0, .string ⟨#[]⟩, .slice none 0 0, .slice none 0 0, .slice none 0 0, .int .i64 0] rfl ?_)
   intro w82 hB83 hF84 hsw82
   have hF_86 := hF_67.own hF84 (by simp <;> omega)
   have hB17_87 := hB17_69.fr1 hF84 (by omega)
   have hB_88 := hB_70.fr1 hF84 (by omega)
   have hRA_89 := hRA_71.fr1 hF84 (by omega)
   have hK_90 := hK_72.fr hF84 (by simp)
   have hB65_91 := hB65.fr1 hF84 (by omega)
   refine V.re h85 [] 1 0 [(5, .bool false)] fun a h92 => k81 _ _ ?_
   refine V.ret ?_
   refine V.then_r ?_
   refine V.retCT h92.sd rfl _ (h92.e (v := (.pointer (some ⟨b4, 0, none⟩)))) (V.run_loadVar_agg (cs := [.int .i64 0, .string ⟨#[]⟩, .slice none 0 0, .slice none 0 0, .slice none 0 0, .int .i64 0]) (by kernel_rfl) (blk_cells hB83 0 _ rfl)) (h92.e (v := (.bool false))) ?_
   refine ⟨?_, hF_86⟩
   unfold lookT; rw [hf]
   rfl
  ·
   have hb1 : T1.b.length ≠ 0 := fun h => hb0 (List.eq_nil_of_length_eq_zero h)
   obtain ⟨hB, hRA, hRB, hlA, hlB, hK, hne, hne2, hne3, hpt, hpg, hph⟩ := hN
   have hnb15t : t ≠ b15 := fun e => hpt.2 (by rw [e]; simp)
   have hnb15gA : gA ≠ b15 := fun e => hpg.2 (by rw [e]; simp)
   have hnb15gB : gB ≠ b15 := fun e => hph.2 (by rw [e]; simp)
   have hnb4t : t ≠ b4 := fun e => hpt.2 (by rw [e]; simp)
   have hnb4gA : gA ≠ b4 := fun e => hpg.2 (by rw [e]; simp)
   have hnb4gB : gB ≠ b4 := fun e => hph.2 (by rw [e]; simp)
   replace hK := hK.toH
   have hltt := hB.lt
   have hltg := hRA.lt
   have hltg2 := hRB.lt
   have hE : FrP (gp (H) av) w30 w30 := FrP.refl _ _
   have hK0 : ∀ k ∈ av, k < w30.heap.size := fun k hk => hK.avl k (by simp [hk])
   obtain ⟨hsd, hpa, hla, hlb, hmv, hmz, hnn, hcn, hks⟩ := (show T1.Ok from hok1)
   have hbl := hok1.bl
   have hFPE := hFP_33
   refine V.cl (av := #[.pointer (some ⟨t, 0, none⟩), .string k]) h40 (Go.Proofs.enters_of Tryz.func70 (by kernel_rfl) rfl) (by have h := find_any w30 (H) (b15 :: b4 :: av) t T1 hT_32 k hkz; rw [hf] at h; exact h) ?_
   rintro _ w94 ⟨rfl, hF93⟩
   refine ⟨_, rfl, fun a h95 => ?_⟩
   have hsw94 := hF93.size
   have hF_96 := hF_34.new hF93
   have hB6_97 := hB6_35.fr0 hF93
   have hB17_98 := hB17_36.fr0 hF93
   have hB_99 := hB.fr0 hF93
   have hRA_100 := hRA.fr0 hF93
   have hRB_101 := hRB.fr0 hF93
   have hK_102 := hK.fr0 hF93
   have hE_103 := hE.tr0 hF93
   refine V.run h95 [] 3 13 13 [(17, .agg #[.int .i64 0, .int .i64 0, .int .i64 0]), (18, .bool false)] fun a h108 => ?_
   refine V.go (V.mk [] trivial (by kernel_rfl) [.int .i64 0, .int .i64 0, .int .i64 0] 113 (fun b => .pointer (some ⟨b, 0, none⟩)) (by kernel_rfl) ?_)
   intro w105 b104 heb104 hB106 hF107 hsb104
   have hF_109 := hF_96.new hF107
   have hB6_110 := hB6_97.fr0 hF107
   have hB17_111 := hB17_98.fr0 hF107
   have hB_112 := hB_99.fr0 hF107
   have hRA_113 := hRA_100.fr0 hF107
   have hRB_114 := hRB_101.fr0 hF107
   have hK_115 := hK_102.alloc hF107 heb104 (by omega)
   have hE_116 := hE_103.tr0 hF107
   refine V.pt h108 fun a h117 => ?_
   refine V.go (V.stn b104 0 (.agg #[.int .i64 0, .int .i64 0, .int .i64 0]) [.int .i64 0, .int .i64 0, .int .i64 0] h117.e h117.e rfl rfl (by kernel_rfl) hB106 (by simp) [.int .i64 0, .int .i64 0, .int .i64 0] rfl ?_)
   intro w118 hB119 hF120 hsw118
   have hF_121 := hF_109.own hF120 (by simp <;> omega)
   have hB6_122 := hB6_110.fr1 hF120 (by omega)
   have hB17_123 := hB17_111.fr1 hF120 (by omega)
   have hB_124 := hB_112.fr1 hF120 (by omega)
   have hRA_125 := hRA_113.fr1 hF120 (by omega)
   have hRB_126 := hRB_114.fr1 hF120 (by omega)
   have hK_127 := hK_115.fr hF120 (by simp)
   have hE_128 := hE_116.tr1 hF120 (by first | exact .inl (by assumption) | exact .inr (by omega) | exact .inl (.inl rfl))
   refine V.re h117 [] 1 0 [(8, .bool false)] fun a h129 => k39 _ _ ?_
   refine V.seq fun K130 k131 => ?_
   refine V.seq fun K132 k133 => ?_
   refine V.rr h129 [] 19 19 [(20, .bool true)] fun a h134 => ?_
   refine V.then_n (k133 _ _ ?_)
   refine V.ct h134 ?_
   refine V.sg fun K135 k136 => ?_
   refine V.run h134 [(0, .bs hB17_123 0 [.int .i64 0, .string ⟨#[]⟩, .slice none 0 0, .slice none 0 0, .slice none 0 0, .int .i64 0])] 1 1 0 [(21, .agg #[.int .i64 0, .string ⟨#[]⟩, .slice none 0 0, .slice none 0 0, .slice none 0 0, .int .i64 0])] fun a h140 => ?_
   refine V.go (V.stn b4 0 (.agg #[.int .i64 0, .string ⟨#[]⟩, .slice none 0 0, .slice none 0 0, .slice none 0 0, .int .i64 0]) [.int .i64 0, .string ⟨#[]⟩, .slice none 0 0, .slice none 0 0, .slice none 0 0, .int .i64 0] h140.e h140.e rfl rfl (by kernel_rfl) hB6_122 (by simp) [.int .i64 0, .string ⟨#[]⟩, .slice none 0 0, .slice none 0 0, .slice none 0 0, .int .i64 0] rfl ?_)
   intro w137 hB138 hF139 hsw137
   have hF_141 := hF_121.own hF139 (by simp <;> omega)
   have hB17_142 := hB17_123.fr1 hF139 (by omega)
   have hB_143 := hB_124.fr1 hF139 (by omega)
   have hRA_144 := hRA_125.fr1 hF139 (by omega)
   have hRB_145 := hRB_126.fr1 hF139 (by omega)
   have hK_146 := hK_127.fr hF139 (by simp)
   have hB119_147 := hB119.fr1 hF139 (by omega)
   refine V.re h140 [] 1 0 [(5, .bool false)] fun a h148 => k136 _ _ ?_
   refine V.ret ?_
   refine V.then_r ?_
   refine V.retCT h148.sd rfl _ (h148.e (v := (.pointer (some ⟨b4, 0, none⟩)))) (V.run_loadVar_agg (cs := [.int .i64 0, .string ⟨#[]⟩, .slice none 0 0, .slice none 0 0, .slice none 0 0, .int .i64 0]) (by kernel_rfl) (blk_cells hB138 0 _ rfl)) (h148.e (v := (.bool false))) ?_
   refine ⟨?_, hF_141⟩
   unfold lookT; rw [hf]
   rfl
 ·
  rcases hT_32.2 with ⟨hb0, gA, vsA, hN⟩ | ⟨hb0, gA, gB, vsA, vsB, hN⟩
  ·
   have hb1 : T1.b.length = 0 := by rw [hb0]; rfl
   obtain ⟨hB, hRA, hlA, hK, hne, hpt, hpg⟩ := hN
   have hnb15t : t ≠ b15 := fun e => hpt.2 (by rw [e]; simp)
   have hnb15gA : gA ≠ b15 := fun e => hpg.2 (by rw [e]; simp)
   have hnb4t : t ≠ b4 := fun e => hpt.2 (by rw [e]; simp)
   have hnb4gA : gA ≠ b4 := fun e => hpg.2 (by rw [e]; simp)
   replace hK := hK.toH
   have hltt := hB.lt
   have hltg := hRA.lt
   have hE : FrP (gp (H) av) w30 w30 := FrP.refl _ _
   have hK0 : ∀ k ∈ av, k < w30.heap.size := fun k hk => hK.avl k (by simp [hk])
   obtain ⟨hsd, hpa, hla, hlb, hmv, hmz, hnn, hcn, hks⟩ := (show T1.Ok from hok1)
   have hbl := hok1.bl
   have hFPE := hFP_33
   refine V.cl (av := #[.pointer (some ⟨t, 0, none⟩), .string k]) h40 (Go.Proofs.enters_of Tryz.func70 (by kernel_rfl) rfl) (by have h := find_any w30 (H) (b15 :: b4 :: av) t T1 hT_32 k hkz; rw [hf] at h; exact h) ?_
   rintro _ w150 ⟨rfl, hF149⟩
   refine ⟨_, rfl, fun a h151 => ?_⟩
   have hsw150 := hF149.size
   have hF_152 := hF_34.new hF149
   have hB6_153 := hB6_35.fr0 hF149
   have hB17_154 := hB17_36.fr0 hF149
   have hB_155 := hB.fr0 hF149
   have hRA_156 := hRA.fr0 hF149
   have hK_157 := hK.fr0 hF149
   have hE_158 := hE.tr0 hF149
   have hbkl := bkt_lt T1.seed k (n := T1.a.length) (by omega)
   refine V.run h151 [] 3 13 13 [(17, .agg #[.int .i64 0, .int .i64 ((bkt T1.seed T1.a.length k : Nat) : Int), .int .i64 (j : Int)]), (18, .bool true)] fun a h163 => ?_
   refine V.go (V.mk [] trivial (by kernel_rfl) [.int .i64 0, .int .i64 0, .int .i64 0] 113 (fun b => .pointer (some ⟨b, 0, none⟩)) (by kernel_rfl) ?_)
   intro w160 b159 heb159 hB161 hF162 hsb159
   have hF_164 := hF_152.new hF162
   have hB6_165 := hB6_153.fr0 hF162
   have hB17_166 := hB17_154.fr0 hF162
   have hB_167 := hB_155.fr0 hF162
   have hRA_168 := hRA_156.fr0 hF162
   have hK_169 := hK_157.alloc hF162 heb159 (by omega)
   have hE_170 := hE_158.tr0 hF162
   refine V.pt h163 fun a h171 => ?_
   refine V.go (V.stn b159 0 (.agg #[.int .i64 0, .int .i64 ((bkt T1.seed T1.a.length k : Nat) : Int), .int .i64 (j : Int)]) [.int .i64 0, .int .i64 ((bkt T1.seed T1.a.length k : Nat) : Int), .int .i64 (j : Int)] h171.e h171.e rfl rfl (by kernel_rfl) hB161 (by simp) [.int .i64 0, .int .i64 ((bkt T1.seed T1.a.length k : Nat) : Int), .int .i64 (j : Int)] rfl ?_)
   intro w172 hB173 hF174 hsw172
   have hF_175 := hF_164.own hF174 (by simp <;> omega)
   have hB6_176 := hB6_165.fr1 hF174 (by omega)
   have hB17_177 := hB17_166.fr1 hF174 (by omega)
   have hB_178 := hB_167.fr1 hF174 (by omega)
   have hRA_179 := hRA_168.fr1 hF174 (by omega)
   have hK_180 := hK_169.fr hF174 (by simp)
   have hE_181 := hE_170.tr1 hF174 (by first | exact .inl (by assumption) | exact .inr (by omega) | exact .inl (.inl rfl))
   refine V.re h171 [] 1 0 [(8, .bool true)] fun a h182 => k39 _ _ ?_
   refine V.seq fun K183 k184 => ?_
   refine V.seq fun K185 k186 => ?_
   refine V.rr h182 [] 19 19 [(20, .bool false)] fun a h187 => ?_
   refine V.then_n (k186 _ _ ?_)
   refine V.cf h187 ?_
   refine V.skip ?_
   refine V.then_n (k184 _ _ ?_)
   refine V.seq fun K188 k189 => ?_
   refine V.pl [([0,1,2,3,4,5,6,7,8,9,10,11,12,13,14,15],some (16,[])),([17],none)] fun w190 hF191 hsw190 => ?_
   have hF_192 := hF_175.new hF191
   have hB6_193 := hB6_176.fr0 hF191
   have hB17_194 := hB17_177.fr0 hF191
   have hB_195 := hB_178.fr0 hF191
   have hRA_196 := hRA_179.fr0 hF191
   have hK_197 := hK_180.fr0 hF191
   have hB173_198 := hB173.fr0 hF191
   obtain ⟨A199, c200, hv201⟩ := hK_197.getA hlA (i := (bkt T1.seed T1.a.length k)) (by omega) nilS
   have hS202 := hK_197.slA hlA (i := (bkt T1.seed T1.a.length k)) (by omega) hv201
   obtain ⟨g203, o204, hA205, hA205l, hA205z⟩ := hS202.addr (by omega)
   obtain ⟨cs206, hok207, hE208⟩ := hS202.els hA205 (j : Int) (by omega) (by omega)
   refine V.pe0 ?_
   refine V.run h187 [(2, .b hB173_198 0), (3, .b hB_195 1), (1, .b hB173_198 1), (0, .ix gA 0 T1.a.length T1.a.length .i64 ((bkt T1.seed T1.a.length k : Nat) : Int) 1 rfl), (0, .l ⟨gA, 0 + ((bkt T1.seed T1.a.length k : Nat) : Int).toNat * 1, none⟩ (.slice A199 ((T1.a.getD (bkt T1.seed T1.a.length k) []).length) c200) ((hRA_196.at (bkt T1.seed T1.a.length k) nilS (by omega)).trans (congrArg some hv201))), (1, .b hB173_198 2), (0, .ix g203 o204 ((T1.a.getD (bkt T1.seed T1.a.length k) []).length) c200 .i64 (j : Int) 7 hA205)] 15 23 35 [(22, .pointer (some ⟨t, 0, none⟩)), (36, .pointer (some ⟨g203, (o204 + (j : Int).toNat * 7) + 1, none⟩))] fun a h209 => ?_
   obtain rfl : cs206 = [.string (at_ itI (T1.a.getD (bkt T1.seed T1.a.length k) []) (j : Int)).1, .int .i64 (at_ itI (T1.a.getD (bkt T1.seed T1.a.length k) []) (j : Int)).2.kind, .string (at_ itI (T1.a.getD (bkt T1.seed T1.a.length k) []) (j : Int)).2.s, .slice (at_ itI (T1.a.getD (bkt T1.seed T1.a.length k) []) (j : Int)).2.l.a (at_ itI (T1.a.getD (bkt T1.seed T1.a.length k) []) (j : Int)).2.l.n (at_ itI (T1.a.getD (bkt T1.seed T1.a.length k) []) (j : Int)).2.l.c, .slice (at_ itI (T1.a.getD (bkt T1.seed T1.a.length k) []) (j : Int)).2.z.a (at_ itI (T1.a.getD (bkt T1.seed T1.a.length k) []) (j : Int)).2.z.n (at_ itI (T1.a.getD (bkt T1.seed T1.a.length k) []) (j : Int)).2.z.c, .slice (at_ itI (T1.a.getD (bkt T1.seed T1.a.length k) []) (j : Int)).2.h.a (at_ itI (T1.a.getD (bkt T1.seed T1.a.length k) []) (j : Int)).2.h.n (at_ itI (T1.a.getD (bkt T1.seed T1.a.length k) []) (j : Int)).2.h.c, .int .i64 (at_ itI (T1.a.getD (bkt T1.seed T1.a.length k) []) (j : Int)).2.till] := hok207
   refine V.se h209 [(0, .ls ⟨g203, (o204 + (j : Int).toNat * 7) + 1, none⟩ [.int .i64 (((at_ itI (T1.a.getD (bkt T1.seed T1.a.length k) []) (j : Int)).2).kind), .string (((at_ itI (T1.a.getD (bkt T1.seed T1.a.length k) []) (j : Int)).2).s), .slice (((at_ itI (T1.a.getD (bkt T1.seed T1.a.length k) []) (j : Int)).2).l.a) (((at_ itI (T1.a.getD (bkt T1.seed T1.a.length k) []) (j : Int)).2).l.n) (((at_ itI (T1.a.getD (bkt T1.seed T1.a.length k) []) (j : Int)).2).l.c), .slice (((at_ itI (T1.a.getD (bkt T1.seed T1.a.length k) []) (j : Int)).2).z.a) (((at_ itI (T1.a.getD (bkt T1.seed T1.a.length k) []) (j : Int)).2).z.n) (((at_ itI (T1.a.getD (bkt T1.seed T1.a.length k) []) (j : Int)).2).z.c), .slice (((at_ itI (T1.a.getD (bkt T1.seed T1.a.length k) []) (j : Int)).2).h.a) (((at_ itI (T1.a.getD (bkt T1.seed T1.a.length k) []) (j : Int)).2).h.n) (((at_ itI (T1.a.getD (bkt T1.seed T1.a.length k) []) (j : Int)).2).h.c), .int .i64 (((at_ itI (T1.a.getD (bkt T1.seed T1.a.length k) []) (j : Int)).2).till)] (hE208.cells 1 _ rfl))] 1 0 [(37, .agg #[.int .i64 (((at_ itI (T1.a.getD (bkt T1.seed T1.a.length k) []) (j : Int)).2).kind), .string (((at_ itI (T1.a.getD (bkt T1.seed T1.a.length k) []) (j : Int)).2).s), .slice (((at_ itI (T1.a.getD (bkt T1.seed T1.a.length k) []) (j : Int)).2).l.a) (((at_ itI (T1.a.getD (bkt T1.seed T1.a.length k) []) (j : Int)).2).l.n) (((at_ itI (T1.a.getD (bkt T1.seed T1.a.length k) []) (j : Int)).2).l.c), .slice (((at_ itI (T1.a.getD (bkt T1.seed T1.a.length k) []) (j : Int)).2).z.a) (((at_ itI (T1.a.getD (bkt T1.seed T1.a.length k) []) (j : Int)).2).z.n) (((at_ itI (T1.a.getD (bkt T1.seed T1.a.length k) []) (j : Int)).2).z.c), .slice (((at_ itI (T1.a.getD (bkt T1.seed T1.a.length k) []) (j : Int)).2).h.a) (((at_ itI (T1.a.getD (bkt T1.seed T1.a.length k) []) (j : Int)).2).h.n) (((at_ itI (T1.a.getD (bkt T1.seed T1.a.length k) []) (j : Int)).2).h.c), .int .i64 (((at_ itI (T1.a.getD (bkt T1.seed T1.a.length k) []) (j : Int)).2).till)])] fun a h210 => ?_
   refine V.go (V.stn b4 0 (.agg #[.int .i64 (((at_ itI (T1.a.getD (bkt T1.seed T1.a.length k) []) (j : Int)).2).kind), .string (((at_ itI (T1.a.getD (bkt T1.seed T1.a.length k) []) (j : Int)).2).s), .slice (((at_ itI (T1.a.getD (bkt T1.seed T1.a.length k) []) (j : Int)).2).l.a) (((at_ itI (T1.a.getD (bkt T1.seed T1.a.length k) []) (j : Int)).2).l.n) (((at_ itI (T1.a.getD (bkt T1.seed T1.a.length k) []) (j : Int)).2).l.c), .slice (((at_ itI (T1.a.getD (bkt T1.seed T1.a.length k) []) (j : Int)).2).z.a) (((at_ itI (T1.a.getD (bkt T1.seed T1.a.length k) []) (j : Int)).2).z.n) (((at_ itI (T1.a.getD (bkt T1.seed T1.a.length k) []) (j : Int)).2).z.c), .slice (((at_ itI (T1.a.getD (bkt T1.seed T1.a.length k) []) (j : Int)).2).h.a) (((at_ itI (T1.a.getD (bkt T1.seed T1.a.length k) []) (j : Int)).2).h.n) (((at_ itI (T1.a.getD (bkt T1.seed T1.a.length k) []) (j : Int)).2).h.c), .int .i64 (((at_ itI (T1.a.getD (bkt T1.seed T1.a.length k) []) (j : Int)).2).till)]) [.int .i64 (((at_ itI (T1.a.getD (bkt T1.seed T1.a.length k) []) (j : Int)).2).kind), .string (((at_ itI (T1.a.getD (bkt T1.seed T1.a.length k) []) (j : Int)).2).s), .slice (((at_ itI (T1.a.getD (bkt T1.seed T1.a.length k) []) (j : Int)).2).l.a) (((at_ itI (T1.a.getD (bkt T1.seed T1.a.length k) []) (j : Int)).2).l.n) (((at_ itI (T1.a.getD (bkt T1.seed T1.a.length k) []) (j : Int)).2).l.c), .slice (((at_ itI (T1.a.getD (bkt T1.seed T1.a.length k) []) (j : Int)).2).z.a) (((at_ itI (T1.a.getD (bkt T1.seed T1.a.length k) []) (j : Int)).2).z.n) (((at_ itI (T1.a.getD (bkt T1.seed T1.a.length k) []) (j : Int)).2).z.c), .slice (((at_ itI (T1.a.getD (bkt T1.seed T1.a.length k) []) (j : Int)).2).h.a) (((at_ itI (T1.a.getD (bkt T1.seed T1.a.length k) []) (j : Int)).2).h.n) (((at_ itI (T1.a.getD (bkt T1.seed T1.a.length k) []) (j : Int)).2).h.c), .int .i64 (((at_ itI (T1.a.getD (bkt T1.seed T1.a.length k) []) (j : Int)).2).till)] h210.e h210.e rfl rfl (by kernel_rfl) hB6_193 (by simp) [.int .i64 (((at_ itI (T1.a.getD (bkt T1.seed T1.a.length k) []) (j : Int)).2).kind), .string (((at_ itI (T1.a.getD (bkt T1.seed T1.a.length k) []) (j : Int)).2).s), .slice (((at_ itI (T1.a.getD (bkt T1.seed T1.a.length k) []) (j : Int)).2).l.a) (((at_ itI (T1.a.getD (bkt T1.seed T1.a.length k) []) (j : Int)).2).l.n) (((at_ itI (T1.a.getD (bkt T1.seed T1.a.length k) []) (j : Int)).2).l.c), .slice (((at_ itI (T1.a.getD (bkt T1.seed T1.a.length k) []) (j : Int)).2).z.a) (((at_ itI (T1.a.getD (bkt T1.seed T1.a.length k) []) (j : Int)).2).z.n) (((at_ itI (T1.a.getD (bkt T1.seed T1.a.length k) []) (j : Int)).2).z.c), .slice (((at_ itI (T1.a.getD (bkt T1.seed T1.a.length k) []) (j : Int)).2).h.a) (((at_ itI (T1.a.getD (bkt T1.seed T1.a.length k) []) (j : Int)).2).h.n) (((at_ itI (T1.a.getD (bkt T1.seed T1.a.length k) []) (j : Int)).2).h.c), .int .i64 (((at_ itI (T1.a.getD (bkt T1.seed T1.a.length k) []) (j : Int)).2).till)] rfl ?_)
   intro w211 hB212 hF213 hsw211
   have hF_214 := hF_192.own hF213 (by simp <;> omega)
   have hB17_215 := hB17_194.fr1 hF213 (by omega)
   have hB_216 := hB_195.fr1 hF213 (by omega)
   have hRA_217 := hRA_196.fr1 hF213 (by omega)
   have hK_218 := hK_197.fr hF213 (by simp)
   have hB173_219 := hB173_198.fr1 hF213 (by omega)
   refine V.eh trivial ?_
   refine V.pz h210 [] 1 0 [(5, .bool true)] fun a h220 => k189 _ _ ?_
   refine V.ret ?_
   refine V.retCT h220.sd rfl _ (h220.e (v := (.pointer (some ⟨b4, 0, none⟩)))) (V.run_loadVar_agg (cs := [.int .i64 (((at_ itI (T1.a.getD (bkt T1.seed T1.a.length k) []) (j : Int)).2).kind), .string (((at_ itI (T1.a.getD (bkt T1.seed T1.a.length k) []) (j : Int)).2).s), .slice (((at_ itI (T1.a.getD (bkt T1.seed T1.a.length k) []) (j : Int)).2).l.a) (((at_ itI (T1.a.getD (bkt T1.seed T1.a.length k) []) (j : Int)).2).l.n) (((at_ itI (T1.a.getD (bkt T1.seed T1.a.length k) []) (j : Int)).2).l.c), .slice (((at_ itI (T1.a.getD (bkt T1.seed T1.a.length k) []) (j : Int)).2).z.a) (((at_ itI (T1.a.getD (bkt T1.seed T1.a.length k) []) (j : Int)).2).z.n) (((at_ itI (T1.a.getD (bkt T1.seed T1.a.length k) []) (j : Int)).2).z.c), .slice (((at_ itI (T1.a.getD (bkt T1.seed T1.a.length k) []) (j : Int)).2).h.a) (((at_ itI (T1.a.getD (bkt T1.seed T1.a.length k) []) (j : Int)).2).h.n) (((at_ itI (T1.a.getD (bkt T1.seed T1.a.length k) []) (j : Int)).2).h.c), .int .i64 (((at_ itI (T1.a.getD (bkt T1.seed T1.a.length k) []) (j : Int)).2).till)]) (by kernel_rfl) (blk_cells hB212 0 _ rfl)) (h220.e (v := (.bool true))) ?_
   refine ⟨?_, hF_214⟩
   unfold lookT; rw [hf]
   rfl
  ·
   have hb1 : T1.b.length ≠ 0 := fun h => hb0 (List.eq_nil_of_length_eq_zero h)
   obtain ⟨hB, hRA, hRB, hlA, hlB, hK, hne, hne2, hne3, hpt, hpg, hph⟩ := hN
   have hnb15t : t ≠ b15 := fun e => hpt.2 (by rw [e]; simp)
   have hnb15gA : gA ≠ b15 := fun e => hpg.2 (by rw [e]; simp)
   have hnb15gB : gB ≠ b15 := fun e => hph.2 (by rw [e]; simp)
   have hnb4t : t ≠ b4 := fun e => hpt.2 (by rw [e]; simp)
   have hnb4gA : gA ≠ b4 := fun e => hpg.2 (by rw [e]; simp)
   have hnb4gB : gB ≠ b4 := fun e => hph.2 (by rw [e]; simp)
   replace hK := hK.toH
   have hltt := hB.lt
   have hltg := hRA.lt
   have hltg2 := hRB.lt
   have hE : FrP (gp (H) av) w30 w30 := FrP.refl _ _
   have hK0 : ∀ k ∈ av, k < w30.heap.size := fun k hk => hK.avl k (by simp [hk])
   obtain ⟨hsd, hpa, hla, hlb, hmv, hmz, hnn, hcn, hks⟩ := (show T1.Ok from hok1)
   have hbl := hok1.bl
   have hFPE := hFP_33
   refine V.cl (av := #[.pointer (some ⟨t, 0, none⟩), .string k]) h40 (Go.Proofs.enters_of Tryz.func70 (by kernel_rfl) rfl) (by have h := find_any w30 (H) (b15 :: b4 :: av) t T1 hT_32 k hkz; rw [hf] at h; exact h) ?_
   rintro _ w222 ⟨rfl, hF221⟩
   refine ⟨_, rfl, fun a h223 => ?_⟩
   have hsw222 := hF221.size
   have hF_224 := hF_34.new hF221
   have hB6_225 := hB6_35.fr0 hF221
   have hB17_226 := hB17_36.fr0 hF221
   have hB_227 := hB.fr0 hF221
   have hRA_228 := hRA.fr0 hF221
   have hRB_229 := hRB.fr0 hF221
   have hK_230 := hK.fr0 hF221
   have hE_231 := hE.tr0 hF221
   have hbkl := bkt_lt T1.seed k (n := T1.a.length) (by omega)
   refine V.run h223 [] 3 13 13 [(17, .agg #[.int .i64 0, .int .i64 ((bkt T1.seed T1.a.length k : Nat) : Int), .int .i64 (j : Int)]), (18, .bool true)] fun a h236 => ?_
   refine V.go (V.mk [] trivial (by kernel_rfl) [.int .i64 0, .int .i64 0, .int .i64 0] 113 (fun b => .pointer (some ⟨b, 0, none⟩)) (by kernel_rfl) ?_)
   intro w233 b232 heb232 hB234 hF235 hsb232
   have hF_237 := hF_224.new hF235
   have hB6_238 := hB6_225.fr0 hF235
   have hB17_239 := hB17_226.fr0 hF235
   have hB_240 := hB_227.fr0 hF235
   have hRA_241 := hRA_228.fr0 hF235
   have hRB_242 := hRB_229.fr0 hF235
   have hK_243 := hK_230.alloc hF235 heb232 (by omega)
   have hE_244 := hE_231.tr0 hF235
   refine V.pt h236 fun a h245 => ?_
   refine V.go (V.stn b232 0 (.agg #[.int .i64 0, .int .i64 ((bkt T1.seed T1.a.length k : Nat) : Int), .int .i64 (j : Int)]) [.int .i64 0, .int .i64 ((bkt T1.seed T1.a.length k : Nat) : Int), .int .i64 (j : Int)] h245.e h245.e rfl rfl (by kernel_rfl) hB234 (by simp) [.int .i64 0, .int .i64 ((bkt T1.seed T1.a.length k : Nat) : Int), .int .i64 (j : Int)] rfl ?_)
   intro w246 hB247 hF248 hsw246
   have hF_249 := hF_237.own hF248 (by simp <;> omega)
   have hB6_250 := hB6_238.fr1 hF248 (by omega)
   have hB17_251 := hB17_239.fr1 hF248 (by omega)
   have hB_252 := hB_240.fr1 hF248 (by omega)
   have hRA_253 := hRA_241.fr1 hF248 (by omega)
   have hRB_254 := hRB_242.fr1 hF248 (by omega)
   have hK_255 := hK_243.fr hF248 (by simp)
   have hE_256 := hE_244.tr1 hF248 (by first | exact .inl (by assumption) | exact .inr (by omega) | exact .inl (.inl rfl))
   refine V.re h245 [] 1 0 [(8, .bool true)] fun a h257 => k39 _ _ ?_
   refine V.seq fun K258 k259 => ?_
   refine V.seq fun K260 k261 => ?_
   refine V.rr h257 [] 19 19 [(20, .bool false)] fun a h262 => ?_
   refine V.then_n (k261 _ _ ?_)
   refine V.cf h262 ?_
   refine V.skip ?_
   refine V.then_n (k259 _ _ ?_)
   refine V.seq fun K263 k264 => ?_
   refine V.pl [([0,1,2,3,4,5,6,7,8,9,10,11,12,13,14,15],some (16,[])),([17],none)] fun w265 hF266 hsw265 => ?_
   have hF_267 := hF_249.new hF266
   have hB6_268 := hB6_250.fr0 hF266
   have hB17_269 := hB17_251.fr0 hF266
   have hB_270 := hB_252.fr0 hF266
   have hRA_271 := hRA_253.fr0 hF266
   have hRB_272 := hRB_254.fr0 hF266
   have hK_273 := hK_255.fr0 hF266
   have hB247_274 := hB247.fr0 hF266
   obtain ⟨A275, c276, hv277⟩ := hK_273.getA hlA (i := (bkt T1.seed T1.a.length k)) (by omega) nilS
   have hS278 := hK_273.slA hlA (i := (bkt T1.seed T1.a.length k)) (by omega) hv277
   obtain ⟨g279, o280, hA281, hA281l, hA281z⟩ := hS278.addr (by omega)
   obtain ⟨cs282, hok283, hE284⟩ := hS278.els hA281 (j : Int) (by omega) (by omega)
   refine V.pe0 ?_
   refine V.run h262 [(2, .b hB247_274 0), (3, .b hB_270 1), (1, .b hB247_274 1), (0, .ix gA 0 T1.a.length T1.a.length .i64 ((bkt T1.seed T1.a.length k : Nat) : Int) 1 rfl), (0, .l ⟨gA, 0 + ((bkt T1.seed T1.a.length k : Nat) : Int).toNat * 1, none⟩ (.slice A275 ((T1.a.getD (bkt T1.seed T1.a.length k) []).length) c276) ((hRA_271.at (bkt T1.seed T1.a.length k) nilS (by omega)).trans (congrArg some hv277))), (1, .b hB247_274 2), (0, .ix g279 o280 ((T1.a.getD (bkt T1.seed T1.a.length k) []).length) c276 .i64 (j : Int) 7 hA281)] 15 23 35 [(22, .pointer (some ⟨t, 0, none⟩)), (36, .pointer (some ⟨g279, (o280 + (j : Int).toNat * 7) + 1, none⟩))] fun a h285 => ?_
   obtain rfl : cs282 = [.string (at_ itI (T1.a.getD (bkt T1.seed T1.a.length k) []) (j : Int)).1, .int .i64 (at_ itI (T1.a.getD (bkt T1.seed T1.a.length k) []) (j : Int)).2.kind, .string (at_ itI (T1.a.getD (bkt T1.seed T1.a.length k) []) (j : Int)).2.s, .slice (at_ itI (T1.a.getD (bkt T1.seed T1.a.length k) []) (j : Int)).2.l.a (at_ itI (T1.a.getD (bkt T1.seed T1.a.length k) []) (j : Int)).2.l.n (at_ itI (T1.a.getD (bkt T1.seed T1.a.length k) []) (j : Int)).2.l.c, .slice (at_ itI (T1.a.getD (bkt T1.seed T1.a.length k) []) (j : Int)).2.z.a (at_ itI (T1.a.getD (bkt T1.seed T1.a.length k) []) (j : Int)).2.z.n (at_ itI (T1.a.getD (bkt T1.seed T1.a.length k) []) (j : Int)).2.z.c, .slice (at_ itI (T1.a.getD (bkt T1.seed T1.a.length k) []) (j : Int)).2.h.a (at_ itI (T1.a.getD (bkt T1.seed T1.a.length k) []) (j : Int)).2.h.n (at_ itI (T1.a.getD (bkt T1.seed T1.a.length k) []) (j : Int)).2.h.c, .int .i64 (at_ itI (T1.a.getD (bkt T1.seed T1.a.length k) []) (j : Int)).2.till] := hok283
   refine V.se h285 [(0, .ls ⟨g279, (o280 + (j : Int).toNat * 7) + 1, none⟩ [.int .i64 (((at_ itI (T1.a.getD (bkt T1.seed T1.a.length k) []) (j : Int)).2).kind), .string (((at_ itI (T1.a.getD (bkt T1.seed T1.a.length k) []) (j : Int)).2).s), .slice (((at_ itI (T1.a.getD (bkt T1.seed T1.a.length k) []) (j : Int)).2).l.a) (((at_ itI (T1.a.getD (bkt T1.seed T1.a.length k) []) (j : Int)).2).l.n) (((at_ itI (T1.a.getD (bkt T1.seed T1.a.length k) []) (j : Int)).2).l.c), .slice (((at_ itI (T1.a.getD (bkt T1.seed T1.a.length k) []) (j : Int)).2).z.a) (((at_ itI (T1.a.getD (bkt T1.seed T1.a.length k) []) (j : Int)).2).z.n) (((at_ itI (T1.a.getD (bkt T1.seed T1.a.length k) []) (j : Int)).2).z.c), .slice (((at_ itI (T1.a.getD (bkt T1.seed T1.a.length k) []) (j : Int)).2).h.a) (((at_ itI (T1.a.getD (bkt T1.seed T1.a.length k) []) (j : Int)).2).h.n) (((at_ itI (T1.a.getD (bkt T1.seed T1.a.length k) []) (j : Int)).2).h.c), .int .i64 (((at_ itI (T1.a.getD (bkt T1.seed T1.a.length k) []) (j : Int)).2).till)] (hE284.cells 1 _ rfl))] 1 0 [(37, .agg #[.int .i64 (((at_ itI (T1.a.getD (bkt T1.seed T1.a.length k) []) (j : Int)).2).kind), .string (((at_ itI (T1.a.getD (bkt T1.seed T1.a.length k) []) (j : Int)).2).s), .slice (((at_ itI (T1.a.getD (bkt T1.seed T1.a.length k) []) (j : Int)).2).l.a) (((at_ itI (T1.a.getD (bkt T1.seed T1.a.length k) []) (j : Int)).2).l.n) (((at_ itI (T1.a.getD (bkt T1.seed T1.a.length k) []) (j : Int)).2).l.c), .slice (((at_ itI (T1.a.getD (bkt T1.seed T1.a.length k) []) (j : Int)).2).z.a) (((at_ itI (T1.a.getD (bkt T1.seed T1.a.length k) []) (j : Int)).2).z.n) (((at_ itI (T1.a.getD (bkt T1.seed T1.a.length k) []) (j : Int)).2).z.c), .slice (((at_ itI (T1.a.getD (bkt T1.seed T1.a.length k) []) (j : Int)).2).h.a) (((at_ itI (T1.a.getD (bkt T1.seed T1.a.length k) []) (j : Int)).2).h.n) (((at_ itI (T1.a.getD (bkt T1.seed T1.a.length k) []) (j : Int)).2).h.c), .int .i64 (((at_ itI (T1.a.getD (bkt T1.seed T1.a.length k) []) (j : Int)).2).till)])] fun a h286 => ?_
   refine V.go (V.stn b4 0 (.agg #[.int .i64 (((at_ itI (T1.a.getD (bkt T1.seed T1.a.length k) []) (j : Int)).2).kind), .string (((at_ itI (T1.a.getD (bkt T1.seed T1.a.length k) []) (j : Int)).2).s), .slice (((at_ itI (T1.a.getD (bkt T1.seed T1.a.length k) []) (j : Int)).2).l.a) (((at_ itI (T1.a.getD (bkt T1.seed T1.a.length k) []) (j : Int)).2).l.n) (((at_ itI (T1.a.getD (bkt T1.seed T1.a.length k) []) (j : Int)).2).l.c), .slice (((at_ itI (T1.a.getD (bkt T1.seed T1.a.length k) []) (j : Int)).2).z.a) (((at_ itI (T1.a.getD (bkt T1.seed T1.a.length k) []) (j : Int)).2).z.n) (((at_ itI (T1.a.getD (bkt T1.seed T1.a.length k) []) (j : Int)).2).z.c), .slice (((at_ itI (T1.a.getD (bkt T1.seed T1.a.length k) []) (j : Int)).2).h.a) (((at_ itI (T1.a.getD (bkt T1.seed T1.a.length k) []) (j : Int)).2).h.n) (((at_ itI (T1.a.getD (bkt T1.seed T1.a.length k) []) (j : Int)).2).h.c), .int .i64 (((at_ itI (T1.a.getD (bkt T1.seed T1.a.length k) []) (j : Int)).2).till)]) [.int .i64 (((at_ itI (T1.a.getD (bkt T1.seed T1.a.length k) []) (j : Int)).2).kind), .string (((at_ itI (T1.a.getD (bkt T1.seed T1.a.length k) []) (j : Int)).2).s), .slice (((at_ itI (T1.a.getD (bkt T1.seed T1.a.length k) []) (j : Int)).2).l.a) (((at_ itI (T1.a.getD (bkt T1.seed T1.a.length k) []) (j : Int)).2).l.n) (((at_ itI (T1.a.getD (bkt T1.seed T1.a.length k) []) (j : Int)).2).l.c), .slice (((at_ itI (T1.a.getD (bkt T1.seed T1.a.length k) []) (j : Int)).2).z.a) (((at_ itI (T1.a.getD (bkt T1.seed T1.a.length k) []) (j : Int)).2).z.n) (((at_ itI (T1.a.getD (bkt T1.seed T1.a.length k) []) (j : Int)).2).z.c), .slice (((at_ itI (T1.a.getD (bkt T1.seed T1.a.length k) []) (j : Int)).2).h.a) (((at_ itI (T1.a.getD (bkt T1.seed T1.a.length k) []) (j : Int)).2).h.n) (((at_ itI (T1.a.getD (bkt T1.seed T1.a.length k) []) (j : Int)).2).h.c), .int .i64 (((at_ itI (T1.a.getD (bkt T1.seed T1.a.length k) []) (j : Int)).2).till)] h286.e h286.e rfl rfl (by kernel_rfl) hB6_268 (by simp) [.int .i64 (((at_ itI (T1.a.getD (bkt T1.seed T1.a.length k) []) (j : Int)).2).kind), .string (((at_ itI (T1.a.getD (bkt T1.seed T1.a.length k) []) (j : Int)).2).s), .slice (((at_ itI (T1.a.getD (bkt T1.seed T1.a.length k) []) (j : Int)).2).l.a) (((at_ itI (T1.a.getD (bkt T1.seed T1.a.length k) []) (j : Int)).2).l.n) (((at_ itI (T1.a.getD (bkt T1.seed T1.a.length k) []) (j : Int)).2).l.c), .slice (((at_ itI (T1.a.getD (bkt T1.seed T1.a.length k) []) (j : Int)).2).z.a) (((at_ itI (T1.a.getD (bkt T1.seed T1.a.length k) []) (j : Int)).2).z.n) (((at_ itI (T1.a.getD (bkt T1.seed T1.a.length k) []) (j : Int)).2).z.c), .slice (((at_ itI (T1.a.getD (bkt T1.seed T1.a.length k) []) (j : Int)).2).h.a) (((at_ itI (T1.a.getD (bkt T1.seed T1.a.length k) []) (j : Int)).2).h.n) (((at_ itI (T1.a.getD (bkt T1.seed T1.a.length k) []) (j : Int)).2).h.c), .int .i64 (((at_ itI (T1.a.getD (bkt T1.seed T1.a.length k) []) (j : Int)).2).till)] rfl ?_)
   intro w287 hB288 hF289 hsw287
   have hF_290 := hF_267.own hF289 (by simp <;> omega)
   have hB17_291 := hB17_269.fr1 hF289 (by omega)
   have hB_292 := hB_270.fr1 hF289 (by omega)
   have hRA_293 := hRA_271.fr1 hF289 (by omega)
   have hRB_294 := hRB_272.fr1 hF289 (by omega)
   have hK_295 := hK_273.fr hF289 (by simp)
   have hB247_296 := hB247_274.fr1 hF289 (by omega)
   refine V.eh trivial ?_
   refine V.pz h286 [] 1 0 [(5, .bool true)] fun a h297 => k264 _ _ ?_
   refine V.ret ?_
   refine V.retCT h297.sd rfl _ (h297.e (v := (.pointer (some ⟨b4, 0, none⟩)))) (V.run_loadVar_agg (cs := [.int .i64 (((at_ itI (T1.a.getD (bkt T1.seed T1.a.length k) []) (j : Int)).2).kind), .string (((at_ itI (T1.a.getD (bkt T1.seed T1.a.length k) []) (j : Int)).2).s), .slice (((at_ itI (T1.a.getD (bkt T1.seed T1.a.length k) []) (j : Int)).2).l.a) (((at_ itI (T1.a.getD (bkt T1.seed T1.a.length k) []) (j : Int)).2).l.n) (((at_ itI (T1.a.getD (bkt T1.seed T1.a.length k) []) (j : Int)).2).l.c), .slice (((at_ itI (T1.a.getD (bkt T1.seed T1.a.length k) []) (j : Int)).2).z.a) (((at_ itI (T1.a.getD (bkt T1.seed T1.a.length k) []) (j : Int)).2).z.n) (((at_ itI (T1.a.getD (bkt T1.seed T1.a.length k) []) (j : Int)).2).z.c), .slice (((at_ itI (T1.a.getD (bkt T1.seed T1.a.length k) []) (j : Int)).2).h.a) (((at_ itI (T1.a.getD (bkt T1.seed T1.a.length k) []) (j : Int)).2).h.n) (((at_ itI (T1.a.getD (bkt T1.seed T1.a.length k) []) (j : Int)).2).h.c), .int .i64 (((at_ itI (T1.a.getD (bkt T1.seed T1.a.length k) []) (j : Int)).2).till)]) (by kernel_rfl) (blk_cells hB288 0 _ rfl)) (h297.e (v := (.bool true))) ?_
   refine ⟨?_, hF_290⟩
   unfold lookT; rw [hf]
   rfl
 ·
  rcases hT_32.2 with ⟨hb0, gA, vsA, hN⟩ | ⟨hb0, gA, gB, vsA, vsB, hN⟩
  ·
   exact absurd (by rw [hb0]; rfl) hbn
  ·
   have hb1 : T1.b.length ≠ 0 := fun h => hb0 (List.eq_nil_of_length_eq_zero h)
   obtain ⟨hB, hRA, hRB, hlA, hlB, hK, hne, hne2, hne3, hpt, hpg, hph⟩ := hN
   have hnb15t : t ≠ b15 := fun e => hpt.2 (by rw [e]; simp)
   have hnb15gA : gA ≠ b15 := fun e => hpg.2 (by rw [e]; simp)
   have hnb15gB : gB ≠ b15 := fun e => hph.2 (by rw [e]; simp)
   have hnb4t : t ≠ b4 := fun e => hpt.2 (by rw [e]; simp)
   have hnb4gA : gA ≠ b4 := fun e => hpg.2 (by rw [e]; simp)
   have hnb4gB : gB ≠ b4 := fun e => hph.2 (by rw [e]; simp)
   replace hK := hK.toH
   have hltt := hB.lt
   have hltg := hRA.lt
   have hltg2 := hRB.lt
   have hE : FrP (gp (H) av) w30 w30 := FrP.refl _ _
   have hK0 : ∀ k ∈ av, k < w30.heap.size := fun k hk => hK.avl k (by simp [hk])
   obtain ⟨hsd, hpa, hla, hlb, hmv, hmz, hnn, hcn, hks⟩ := (show T1.Ok from hok1)
   have hbl := hok1.bl
   have hFPE := hFP_33
   refine V.cl (av := #[.pointer (some ⟨t, 0, none⟩), .string k]) h40 (Go.Proofs.enters_of Tryz.func70 (by kernel_rfl) rfl) (by have h := find_any w30 (H) (b15 :: b4 :: av) t T1 hT_32 k hkz; rw [hf] at h; exact h) ?_
   rintro _ w299 ⟨rfl, hF298⟩
   refine ⟨_, rfl, fun a h300 => ?_⟩
   have hsw299 := hF298.size
   have hF_301 := hF_34.new hF298
   have hB6_302 := hB6_35.fr0 hF298
   have hB17_303 := hB17_36.fr0 hF298
   have hB_304 := hB.fr0 hF298
   have hRA_305 := hRA.fr0 hF298
   have hRB_306 := hRB.fr0 hF298
   have hK_307 := hK.fr0 hF298
   have hE_308 := hE.tr0 hF298
   have hbkl := bkt_lt T1.seed k (n := T1.b.length) (by omega)
   refine V.run h300 [] 3 13 13 [(17, .agg #[.int .i64 1, .int .i64 ((bkt T1.seed T1.b.length k : Nat) : Int), .int .i64 (j : Int)]), (18, .bool true)] fun a h313 => ?_
   refine V.go (V.mk [] trivial (by kernel_rfl) [.int .i64 0, .int .i64 0, .int .i64 0] 113 (fun b => .pointer (some ⟨b, 0, none⟩)) (by kernel_rfl) ?_)
   intro w310 b309 heb309 hB311 hF312 hsb309
   have hF_314 := hF_301.new hF312
   have hB6_315 := hB6_302.fr0 hF312
   have hB17_316 := hB17_303.fr0 hF312
   have hB_317 := hB_304.fr0 hF312
   have hRA_318 := hRA_305.fr0 hF312
   have hRB_319 := hRB_306.fr0 hF312
   have hK_320 := hK_307.alloc hF312 heb309 (by omega)
   have hE_321 := hE_308.tr0 hF312
   refine V.pt h313 fun a h322 => ?_
   refine V.go (V.stn b309 0 (.agg #[.int .i64 1, .int .i64 ((bkt T1.seed T1.b.length k : Nat) : Int), .int .i64 (j : Int)]) [.int .i64 1, .int .i64 ((bkt T1.seed T1.b.length k : Nat) : Int), .int .i64 (j : Int)] h322.e h322.e rfl rfl (by kernel_rfl) hB311 (by simp) [.int .i64 1, .int .i64 ((bkt T1.seed T1.b.length k : Nat) : Int), .int .i64 (j : Int)] rfl ?_)
   intro w323 hB324 hF325 hsw323
   have hF_326 := hF_314.own hF325 (by simp <;> omega)
   have hB6_327 := hB6_315.fr1 hF325 (by omega)
   have hB17_328 := hB17_316.fr1 hF325 (by omega)
   have hB_329 := hB_317.fr1 hF325 (by omega)
   have hRA_330 := hRA_318.fr1 hF325 (by omega)
   have hRB_331 := hRB_319.fr1 hF325 (by omega)
   have hK_332 := hK_320.fr hF325 (by simp)
   have hE_333 := hE_321.tr1 hF325 (by first | exact .inl (by assumption) | exact .inr (by omega) | exact .inl (.inl rfl))
   refine V.re h322 [] 1 0 [(8, .bool true)] fun a h334 => k39 _ _ ?_
   refine V.seq fun K335 k336 => ?_
   refine V.seq fun K337 k338 => ?_
   refine V.rr h334 [] 19 19 [(20, .bool false)] fun a h339 => ?_
   refine V.then_n (k338 _ _ ?_)
   refine V.cf h339 ?_
   refine V.skip ?_
   refine V.then_n (k336 _ _ ?_)
   refine V.seq fun K340 k341 => ?_
   refine V.pl [([0,1,2,3,4,5,6,7,8,9,10,11,12,13,14,15],some (16,[])),([17],none)] fun w342 hF343 hsw342 => ?_
   have hF_344 := hF_326.new hF343
   have hB6_345 := hB6_327.fr0 hF343
   have hB17_346 := hB17_328.fr0 hF343
   have hB_347 := hB_329.fr0 hF343
   have hRA_348 := hRA_330.fr0 hF343
   have hRB_349 := hRB_331.fr0 hF343
   have hK_350 := hK_332.fr0 hF343
   have hB324_351 := hB324.fr0 hF343
   obtain ⟨A352, c353, hv354⟩ := hK_350.getB hlA (i := (bkt T1.seed T1.b.length k)) (by omega) nilS
   have hS355 := hK_350.slB hlA (i := (bkt T1.seed T1.b.length k)) (by omega) hv354
   obtain ⟨g356, o357, hA358, hA358l, hA358z⟩ := hS355.addr (by omega)
   obtain ⟨cs359, hok360, hE361⟩ := hS355.els hA358 (j : Int) (by omega) (by omega)
   refine V.pe0 ?_
   refine V.run h339 [(2, .b hB324_351 0), (3, .b hB_347 2), (1, .b hB324_351 1), (0, .ix gB 0 T1.b.length T1.b.length .i64 ((bkt T1.seed T1.b.length k : Nat) : Int) 1 rfl), (0, .l ⟨gB, 0 + ((bkt T1.seed T1.b.length k : Nat) : Int).toNat * 1, none⟩ (.slice A352 ((T1.b.getD (bkt T1.seed T1.b.length k) []).length) c353) ((hRB_349.at (bkt T1.seed T1.b.length k) nilS (by omega)).trans (congrArg some hv354))), (1, .b hB324_351 2), (0, .ix g356 o357 ((T1.b.getD (bkt T1.seed T1.b.length k) []).length) c353 .i64 (j : Int) 7 hA358)] 15 23 35 [(22, .pointer (some ⟨t, 0, none⟩)), (36, .pointer (some ⟨g356, (o357 + (j : Int).toNat * 7) + 1, none⟩))] fun a h362 => ?_
   obtain rfl : cs359 = [.string (at_ itI (T1.b.getD (bkt T1.seed T1.b.length k) []) (j : Int)).1, .int .i64 (at_ itI (T1.b.getD (bkt T1.seed T1.b.length k) []) (j : Int)).2.kind, .string (at_ itI (T1.b.getD (bkt T1.seed T1.b.length k) []) (j : Int)).2.s, .slice (at_ itI (T1.b.getD (bkt T1.seed T1.b.length k) []) (j : Int)).2.l.a (at_ itI (T1.b.getD (bkt T1.seed T1.b.length k) []) (j : Int)).2.l.n (at_ itI (T1.b.getD (bkt T1.seed T1.b.length k) []) (j : Int)).2.l.c, .slice (at_ itI (T1.b.getD (bkt T1.seed T1.b.length k) []) (j : Int)).2.z.a (at_ itI (T1.b.getD (bkt T1.seed T1.b.length k) []) (j : Int)).2.z.n (at_ itI (T1.b.getD (bkt T1.seed T1.b.length k) []) (j : Int)).2.z.c, .slice (at_ itI (T1.b.getD (bkt T1.seed T1.b.length k) []) (j : Int)).2.h.a (at_ itI (T1.b.getD (bkt T1.seed T1.b.length k) []) (j : Int)).2.h.n (at_ itI (T1.b.getD (bkt T1.seed T1.b.length k) []) (j : Int)).2.h.c, .int .i64 (at_ itI (T1.b.getD (bkt T1.seed T1.b.length k) []) (j : Int)).2.till] := hok360
   refine V.se h362 [(0, .ls ⟨g356, (o357 + (j : Int).toNat * 7) + 1, none⟩ [.int .i64 (((at_ itI (T1.b.getD (bkt T1.seed T1.b.length k) []) (j : Int)).2).kind), .string (((at_ itI (T1.b.getD (bkt T1.seed T1.b.length k) []) (j : Int)).2).s), .slice (((at_ itI (T1.b.getD (bkt T1.seed T1.b.length k) []) (j : Int)).2).l.a) (((at_ itI (T1.b.getD (bkt T1.seed T1.b.length k) []) (j : Int)).2).l.n) (((at_ itI (T1.b.getD (bkt T1.seed T1.b.length k) []) (j : Int)).2).l.c), .slice (((at_ itI (T1.b.getD (bkt T1.seed T1.b.length k) []) (j : Int)).2).z.a) (((at_ itI (T1.b.getD (bkt T1.seed T1.b.length k) []) (j : Int)).2).z.n) (((at_ itI (T1.b.getD (bkt T1.seed T1.b.length k) []) (j : Int)).2).z.c), .slice (((at_ itI (T1.b.getD (bkt T1.seed T1.b.length k) []) (j : Int)).2).h.a) (((at_ itI (T1.b.getD (bkt T1.seed T1.b.length k) []) (j : Int)).2).h.n) (((at_ itI (T1.b.getD (bkt T1.seed T1.b.length k) []) (j : Int)).2).h.c), .int .i64 (((at_ itI (T1.b.getD (bkt T1.seed T1.b.length k) []) (j : Int)).2).till)] (hE361.cells 1 _ rfl))] 1 0 [(37, .agg #[.int .i64 (((at_ itI (T1.b.getD (bkt T1.seed T1.b.length k) []) (j : Int)).2).kind), .string (((at_ itI (T1.b.getD (bkt T1.seed T1.b.length k) []) (j : Int)).2).s), .slice (((at_ itI (T1.b.getD (bkt T1.seed T1.b.length k) []) (j : Int)).2).l.a) (((at_ itI (T1.b.getD (bkt T1.seed T1.b.length k) []) (j : Int)).2).l.n) (((at_ itI (T1.b.getD (bkt T1.seed T1.b.length k) []) (j : Int)).2).l.c), .slice (((at_ itI (T1.b.getD (bkt T1.seed T1.b.length k) []) (j : Int)).2).z.a) (((at_ itI (T1.b.getD (bkt T1.seed T1.b.length k) []) (j : Int)).2).z.n) (((at_ itI (T1.b.getD (bkt T1.seed T1.b.length k) []) (j : Int)).2).z.c), .slice (((at_ itI (T1.b.getD (bkt T1.seed T1.b.length k) []) (j : Int)).2).h.a) (((at_ itI (T1.b.getD (bkt T1.seed T1.b.length k) []) (j : Int)).2).h.n) (((at_ itI (T1.b.getD (bkt T1.seed T1.b.length k) []) (j : Int)).2).h.c), .int .i64 (((at_ itI (T1.b.getD (bkt T1.seed T1.b.length k) []) (j : Int)).2).till)])] fun a h363 => ?_
   refine V.go (V.stn b4 0 (.agg #[.int .i64 (((at_ itI (T1.b.getD (bkt T1.seed T1.b.length k) []) (j : Int)).2).kind), .string (((at_ itI (T1.b.getD (bkt T1.seed T1.b.length k) []) (j : Int)).2).s), .slice (((at_ itI (T1.b.getD (bkt T1.seed T1.b.length k) []) (j : Int)).2).l.a) (((at_ itI (T1.b.getD (bkt T1.seed T1.b.length k) []) (j : Int)).2).l.n) (((at_ itI (T1.b.getD (bkt T1.seed T1.b.length k) []) (j : Int)).2).l.c), .slice (((at_ itI (T1.b.getD (bkt T1.seed T1.b.length k) []) (j : Int)).2).z.a) (((at_ itI (T1.b.getD (bkt T1.seed T1.b.length k) []) (j : Int)).2).z.n) (((at_ itI (T1.b.getD (bkt T1.seed T1.b.length k) []) (j : Int)).2).z.c), .slice (((at_ itI (T1.b.getD (bkt T1.seed T1.b.length k) []) (j : Int)).2).h.a) (((at_ itI (T1.b.getD (bkt T1.seed T1.b.length k) []) (j : Int)).2).h.n) (((at_ itI (T1.b.getD (bkt T1.seed T1.b.length k) []) (j : Int)).2).h.c), .int .i64 (((at_ itI (T1.b.getD (bkt T1.seed T1.b.length k) []) (j : Int)).2).till)]) [.int .i64 (((at_ itI (T1.b.getD (bkt T1.seed T1.b.length k) []) (j : Int)).2).kind), .string (((at_ itI (T1.b.getD (bkt T1.seed T1.b.length k) []) (j : Int)).2).s), .slice (((at_ itI (T1.b.getD (bkt T1.seed T1.b.length k) []) (j : Int)).2).l.a) (((at_ itI (T1.b.getD (bkt T1.seed T1.b.length k) []) (j : Int)).2).l.n) (((at_ itI (T1.b.getD (bkt T1.seed T1.b.length k) []) (j : Int)).2).l.c), .slice (((at_ itI (T1.b.getD (bkt T1.seed T1.b.length k) []) (j : Int)).2).z.a) (((at_ itI (T1.b.getD (bkt T1.seed T1.b.length k) []) (j : Int)).2).z.n) (((at_ itI (T1.b.getD (bkt T1.seed T1.b.length k) []) (j : Int)).2).z.c), .slice (((at_ itI (T1.b.getD (bkt T1.seed T1.b.length k) []) (j : Int)).2).h.a) (((at_ itI (T1.b.getD (bkt T1.seed T1.b.length k) []) (j : Int)).2).h.n) (((at_ itI (T1.b.getD (bkt T1.seed T1.b.length k) []) (j : Int)).2).h.c), .int .i64 (((at_ itI (T1.b.getD (bkt T1.seed T1.b.length k) []) (j : Int)).2).till)] h363.e h363.e rfl rfl (by kernel_rfl) hB6_345 (by simp) [.int .i64 (((at_ itI (T1.b.getD (bkt T1.seed T1.b.length k) []) (j : Int)).2).kind), .string (((at_ itI (T1.b.getD (bkt T1.seed T1.b.length k) []) (j : Int)).2).s), .slice (((at_ itI (T1.b.getD (bkt T1.seed T1.b.length k) []) (j : Int)).2).l.a) (((at_ itI (T1.b.getD (bkt T1.seed T1.b.length k) []) (j : Int)).2).l.n) (((at_ itI (T1.b.getD (bkt T1.seed T1.b.length k) []) (j : Int)).2).l.c), .slice (((at_ itI (T1.b.getD (bkt T1.seed T1.b.length k) []) (j : Int)).2).z.a) (((at_ itI (T1.b.getD (bkt T1.seed T1.b.length k) []) (j : Int)).2).z.n) (((at_ itI (T1.b.getD (bkt T1.seed T1.b.length k) []) (j : Int)).2).z.c), .slice (((at_ itI (T1.b.getD (bkt T1.seed T1.b.length k) []) (j : Int)).2).h.a) (((at_ itI (T1.b.getD (bkt T1.seed T1.b.length k) []) (j : Int)).2).h.n) (((at_ itI (T1.b.getD (bkt T1.seed T1.b.length k) []) (j : Int)).2).h.c), .int .i64 (((at_ itI (T1.b.getD (bkt T1.seed T1.b.length k) []) (j : Int)).2).till)] rfl ?_)
   intro w364 hB365 hF366 hsw364
   have hF_367 := hF_344.own hF366 (by simp <;> omega)
   have hB17_368 := hB17_346.fr1 hF366 (by omega)
   have hB_369 := hB_347.fr1 hF366 (by omega)
   have hRA_370 := hRA_348.fr1 hF366 (by omega)
   have hRB_371 := hRB_349.fr1 hF366 (by omega)
   have hK_372 := hK_350.fr hF366 (by simp)
   have hB324_373 := hB324_351.fr1 hF366 (by omega)
   refine V.eh trivial ?_
   refine V.pz h363 [] 1 0 [(5, .bool true)] fun a h374 => k341 _ _ ?_
   refine V.ret ?_
   refine V.retCT h374.sd rfl _ (h374.e (v := (.pointer (some ⟨b4, 0, none⟩)))) (V.run_loadVar_agg (cs := [.int .i64 (((at_ itI (T1.b.getD (bkt T1.seed T1.b.length k) []) (j : Int)).2).kind), .string (((at_ itI (T1.b.getD (bkt T1.seed T1.b.length k) []) (j : Int)).2).s), .slice (((at_ itI (T1.b.getD (bkt T1.seed T1.b.length k) []) (j : Int)).2).l.a) (((at_ itI (T1.b.getD (bkt T1.seed T1.b.length k) []) (j : Int)).2).l.n) (((at_ itI (T1.b.getD (bkt T1.seed T1.b.length k) []) (j : Int)).2).l.c), .slice (((at_ itI (T1.b.getD (bkt T1.seed T1.b.length k) []) (j : Int)).2).z.a) (((at_ itI (T1.b.getD (bkt T1.seed T1.b.length k) []) (j : Int)).2).z.n) (((at_ itI (T1.b.getD (bkt T1.seed T1.b.length k) []) (j : Int)).2).z.c), .slice (((at_ itI (T1.b.getD (bkt T1.seed T1.b.length k) []) (j : Int)).2).h.a) (((at_ itI (T1.b.getD (bkt T1.seed T1.b.length k) []) (j : Int)).2).h.n) (((at_ itI (T1.b.getD (bkt T1.seed T1.b.length k) []) (j : Int)).2).h.c), .int .i64 (((at_ itI (T1.b.getD (bkt T1.seed T1.b.length k) []) (j : Int)).2).till)]) (by kernel_rfl) (blk_cells hB365 0 _ rfl)) (h374.e (v := (.bool true))) ?_
   refine ⟨?_, hF_367⟩
   unfold lookT; rw [hf]
   rfl
set_option maxHeartbeats 4000000 in
set_option maxRecDepth 20000 in
theorem get_any (w : World) (H : Nat → Prop) (av0 : List Nat) (t : Nat) (T : Tb EntV) (hT : TabX 122 118 117 itI w H av0 t T) (hm : T.Mv) (k : ByteArray) (hkz : k.size ≤ 9223372036854775807) : Calls Tryz.prog 30 #[.pointer (some ⟨t, 0, none⟩), .string k] w (fun e w' => e = .returned (.tuple #[.agg #[.int .i64 (lookT EntV.nil (tbStep T) k).1.kind, .string (lookT EntV.nil (tbStep T) k).1.s, .slice (lookT EntV.nil (tbStep T) k).1.l.a (lookT EntV.nil (tbStep T) k).1.l.n (lookT EntV.nil (tbStep T) k).1.l.c, .slice (lookT EntV.nil (tbStep T) k).1.z.a (lookT EntV.nil (tbStep T) k).1.z.n (lookT EntV.nil (tbStep T) k).1.z.c, .slice (lookT EntV.nil (tbStep T) k).1.h.a (lookT EntV.nil (tbStep T) k).1.h.n (lookT EntV.nil (tbStep T) k).1.h.c, .int .i64 (lookT EntV.nil (tbStep T) k).1.till], .bool (lookT EntV.nil (tbStep T) k).2]) ∧ TabX 122 118 117 itI w' (gr H w w') av0 t (tbStep T) ∧ FrP (gp H av0) w w') := by
 have hFP := FrP.refl (gp H av0) w
 obtain ⟨hok0, hm1⟩ := tbStep_ok hT.1 hm
 obtain ⟨T1, hT1⟩ : ∃ T1, T1 = tbStep T := ⟨_, rfl⟩
 rw [← hT1] at hok0 hm1 ⊢
 refine V.en 15 Tryz.func30 fun a h1 => ?_
 refine V.sg fun K2 k3 => ?_
 refine V.go (V.mk [] trivial (by kernel_rfl) [.int .i64 0, .string ⟨#[]⟩, .slice none 0 0, .slice none 0 0, .slice none 0 0, .int .i64 0] 79 (fun b => .pointer (some ⟨b, 0, none⟩)) (by kernel_rfl) ?_)
 intro w5 b4 heb4 hB6 hF7 hsb4
 have hT_8 := hT.alloc hF7 heb4 (by omega)
 have hFP_9 := hFP.tr0 hF7
 refine V.pt h1 fun a h10 => ?_
 refine V.re h10 [] 5 5 [] fun a h11 => k3 _ _ ?_
 refine V.seq fun K12 k13 => ?_
 refine V.seq fun K14 k15 => ?_
 obtain ⟨av, hav⟩ : ∃ l, l = b4 :: av0 := ⟨_, rfl⟩
 rw [← hav] at hT_8
 have hFP16 := hFP_9.addav hav (by omega)
 refine V.rg ?_
 refine V.run h11 [] 1 1 0 [(6, .pointer (some ⟨t, 0, none⟩))] fun a h17 => ?_
 refine V.cl h17 (Go.Proofs.enters_of Tryz.func64 (by kernel_rfl) rfl) (made_any w5 (H) (av) t (T) hT_8) ?_
 rintro _ w19 ⟨rfl, hF18⟩
 refine ⟨_, rfl, fun a h20 => ?_⟩
 have hsw19 := hF18.size
 have hT_21 := hT_8.fr0 hF18
 have hB6_22 := hB6.fr0 hF18
 have hFP16_23 := hFP16.tr0 hF18
 refine V.nt (k15 _ _ ?_)
 refine V.ct h20 ?_
 refine V.rg ?_
 refine V.run h20 [] 1 1 0 [(8, .pointer (some ⟨t, 0, none⟩))] fun a h24 => ?_
 refine V.cl h24 (Go.Proofs.enters_of Tryz.func65 (by kernel_rfl) rfl) (step_any w19 (H) (av) t (T) hT_21 hm) ?_
 rintro _ w27 ⟨rfl, hT25, hfp26⟩
 refine ⟨_, rfl, fun a h28 => ?_⟩
 have hsw27 := hfp26.size
 have hB6_29 := hB6_22.frP hfp26 (by exact fun hp => hp.2 (by first | simp | (rw [hav]; simp)))
 have hFP16_30 := hFP16_23.trP hfp26 (fun k hk => .inl hk)
 have hT25q := hT25.grm (w := w) (by omega)
 rw [← hT1] at hT25q
 refine V.nt (k13 _ _ ?_)
 refine V.sg fun K31 k32 => ?_
 refine V.run h28 [] 2 1 0 [(10, .pointer (some ⟨t, 0, none⟩)), (11, .string k)] fun a h33 => ?_
 refine V.cl h33 (Go.Proofs.enters_of Tryz.func37 (by kernel_rfl) rfl) (look_any w27 (gr H w w27) (av) t (T1) hT25q k (by first | exact hkz | decide | omega)) ?_
 rintro _ w35 ⟨rfl, hF34⟩
 refine ⟨_, rfl, fun a h36 => ?_⟩
 have hsw35 := hF34.size
 have hB6_37 := hB6_29.fr0 hF34
 have hFP16_38 := hFP16_30.tr0 hF34
 have hT25q_39 := hT25q.fr0 hF34
 refine V.run h36 [] 2 1 0 [(13, .agg #[.int .i64 (((lookT EntV.nil (T1) k).1).kind), .string (((lookT EntV.nil (T1) k).1).s), .slice (((lookT EntV.nil (T1) k).1).l.a) (((lookT EntV.nil (T1) k).1).l.n) (((lookT EntV.nil (T1) k).1).l.c), .slice (((lookT EntV.nil (T1) k).1).z.a) (((lookT EntV.nil (T1) k).1).z.n) (((lookT EntV.nil (T1) k).1).z.c), .slice (((lookT EntV.nil (T1) k).1).h.a) (((lookT EntV.nil (T1) k).1).h.n) (((lookT EntV.nil (T1) k).1).h.c), .int .i64 (((lookT EntV.nil (T1) k).1).till)]), (14, .bool ((lookT EntV.nil (T1) k).2))] fun a h43 => ?_
 refine V.go (V.stn b4 0 (.agg #[.int .i64 (((lookT EntV.nil (T1) k).1).kind), .string (((lookT EntV.nil (T1) k).1).s), .slice (((lookT EntV.nil (T1) k).1).l.a) (((lookT EntV.nil (T1) k).1).l.n) (((lookT EntV.nil (T1) k).1).l.c), .slice (((lookT EntV.nil (T1) k).1).z.a) (((lookT EntV.nil (T1) k).1).z.n) (((lookT EntV.nil (T1) k).1).z.c), .slice (((lookT EntV.nil (T1) k).1).h.a) (((lookT EntV.nil (T1) k).1).h.n) (((lookT EntV.nil (T1) k).1).h.c), .int .i64 (((lookT EntV.nil (T1) k).1).till)]) [.int .i64 (((lookT EntV.nil (T1) k).1).kind), .string (((lookT EntV.nil (T1) k).1).s), .slice (((lookT EntV.nil (T1) k).1).l.a) (((lookT EntV.nil (T1) k).1).l.n) (((lookT EntV.nil (T1) k).1).l.c), .slice (((lookT EntV.nil (T1) k).1).z.a) (((lookT EntV.nil (T1) k).1).z.n) (((lookT EntV.nil (T1) k).1).z.c), .slice (((lookT EntV.nil (T1) k).1).h.a) (((lookT EntV.nil (T1) k).1).h.n) (((lookT EntV.nil (T1) k).1).h.c), .int .i64 (((lookT EntV.nil (T1) k).1).till)] h43.e h43.e rfl rfl (by kernel_rfl) hB6_37 (by simp) [.int .i64 (((lookT EntV.nil (T1) k).1).kind), .string (((lookT EntV.nil (T1) k).1).s), .slice (((lookT EntV.nil (T1) k).1).l.a) (((lookT EntV.nil (T1) k).1).l.n) (((lookT EntV.nil (T1) k).1).l.c), .slice (((lookT EntV.nil (T1) k).1).z.a) (((lookT EntV.nil (T1) k).1).z.n) (((lookT EntV.nil (T1) k).1).z.c), .slice (((lookT EntV.nil (T1) k).1).h.a) (((lookT EntV.nil (T1) k).1).h.n) (((lookT EntV.nil (T1) k).1).h.c), .int .i64 (((lookT EntV.nil (T1) k).1).till)] rfl ?_)
 intro w40 hB41 hF42 hsw40
 have hFP16_44 := hFP16_38.tr1 hF42 (by first | exact .inl (by assumption) | exact .inr (by omega) | exact .inl (.inl rfl))
 have hT25q_45 := hT25q_39.fr hF42 (by intro k hk; simp only [List.mem_singleton] at hk; subst hk; exact .inl (by first | simp | (rw [hav]; simp)))
 refine V.re h43 [] 1 0 [(5, .bool ((lookT EntV.nil (T1) k).2))] fun a h46 => k32 _ _ ?_
 refine V.ret ?_
 refine V.retCT h46.sd rfl _ (h46.e (v := (.pointer (some ⟨b4, 0, none⟩)))) (V.run_loadVar_agg (cs := [.int .i64 (((lookT EntV.nil (T1) k).1).kind), .string (((lookT EntV.nil (T1) k).1).s), .slice (((lookT EntV.nil (T1) k).1).l.a) (((lookT EntV.nil (T1) k).1).l.n) (((lookT EntV.nil (T1) k).1).l.c), .slice (((lookT EntV.nil (T1) k).1).z.a) (((lookT EntV.nil (T1) k).1).z.n) (((lookT EntV.nil (T1) k).1).z.c), .slice (((lookT EntV.nil (T1) k).1).h.a) (((lookT EntV.nil (T1) k).1).h.n) (((lookT EntV.nil (T1) k).1).h.c), .int .i64 (((lookT EntV.nil (T1) k).1).till)]) (by kernel_rfl) (blk_cells hB41 0 _ rfl)) (h46.e (v := (.bool ((lookT EntV.nil (T1) k).2)))) ?_
 exact ⟨rfl, (hT25q_45.grl (by omega)).dropav hav, hFP16_44.dropav hav⟩
set_option maxHeartbeats 4000000 in
set_option maxRecDepth 20000 in
theorem len_blk (w : World) (t : Nat) (seed n0 c0 : Nat) (A0 : Option Addr) (v1 m1 m2 : Value) (hB : Blk w t [.int .u64 (seed : Int), .slice A0 n0 c0, v1, m1, m2] 122) : Calls Tryz.prog 53 #[.pointer (some ⟨t, 0, none⟩)] w (fun e w' => e = .returned m2 ∧ Fr [] w w') := by
 have hF := Fr.refl [] w
 refine V.en 9 Tryz.func53 fun a h1 => ?_
 refine V.sr h1 [] 2 2 [] fun a h4 => ?_
 refine V.seq fun K5 k6 => ?_
 refine V.sr h4 [] 3 3 [(4, .bool false)] fun a h9 => ?_
 refine V.cf h9 ?_
 refine V.skip ?_
 refine V.then_n (k6 _ _ ?_)
 refine V.sr h9 [(3, .b hB 4)] 5 8 [(2, m2)] fun a h12 => ?_
 refine V.ret ?_
 refine V.r1 h12 (m2) ?_
 exact ⟨rfl, hF⟩
set_option maxHeartbeats 4000000 in
set_option maxRecDepth 20000 in
theorem new_any (w : World) (av : List Nat) (hav : ∀ k ∈ av, k < w.heap.size) (seed : Nat) (hsd : seed < 18446744073709551616) : Calls Tryz.prog 54 #[.int .u64 (seed : Int)] w (fun e w' => ∃ t, e = .returned (.pointer (some ⟨t, 0, none⟩)) ∧ TabX 122 118 117 itI w' (gr (fun _ => False) w w') av t (newT seed) ∧ Fr [] w w') := by
 have hF := Fr.refl [] w
 refine V.en 13 Tryz.func54 fun a h1 => ?_
 refine V.sr h1 [] 2 2 [] fun a h4 => ?_
 refine V.sg fun K5 k6 => ?_
 refine V.run h4 [] 2 4 4 [(5, .agg #[.int .u64 (seed : Int), .slice none 0 0, .slice none 0 0, .int .i64 0, .int .i64 0])] fun a h7 => ?_
 refine V.go (V.mk [(5, .agg #[.int .u64 (seed : Int), .slice none 0 0, .slice none 0 0, .int .i64 0, .int .i64 0])] ⟨h7.e, trivial⟩ (by kernel_rfl) [.int .u64 (seed : Int), .slice none 0 0, .slice none 0 0, .int .i64 0, .int .i64 0] 122 (fun b => .pointer (some ⟨b, 0, none⟩)) (by kernel_rfl) ?_)
 intro w9 b8 heb8 hB10 hF11 hsb8
 have hF_12 := hF.new hF11
 refine V.pt h7 fun a h13 => ?_
 refine V.re h13 [] 1 0 [(3, .pointer (some ⟨b8, 0, none⟩))] fun a h14 => k6 _ _ ?_
 refine V.seq fun K15 k16 => ?_
 refine V.pl [([0,2,3],some (1,[])),([4],some (5,[])),([],none)] fun w17 hF18 hsw17 => ?_
 have hF_19 := hF_12.new hF18
 have hB10_20 := hB10.fr0 hF18
 refine V.pe h14 [] 7 9 [(10, .pointer (some ⟨b8, 1, none⟩))] fun a h21 => ?_
 refine V.go (V.mks (enc := idV) (4) (.slice none 0 0) nilS 24 (evc.trans (V.int_eq (by omega))) (evc.trans (V.int_eq (by omega))) (by kernel_rfl) info118 rfl rfl (by omega) (by omega) ?_)
 intro w23 b22 heb22 hR24 hF25
 have hsb22 := hR24.lt
 have hF_26 := hF_19.new hF25
 have hB10_27 := hB10_20.fr0 hF25
 refine V.pt h21 fun a h28 => ?_
 refine V.eh trivial ?_
 refine V.pe h28 [] 1 0 [(11, .pointer (some ⟨b8, 1, none⟩))] fun a h29 => ?_
 refine V.go (V.stn b8 1 (.slice (some ⟨b22, 0, none⟩) 4 4) [.slice (some ⟨b22, 0, none⟩) 4 4] h29.e h29.e rfl rfl (by kernel_rfl) hB10_27 (by simp) [.int .u64 (seed : Int), .slice (some ⟨b22, 0, none⟩) 4 4, .slice none 0 0, .int .i64 0, .int .i64 0] rfl ?_)
 intro w30 hB31 hF32 hsw30
 have hF_33 := hF_26.own hF32 (by simp <;> omega)
 have hR24_34 := hR24.fr1 hF32 (by omega)
 refine V.eh trivial ?_
 refine V.pz h29 [] 1 0 [] fun a h35 => k16 _ _ ?_
 refine V.sr h35 [] 12 12 [(2, .pointer (some ⟨b8, 0, none⟩))] fun a h38 => ?_
 refine V.ret ?_
 refine V.r1 h38 (.pointer (some ⟨b8, 0, none⟩)) ?_
 exact ⟨b8, rfl, newT_tab hB31 hR24_34 (by omega) (by omega) (by omega) hsd hav, hF_33⟩
theorem len_any (w : World) (H : Nat → Prop) (av : List Nat) (t : Nat) (T : Tb EntV) (hT : TabX 122 118 117 itI w H av t T) :
    Calls Tryz.prog 53 #[.pointer (some ⟨t, 0, none⟩)] w (fun e w' => e = .returned (.int .i64 (T.n : Int)) ∧ Fr [] w w') := by
  rcases hT.2 with ⟨hb, gA, vsA, h⟩ | ⟨hb, gA, gB, vsA, vsB, h⟩
  · exact len_blk w t T.seed T.a.length T.a.length _ _ _ _ h.blk
  · exact len_blk w t T.seed T.a.length T.a.length _ _ _ _ h.blk
end Go.Proofs.YtjkegckfncfoaaaGreat
end
section
namespace Go.Proofs.YtjkegckfncfoaaaGreat
open Go.V Go.Base
open Go.RowKit (Below)
attribute [local irreducible] Act.put Act.eval
set_option linter.unusedVariables false
set_option linter.unusedSimpArgs false
set_option maxHeartbeats 4000000 in
set_option maxRecDepth 20000 in
theorem isp_any (w : World) (sp t : Nat) (hB : Blk w sp [.pointer (some ⟨t, 0, none⟩)] 63) : Calls Tryz.prog 29 #[.pointer (some ⟨sp, 0, none⟩)] w (fun e w' => e = .returned (.bool (true)) ∧ Fr [] w w') := by
 have hF := Fr.refl [] w
 refine V.en 12 Tryz.func29 fun a h1 => ?_
 refine V.sr h1 [] 2 2 [] fun a h4 => ?_
 refine V.sr h4 [(6, .b hB 0)] 3 11 [(2, .bool true)] fun a h7 => ?_
 refine V.ret ?_
 refine V.r1 h7 (.bool true) ?_
 exact ⟨rfl, hF⟩
set_option maxHeartbeats 4000000 in
set_option maxRecDepth 20000 in
theorem splen_any (w : World) (H : Nat → Prop) (av : List Nat) (sp t : Nat) (T : Tb EntV) (hB : Blk w sp [.pointer (some ⟨t, 0, none⟩)] 63) (hT : TabX 122 118 117 itI w H av t T) : Calls Tryz.prog 17 #[.pointer (some ⟨sp, 0, none⟩)] w (fun e w' => e = .returned (.int .i64 (T.n : Int)) ∧ Fr [] w w') := by
 have hF := Fr.refl [] w
 refine V.en 11 Tryz.func17 fun a h1 => ?_
 refine V.sr h1 [] 2 2 [] fun a h4 => ?_
 refine V.seq fun K5 k6 => ?_
 refine V.sg fun K7 k8 => ?_
 refine V.run h4 [] 1 1 0 [(3, .pointer (some ⟨sp, 0, none⟩))] fun a h9 => ?_
 refine V.cl h9 (Go.Proofs.enters_of Tryz.func29 (by kernel_rfl) rfl) (isp_any w sp t hB) ?_
 rintro _ w11 ⟨rfl, hF10⟩
 refine ⟨_, rfl, fun a h12 => ?_⟩
 have hsw11 := hF10.size
 have hF_13 := hF.new hF10
 have hB_14 := hB.fr0 hF10
 have hT_15 := hT.fr0 hF10
 refine V.re h12 [] 1 0 [(5, .bool false)] fun a h16 => k8 _ _ ?_
 refine V.cf h16 ?_
 refine V.skip ?_
 refine V.then_n (k6 _ _ ?_)
 refine V.sg fun K17 k18 => ?_
 refine V.run h16 [(3, .b hB_14 0)] 4 6 8 [(9, .pointer (some ⟨t, 0, none⟩))] fun a h19 => ?_
 refine V.cl h19 (Go.Proofs.enters_of Tryz.func53 (by kernel_rfl) rfl) (len_any w11 (H) (av) t (T) hT_15) ?_
 rintro _ w21 ⟨rfl, hF20⟩
 refine ⟨_, rfl, fun a h22 => ?_⟩
 have hsw21 := hF20.size
 have hF_23 := hF_13.new hF20
 have hB_24 := hB_14.fr0 hF20
 have hT_25 := hT_15.fr0 hF20
 refine V.re h22 [] 1 0 [(2, .int .i64 ((T).n : Int))] fun a h26 => k18 _ _ ?_
 refine V.ret ?_
 refine V.r1 h26 (.int .i64 ((T).n : Int)) ?_
 exact ⟨rfl, hF_23⟩
set_option maxHeartbeats 4000000 in
set_option maxRecDepth 20000 in
theorem spnew_any (w : World)  : Calls Tryz.prog 26 #[] w (fun e w' => ∃ sp t H, e = .returned (.pointer (some ⟨sp, 0, none⟩)) ∧ Blk w' sp [.pointer (some ⟨t, 0, none⟩)] 63 ∧ TabX 122 118 117 itI w' H [] t (newT 0) ∧ (∀ k, H k → w.heap.size ≤ k ∧ k < w'.heap.size ∧ k ≠ sp) ∧ w.heap.size ≤ sp ∧ Fr [] w w') := by
 have hF := Fr.refl [] w
 refine V.en 4 Tryz.func26 fun a h1 => ?_
 refine V.sr h1 [] 0 0 [] fun a h4 => ?_
 refine V.sg fun K5 k6 => ?_
 refine V.cl h4 (Go.Proofs.enters_of Tryz.func54 (by kernel_rfl) rfl) (new_any w [] (by simp) 0 (by omega)) ?_
 rintro _ w10 ⟨t7, rfl, hT8, hF9⟩
 refine ⟨_, rfl, fun a h11 => ?_⟩
 have hsw10 := hF9.size
 have hF_12 := hF.new hF9
 refine V.run h11 [] 1 1 0 [(2, .agg #[.pointer (some ⟨t7, 0, none⟩)])] fun a h13 => ?_
 refine V.go (V.mk [(2, .agg #[.pointer (some ⟨t7, 0, none⟩)])] ⟨h13.e, trivial⟩ (by kernel_rfl) [.pointer (some ⟨t7, 0, none⟩)] 63 (fun b => .pointer (some ⟨b, 0, none⟩)) (by kernel_rfl) ?_)
 intro w15 b14 heb14 hB16 hF17 hsb14
 have hF_18 := hF_12.new hF17
 have hT8_19 := hT8.alloc hF17 heb14 (by omega)
 refine V.pt h13 fun a h20 => ?_
 refine V.re h20 [] 1 0 [(0, .pointer (some ⟨b14, 0, none⟩))] fun a h21 => k6 _ _ ?_
 refine V.ret ?_
 refine V.r1 h21 (.pointer (some ⟨b14, 0, none⟩)) ?_
 exact ⟨_, _, _, rfl, hB16, hT8_19.sub (by simp) (fun _ _ q => q), (fun k hk => by rcases hk with hk | hk; exact hk.elim; exact ⟨by omega, by omega, by omega⟩), by omega, hF_18⟩
end Go.Proofs.YtjkegckfncfoaaaGreat
end
section
namespace Go.Proofs.YtjkegckfncfoaaaGreat
open Go.V Go.Base
open Go.RowKit (Below)
attribute [local irreducible] Act.put Act.eval
set_option linter.unusedVariables false
set_option linter.unusedSimpArgs false
def ovrD (till now : Int) : Prop := ¬ till = -1 ∧ till ≤ now
instance (a b : Int) : Decidable (ovrD a b) := inferInstanceAs (Decidable (_ ∧ _))
def seenD (role now till : Int) : Prop := (¬ role = 1 ∧ ¬ role = 2) ∨ ¬ ovrD till now
instance (a b c : Int) : Decidable (seenD a b c) := inferInstanceAs (Decidable (_ ∨ _))
set_option maxHeartbeats 4000000 in
set_option maxRecDepth 20000 in
theorem over_any (w : World) (v : EntV) (now : Int) : Calls Tryz.prog 48 #[.agg #[.int .i64 v.kind, .string v.s, .slice v.l.a v.l.n v.l.c, .slice v.z.a v.z.n v.z.c, .slice v.h.a v.h.n v.h.c, .int .i64 v.till], .int .i64 now] w (fun e w' => e = .returned (.bool (decide (ovrD v.till now))) ∧ Fr [] w w') := by
 have hF := Fr.refl [] w
 refine V.en 14 Tryz.func48 fun a h1 => ?_
 refine V.sg fun K2 k3 => ?_
 refine V.go (V.mk [(0, .agg #[.int .i64 v.kind, .string v.s, .slice v.l.a v.l.n v.l.c, .slice v.z.a v.z.n v.z.c, .slice v.h.a v.h.n v.h.c, .int .i64 v.till])] ⟨h1.e, trivial⟩ (by kernel_rfl) [.int .i64 v.kind, .string v.s, .slice v.l.a v.l.n v.l.c, .slice v.z.a v.z.n v.z.c, .slice v.h.a v.h.n v.h.c, .int .i64 v.till] 79 (fun b => .pointer (some ⟨b, 0, none⟩)) (by kernel_rfl) ?_)
 intro w5 b4 heb4 hB6 hF7 hsb4
 have hF_8 := hF.new hF7
 refine V.pt h1 fun a h9 => ?_
 refine V.re h9 [] 4 4 [] fun a h10 => k3 _ _ ?_
 refine V.sg fun K11 k12 => ?_
 refine V.run h10 [(1, .b hB6 5), (0, .ne v.till (-1))] 4 5 7 [(8, .bool (decide (¬ v.till = (-1))))] fun a h13 => ?_
 by_cases hg14 : ¬ v.till = (-1)
 ·
  have h15 := h13.kt 8 hg14
  refine V.re h15 [(1, .b hB6 5)] 9 13 [(4, .bool (decide (v.till ≤ now)))] fun a h16 => k12 _ _ ?_
  refine V.ret ?_
  refine V.r1 h16 (.bool (decide (v.till ≤ now))) ?_
  exact ⟨congrArg (fun b => Ending.returned (Value.bool b)) (decide_eq_decide.2 (by unfold ovrD; first | omega | (constructor <;> intro h <;> first | exact .inr h | (rcases h with h | h; omega; exact h)))), hF_8⟩
 ·
  have h17 := h13.kf 8 hg14
  refine V.re h17 [] 9 13 [(4, .bool false)] fun a h18 => k12 _ _ ?_
  refine V.ret ?_
  refine V.r1 h18 (.bool false) ?_
  exact ⟨congrArg (fun b => Ending.returned (Value.bool b)) (decide_eq_false (by unfold ovrD; omega)).symm, hF_8⟩
set_option maxHeartbeats 4000000 in
set_option maxRecDepth 20000 in
theorem seen_any (w : World) (now dr role : Int) (Aa : Option Addr) (na ca : Nat) (v : EntV) : Calls Tryz.prog 31 #[.agg #[.int .i64 now, .int .u64 dr, .int .i64 role, .slice Aa na ca], .agg #[.int .i64 v.kind, .string v.s, .slice v.l.a v.l.n v.l.c, .slice v.z.a v.z.n v.z.c, .slice v.h.a v.h.n v.h.c, .int .i64 v.till]] w (fun e w' => e = .returned (.bool (decide (seenD role now v.till))) ∧ Fr [] w w') := by
 have hF := Fr.refl [] w
 refine V.en 20 Tryz.func31 fun a h1 => ?_
 refine V.sg fun K2 k3 => ?_
 refine V.go (V.mk [(0, .agg #[.int .i64 now, .int .u64 dr, .int .i64 role, .slice Aa na ca])] ⟨h1.e, trivial⟩ (by kernel_rfl) [.int .i64 now, .int .u64 dr, .int .i64 role, .slice Aa na ca] 27 (fun b => .pointer (some ⟨b, 0, none⟩)) (by kernel_rfl) ?_)
 intro w5 b4 heb4 hB6 hF7 hsb4
 have hF_8 := hF.new hF7
 refine V.pt h1 fun a h9 => ?_
 refine V.go (V.mk [(1, .agg #[.int .i64 v.kind, .string v.s, .slice v.l.a v.l.n v.l.c, .slice v.z.a v.z.n v.z.c, .slice v.h.a v.h.n v.h.c, .int .i64 v.till])] ⟨h9.e, trivial⟩ (by kernel_rfl) [.int .i64 v.kind, .string v.s, .slice v.l.a v.l.n v.l.c, .slice v.z.a v.z.n v.z.c, .slice v.h.a v.h.n v.h.c, .int .i64 v.till] 79 (fun b => .pointer (some ⟨b, 0, none⟩)) (by kernel_rfl) ?_)
 intro w11 b10 heb10 hB12 hF13 hsb10
 have hF_14 := hF_8.new hF13
 have hB6_15 := hB6.fr0 hF13
 refine V.pt h9 fun a h16 => ?_
 refine V.re h16 [] 4 4 [] fun a h17 => k3 _ _ ?_
 refine V.sg fun K18 k19 => ?_
 refine V.run h17 [(1, .b hB6_15 2), (0, .ne role 1)] 4 5 7 [(8, .bool (decide (¬ role = 1)))] fun a h20 => ?_
 by_cases hg21 : ¬ role = 1
 ·
  have h22 := h20.kt 8 hg21
  refine V.run h22 [(1, .b hB6_15 2), (0, .ne role 2)] 5 9 12 [(13, .bool (decide (¬ role = 2)))] fun a h23 => ?_
  by_cases hg24 : ¬ role = 2
  ·
   have h25 := h23.kt 13 hg24
   refine V.re h25 [] 14 19 [(4, .bool true)] fun a h26 => k19 _ _ ?_
   refine V.ret ?_
   refine V.r1 h26 (.bool true) ?_
   exact ⟨congrArg (fun b => Ending.returned (Value.bool b)) (decide_eq_true (by unfold seenD; omega)).symm, hF_14⟩
  ·
   have h27 := h23.kf 13 hg24
   refine V.run h27 [(0, .bs hB12 0 [.int .i64 v.kind, .string v.s, .slice v.l.a v.l.n v.l.c, .slice v.z.a v.z.n v.z.c, .slice v.h.a v.h.n v.h.c, .int .i64 v.till]), (1, .b hB6_15 0)] 3 15 15 [(14, .agg #[.int .i64 v.kind, .string v.s, .slice v.l.a v.l.n v.l.c, .slice v.z.a v.z.n v.z.c, .slice v.h.a v.h.n v.h.c, .int .i64 v.till]), (16, .int .i64 now)] fun a h28 => ?_
   refine V.clg h28 (Go.Proofs.enters_of Tryz.func48 (by kernel_rfl) rfl) (over_any w11 v now) ?_
   rintro _ w30 ⟨rfl, hF29⟩
   refine ⟨_, rfl, fun a h31 => ?_⟩
   have hsw30 := hF29.size
   have hF_32 := hF_14.new hF29
   have hB6_33 := hB6_15.fr0 hF29
   have hB12_34 := hB12.fr0 hF29
   refine V.re h31 [(0, .q (.bool (decide (¬ (ovrD v.till now)))) V.t_not)] 18 19 [(4, .bool (decide (¬ (ovrD v.till now))))] fun a h35 => k19 _ _ ?_
   refine V.ret ?_
   refine V.r1 h35 (.bool (decide (¬ (ovrD v.till now)))) ?_
   exact ⟨congrArg (fun b => Ending.returned (Value.bool b)) (decide_eq_decide.2 (by unfold seenD; first | omega | (constructor <;> intro h <;> first | exact .inr h | (rcases h with h | h; omega; exact h)))), hF_32⟩
 ·
  have h36 := h20.kf 8 hg21
  refine V.run h36 [(2, .bs hB12 0 [.int .i64 v.kind, .string v.s, .slice v.l.a v.l.n v.l.c, .slice v.z.a v.z.n v.z.c, .slice v.h.a v.h.n v.h.c, .int .i64 v.till]), (1, .b hB6_15 0)] 8 9 15 [(13, .bool false), (14, .agg #[.int .i64 v.kind, .string v.s, .slice v.l.a v.l.n v.l.c, .slice v.z.a v.z.n v.z.c, .slice v.h.a v.h.n v.h.c, .int .i64 v.till]), (16, .int .i64 now)] fun a h37 => ?_
  refine V.clg h37 (Go.Proofs.enters_of Tryz.func48 (by kernel_rfl) rfl) (over_any w11 v now) ?_
  rintro _ w39 ⟨rfl, hF38⟩
  refine ⟨_, rfl, fun a h40 => ?_⟩
  have hsw39 := hF38.size
  have hF_41 := hF_14.new hF38
  have hB6_42 := hB6_15.fr0 hF38
  have hB12_43 := hB12.fr0 hF38
  refine V.re h40 [(0, .q (.bool (decide (¬ (ovrD v.till now)))) V.t_not)] 18 19 [(4, .bool (decide (¬ (ovrD v.till now))))] fun a h44 => k19 _ _ ?_
  refine V.ret ?_
  refine V.r1 h44 (.bool (decide (¬ (ovrD v.till now)))) ?_
  exact ⟨congrArg (fun b => Ending.returned (Value.bool b)) (decide_eq_decide.2 (by unfold seenD; first | omega | (constructor <;> intro h <;> first | exact .inr h | (rcases h with h | h; omega; exact h)))), hF_41⟩
end Go.Proofs.YtjkegckfncfoaaaGreat
end
section
namespace Go.V
set_option linter.unusedVariables false
set_option linter.unusedSimpArgs false
section
variable {α : Type} {T : Tb α}
def P2 (n : Nat) : Prop := ∃ k, n = 2 ^ (k + 2)
theorem P2.dbl {n : Nat} (h : P2 n) : P2 (2 * n) := by obtain ⟨k, rfl⟩ := h; exact ⟨k + 1, by rw [Nat.pow_succ 2 (k + 2)]; omega⟩
theorem P2.half {n : Nat} (h : P2 n) (h4 : 4 < n) : P2 (n / 2) ∧ n = 2 * (n / 2) ∧ n % 8 = 0 := by
  obtain ⟨k, rfl⟩ := h
  cases k with
  | zero => simp at h4
  | succ k =>
    have h1 : 2 ^ (k + 1 + 2) = 2 * 2 ^ (k + 2) := by rw [Nat.pow_succ 2 (k + 2)]; omega
    have h2 : 2 ^ (k + 2) = 4 * 2 ^ k := by rw [Nat.pow_succ, Nat.pow_succ]; omega
    refine ⟨⟨k, by omega⟩, by omega, by omega⟩
theorem P2.pos {n : Nat} (h : P2 n) : 4 ≤ n := by
  obtain ⟨k, rfl⟩ := h
  have h2 : 2 ^ (k + 2) = 4 * 2 ^ k := by rw [Nat.pow_succ, Nat.pow_succ]; omega
  have := Nat.two_pow_pos k
  omega
theorem P2.next {k n : Nat} (hk : P2 k) (hn : P2 n) (h : k ≤ n) (hne : k ≠ n) : 2 * k ≤ n := by
  obtain ⟨i, rfl⟩ := hk
  obtain ⟨j, rfl⟩ := hn
  have hij : i < j := by
    rcases Nat.lt_or_ge i j with h1 | h1
    · exact h1
    · exact absurd (Nat.le_antisymm h (Nat.pow_le_pow_right (by decide) (by omega))) hne
  have h1 : 2 * 2 ^ (i + 2) = 2 ^ (i + 3) := by rw [Nat.pow_succ 2 (i + 2)]; omega
  rw [h1]
  exact Nat.pow_le_pow_right (by decide) (by omega)
theorem P2.four : P2 4 := ⟨0, rfl⟩
/-- The sizes of a table: N bounds how many keys there were. -/
structure Tb.Pw (T : Tb α) (N : Nat) : Prop where
  pa : P2 T.a.length
  pb : T.b.length ≠ 0 → P2 T.b.length ∧ (T.b.length = 2 * T.a.length ∨ T.a.length = 2 * T.b.length)
  ld : T.b.length = 0 → T.n ≤ T.a.length
  ba : T.a.length ≤ 4 + 2 * N
  bb : T.b.length ≤ 4 + 2 * N
theorem Tb.Pw.mono {N M : Nat} (h : T.Pw N) (hm : N ≤ M) : T.Pw M := ⟨h.pa, h.pb, h.ld, by have := h.ba; omega, by have := h.bb; omega⟩
variable {N : Nat}
theorem newT_pw (seed : Nat) : (newT seed : Tb α).Pw N := ⟨⟨0, rfl⟩, fun h => absurd rfl h, fun _ => by simp [newT], by simp [newT], by simp [newT]⟩
theorem tbStep_pw (h : T.Pw N) (hn : T.n ≤ N) : (tbStep T).Pw N := by
  unfold tbStep
  by_cases hb : T.b.length = 0
  · rw [if_pos hb]; exact h
  rw [if_neg hb]
  have hl := movedT_b T
  have hl2 := movedT_a T
  obtain ⟨h1, h2⟩ := h.pb hb
  by_cases hc : T.moved + 1 < T.a.length
  · rw [if_pos hc]
    exact ⟨by rw [hl2]; exact h.pa, fun _ => by rw [hl, hl2]; exact ⟨h1, h2⟩, fun h0 => absurd (hl ▸ h0) hb, by rw [hl2]; exact h.ba, by rw [hl]; exact h.bb⟩
  rw [if_neg hc]
  have hbb := h.bb
  by_cases hg : T.n > (movedT T).b.length
  · rw [if_pos hg]
    have hlen : (startT (swapT (movedT T)) (2 * (movedT T).b.length)).b.length = 2 * T.b.length := by rw [← hl]; simp [startT]
    refine ⟨?_, fun _ => ⟨?_, .inl ?_⟩, fun h0 => ?_, ?_, ?_⟩
    · show P2 (movedT T).b.length; rw [hl]; exact h1
    · rw [hlen]; exact h1.dbl
    · rw [hlen]; show 2 * T.b.length = 2 * (movedT T).b.length; rw [hl]
    · rw [hlen] at h0; omega
    · show (movedT T).b.length ≤ _; rw [hl]; omega
    · rw [hlen]; omega
  · rw [if_neg hg]
    refine ⟨?_, fun h0 => absurd rfl h0, fun _ => ?_, ?_, ?_⟩
    · show P2 (movedT T).b.length; rw [hl]; exact h1
    · show T.n ≤ (movedT T).b.length; omega
    · show (movedT T).b.length ≤ _; rw [hl]; omega
    · show 0 ≤ _; omega
theorem updT_pw (h : T.Pw N) (k : ByteArray) (v : α) : (updT T k v).Pw N := by
  unfold updT
  split
  · exact ⟨by show P2 (setV ..).length; rw [setV_length]; exact h.pa, fun h0 => by show _ ∧ (_ = 2 * (setV ..).length ∨ (setV ..).length = _); rw [setV_length]; exact h.pb h0, fun h0 => by show _ ≤ (setV ..).length; rw [setV_length]; exact h.ld h0, by show (setV ..).length ≤ _; rw [setV_length]; exact h.ba, h.bb⟩
  · have e : ∀ i j, (setV T.b i j v).length = T.b.length := fun i j => setV_length _ _ _ _
    exact ⟨h.pa, fun h0 => by show P2 (setV ..).length ∧ ((setV ..).length = _ ∨ _ = 2 * (setV ..).length); rw [e]; exact h.pb (by rwa [e] at h0), fun h0 => h.ld (by have h1 : (setV ..).length = 0 := h0; rwa [e] at h1), h.ba, by show (setV ..).length ≤ _; rw [e]; exact h.bb⟩
theorem insT_pw (h : T.Pw N) (hn : T.n + 1 ≤ N) (k : ByteArray) (v : α) : (insT T k v).Pw N := by
  have e : (putB T.seed T.a (k, v)).length = T.a.length := putB_length _ _ _
  unfold insT
  by_cases hb : T.b.length = 0
  · rw [if_pos hb]
    by_cases hg : T.n + 1 > T.a.length
    · rw [if_pos hg]
      have hlen : (startT ({ T with a := putB T.seed T.a (k, v), n := T.n + 1 } : Tb α) (2 * T.a.length)).b.length = 2 * T.a.length := by simp [startT]
      have := h.pa.pos
      refine ⟨?_, fun _ => ⟨?_, .inl ?_⟩, fun h0 => ?_, ?_, ?_⟩
      · show P2 (putB ..).length; rw [e]; exact h.pa
      · rw [hlen]; exact h.pa.dbl
      · rw [hlen]; show _ = 2 * (putB ..).length; rw [e]
      · rw [hlen] at h0; omega
      · show (putB ..).length ≤ _; rw [e]; omega
      · rw [hlen]; omega
    · rw [if_neg hg]
      exact ⟨by show P2 (putB ..).length; rw [e]; exact h.pa, fun h0 => absurd hb h0, fun _ => by show T.n + 1 ≤ (putB ..).length; rw [e]; omega, by show (putB ..).length ≤ _; rw [e]; exact h.ba, h.bb⟩
  · rw [if_neg hb]
    have e : (putB T.seed T.b (k, v)).length = T.b.length := putB_length _ _ _
    exact ⟨h.pa, fun h0 => by show P2 (putB ..).length ∧ ((putB ..).length = _ ∨ _ = 2 * (putB ..).length); rw [e]; exact h.pb hb, fun h0 => absurd (by have h1 : (putB ..).length = 0 := h0; rwa [e] at h1) hb, h.ba, by show (putB ..).length ≤ _; rw [e]; exact h.bb⟩
theorem tbStep_n' (T : Tb α) : (tbStep T).n = T.n := by
  unfold tbStep
  split
  · rfl
  · split
    · rfl
    · split <;> rfl
theorem putT_pw (h : T.Pw N) (hn : T.n + 1 ≤ N) (k : ByteArray) (v : α) : (putT T k v).Pw N := by
  have h1 := tbStep_pw h (by omega)
  unfold putT put1T
  split
  · exact updT_pw h1 k v
  · exact insT_pw h1 (by rw [tbStep_n']; exact hn) k v
theorem rm1T_pw (h : T.Pw N) (k : ByteArray) : (rm1T T k).Pw N := by
  unfold rm1T
  split
  · have e : ∀ i j, (rmV T.a i j).length = T.a.length := fun i j => rmV_length _ _ _
    exact ⟨by show P2 (rmV ..).length; rw [e]; exact h.pa, fun h0 => by show _ ∧ (_ = 2 * (rmV ..).length ∨ (rmV ..).length = _); rw [e]; exact h.pb h0, fun h0 => by show T.n - 1 ≤ (rmV ..).length; rw [e]; have := h.ld h0; omega, by show (rmV ..).length ≤ _; rw [e]; exact h.ba, h.bb⟩
  · have e : ∀ i j, (rmV T.b i j).length = T.b.length := fun i j => rmV_length _ _ _
    exact ⟨h.pa, fun h0 => by show P2 (rmV ..).length ∧ ((rmV ..).length = _ ∨ _ = 2 * (rmV ..).length); rw [e]; exact h.pb (by rwa [e] at h0), fun h0 => by show T.n - 1 ≤ T.a.length; have := h.ld (by have h1 : (rmV ..).length = 0 := h0; rwa [e] at h1); omega, h.ba, by show (rmV ..).length ≤ _; rw [e]; exact h.bb⟩
theorem shrT_pw (h : T.Pw N) : (shrT T).Pw N := by
  unfold shrT
  split
  · rename_i hc
    obtain ⟨h1, h2, h3⟩ := h.pa.half hc.2.1
    have hlen : (startT T (T.a.length / 2)).b.length = T.a.length / 2 := by simp [startT]
    have hba := h.ba
    refine ⟨h.pa, fun _ => ⟨?_, .inr ?_⟩, fun h0 => ?_, hba, ?_⟩
    · rw [hlen]; exact h1
    · rw [hlen]; exact h2
    · rw [hlen] at h0; omega
    · rw [hlen]; omega
  · exact h
theorem delT_pw (h : T.Pw N) (hn : T.n ≤ N) (k : ByteArray) : (delT T k).Pw N := by
  have h1 := tbStep_pw h hn
  unfold delT del1T
  split
  · exact shrT_pw (rm1T_pw h1 k)
  · exact h1
theorem updT_n (T : Tb α) (k : ByteArray) (v : α) : (updT T k v).n = T.n := by unfold updT; split <;> rfl
theorem insT_n (T : Tb α) (k : ByteArray) (v : α) : (insT T k v).n = T.n + 1 := by
  unfold insT
  split
  · split <;> rfl
  · rfl
theorem putT_n (T : Tb α) (k : ByteArray) (v : α) : (putT T k v).n ≤ T.n + 1 := by
  unfold putT put1T
  split
  · rw [updT_n, tbStep_n']; omega
  · rw [insT_n, tbStep_n']; omega
theorem delT_n (T : Tb α) (k : ByteArray) : (delT T k).n ≤ T.n := by
  unfold delT del1T
  split
  · have h1 : (shrT (rm1T (tbStep T) k)).n = (rm1T (tbStep T) k).n := by unfold shrT; split <;> rfl
    have h2 : (rm1T (tbStep T) k).n ≤ (tbStep T).n := by
      unfold rm1T
      split <;> (show (tbStep T).n - 1 ≤ _; omega)
    rw [h1]; rw [tbStep_n'] at h2; exact h2
  · rw [tbStep_n']; omega
end
end Go.V
end
section
namespace Go.V
set_option linter.unusedVariables false
set_option linter.unusedSimpArgs false
section
variable {α : Type} {T : Tb α} {seed : Nat}
/-- The values under a key, in a bucket; in a row; in a table. -/
def vl (k : ByteArray) (l : List (ByteArray × α)) : List α := l.filterMap fun x => if x.1 = k then some x.2 else none
def va (seed : Nat) (a : List (List (ByteArray × α))) (k : ByteArray) : List α := vl k (a.getD (bkt seed a.length k) [])
def vt (T : Tb α) (k : ByteArray) : List α := va T.seed T.a k ++ va T.seed T.b k
theorem bktlt (seed : Nat) {n : Nat} (h : 0 < n) (k : ByteArray) : bkt seed n k < n := Nat.mod_lt _ h
theorem vl_app (k : ByteArray) (l m : List (ByteArray × α)) : vl k (l ++ m) = vl k l ++ vl k m := List.filterMap_append
theorem vl_one (k : ByteArray) (x : ByteArray × α) : vl k [x] = if x.1 = k then [x.2] else [] := by
  unfold vl
  by_cases h : x.1 = k
  · simp [h]
  · simp [h]
theorem vl_cons (k : ByteArray) (x : ByteArray × α) (l : List (ByteArray × α)) : vl k (x :: l) = (if x.1 = k then [x.2] else []) ++ vl k l := by
  rw [← List.singleton_append, vl_app, vl_one]
def placed (seed : Nat) (a : List (List (ByteArray × α))) : Prop := ∀ i, ∀ x ∈ a.getD i [], bkt seed a.length x.1 = i
theorem vl_none {k : ByteArray} {l : List (ByteArray × α)} (h : ∀ x ∈ l, x.1 ≠ k) : vl k l = [] := by
  induction l with
  | nil => rfl
  | cons x l ih => rw [vl_cons, if_neg (h x (List.mem_cons_self ..)), ih fun y hy => h y (List.mem_cons_of_mem _ hy)]; rfl
theorem ix_some {k : ByteArray} {l : List (ByteArray × α)} (h : ixI l k ≥ 0) : ∃ p x q, l = p ++ x :: q ∧ x.1 = k ∧ (ixI l k).toNat = p.length := by
  unfold ixI at h ⊢
  by_cases hlt : l.findIdx (fun x => decide (x.1 = k)) < l.length
  · rw [if_pos hlt]
    refine ⟨l.take (l.findIdx fun x => decide (x.1 = k)), l[l.findIdx fun x => decide (x.1 = k)], l.drop (l.findIdx (fun x => decide (x.1 = k)) + 1), ?_, ?_, ?_⟩
    · rw [List.getElem_cons_drop, List.take_append_drop]
    · have := List.findIdx_getElem (w := hlt); simpa using this
    · rw [List.length_take, Int.toNat_natCast]; omega
  · rw [if_neg hlt] at h; omega
theorem ix_none {k : ByteArray} {l : List (ByteArray × α)} (h : ¬ ixI l k ≥ 0) : vl k l = [] := by
  refine vl_none fun x hx he => h ?_
  unfold ixI
  have : l.findIdx (fun x => decide (x.1 = k)) < l.length := List.findIdx_lt_length_of_exists ⟨x, hx, by simpa using he⟩
  rw [if_pos this]; omega
theorem find_ab (T : Tb α) (k : ByteArray) : (ixI (T.a.getD (bkt T.seed T.a.length k) []) k ≥ 0 ∧ findT T k = ((0, (bkt T.seed T.a.length k : Int), ixI (T.a.getD (bkt T.seed T.a.length k) []) k), true)) ∨
    (¬ ixI (T.a.getD (bkt T.seed T.a.length k) []) k ≥ 0 ∧ ixI (T.b.getD (bkt T.seed T.b.length k) []) k ≥ 0 ∧ findT T k = ((1, (bkt T.seed T.b.length k : Int), ixI (T.b.getD (bkt T.seed T.b.length k) []) k), true)) ∨
    (¬ ixI (T.a.getD (bkt T.seed T.a.length k) []) k ≥ 0 ∧ ¬ ixI (T.b.getD (bkt T.seed T.b.length k) []) k ≥ 0 ∧ findT T k = ((0, 0, 0), false)) := by
  unfold findT
  by_cases h1 : ixI (T.a.getD (bkt T.seed T.a.length k) []) k ≥ 0
  · exact .inl ⟨h1, if_pos h1⟩
  rw [if_neg h1]
  by_cases h2 : ixI (T.b.getD (bkt T.seed T.b.length k) []) k ≥ 0
  · refine .inr (.inl ⟨h1, h2, if_pos ⟨fun hb => ?_, h2⟩⟩)
    rw [List.eq_nil_of_length_eq_zero hb] at h2
    simp [ixI] at h2
  · exact .inr (.inr ⟨h1, h2, if_neg fun h => h2 h.2⟩)
theorem getD_mid {p q : List (ByteArray × α)} {x z : ByteArray × α} {i : Nat} (h : i = p.length) : (p ++ x :: q).getD i z = x := by
  subst h; rw [List.getD_eq_getElem?_getD, List.getElem?_append_right (by omega)]; simp
theorem look_vt (d : α) (T : Tb α) (k : ByteArray) : lookT d T k = match vt T k with
    | [] => (d, false)
    | v :: _ => (v, true) := by
  unfold lookT vt va
  rcases find_ab T k with ⟨h1, hf⟩ | ⟨h1, h2, hf⟩ | ⟨h1, h2, hf⟩
  · obtain ⟨p, x, q, hl, hk, hi⟩ := ix_some h1
    have hp : (bkt T.seed T.a.length k : Int).toNat = bkt T.seed T.a.length k := rfl
    have hv : vl k (T.a.getD (bkt T.seed T.a.length k) []) ≠ [] := by rw [hl, vl_app, vl_cons, if_pos hk]; simp
    have hnone : vl k p = [] := by
      refine vl_none fun y hy he => ?_
      obtain ⟨j, hj, hjy⟩ := List.mem_iff_getElem.1 hy
      have hlt : ixI (T.a.getD (bkt T.seed T.a.length k) []) k = (p.length : Int) := by omega
      unfold ixI at hlt
      split at hlt
      · have := List.not_of_lt_findIdx (p := fun x : ByteArray × α => decide (x.1 = k)) (xs := T.a.getD (bkt T.seed T.a.length k) []) (i := j) (by omega)
        rw [List.getElem_of_eq hl, List.getElem_append_left hj, hjy] at this
        simp [he] at this
      · omega
    rw [hf, if_pos rfl]
    simp only [if_true, hp]
    rw [hl] at hi ⊢
    rw [getD_mid hi, vl_app, vl_cons, if_pos hk, hnone]; rfl
  · obtain ⟨p, x, q, hl, hk, hi⟩ := ix_some h2
    have hp : (bkt T.seed T.b.length k : Int).toNat = bkt T.seed T.b.length k := rfl
    have hnone : vl k p = [] := by
      refine vl_none fun y hy he => ?_
      obtain ⟨j, hj, hjy⟩ := List.mem_iff_getElem.1 hy
      have hlt : ixI (T.b.getD (bkt T.seed T.b.length k) []) k = (p.length : Int) := by omega
      unfold ixI at hlt
      split at hlt
      · have := List.not_of_lt_findIdx (p := fun x : ByteArray × α => decide (x.1 = k)) (xs := T.b.getD (bkt T.seed T.b.length k) []) (i := j) (by omega)
        rw [List.getElem_of_eq hl, List.getElem_append_left hj, hjy] at this
        simp [he] at this
      · omega
    rw [hf, if_pos rfl, ix_none h1]
    simp only [if_neg (show ¬ (1 : Int) = 0 by decide), hp]
    rw [hl] at hi ⊢
    rw [getD_mid hi, vl_app, vl_cons, if_pos hk, hnone]; rfl
  · rw [hf, if_neg (by simp), ix_none h1, ix_none h2]; rfl
/-- Every key stands in its bucket, once. -/
structure Tb.Wf (T : Tb α) : Prop where
  pa : placed T.seed T.a
  pb : placed T.seed T.b
  un : ∀ k, (vt T k).length ≤ 1
theorem placed_nil (n : Nat) : placed seed (List.replicate n ([] : List (ByteArray × α))) := by
  intro i x hx
  have : (List.replicate n ([] : List (ByteArray × α))).getD i [] = [] := by rw [List.getD_eq_getElem?_getD, List.getElem?_replicate]; split <;> rfl
  rw [this] at hx; cases hx
theorem va_nil (n : Nat) (k : ByteArray) : va seed (List.replicate n ([] : List (ByteArray × α))) k = [] := by
  unfold va
  have : (List.replicate n ([] : List (ByteArray × α))).getD (bkt seed (List.replicate n ([] : List (ByteArray × α))).length k) [] = [] := by rw [List.getD_eq_getElem?_getD, List.getElem?_replicate]; split <;> rfl
  rw [this]; rfl
theorem va_nil0 (k : ByteArray) : va seed ([] : List (List (ByteArray × α))) k = [] := va_nil 0 k
theorem newT_wf (s : Nat) : (newT s : Tb α).Wf := ⟨placed_nil 4, placed_nil 0, fun k => by
  have : vt (newT s : Tb α) k = [] := by unfold vt newT; rw [va_nil, va_nil0]; rfl
  rw [this]; exact Nat.zero_le _⟩
theorem putB_placed {b : List (List (ByteArray × α))} (h : placed seed b) (hb : 0 < b.length) (x : ByteArray × α) : placed seed (putB seed b x) := by
  intro i y hy
  rw [putB_length]
  unfold putB at hy
  by_cases hi : bkt seed b.length x.1 = i
  · subst hi
    rw [getD_set_self (bktlt _ hb _)] at hy
    rcases List.mem_append.1 hy with hy | hy
    · exact h _ y hy
    · rw [List.mem_singleton.1 hy]
  · rw [Go.V.getD_set_ne hi] at hy; exact h i y hy
theorem putB_va {b : List (List (ByteArray × α))} (hb : 0 < b.length) (x : ByteArray × α) (k : ByteArray) : va seed (putB seed b x) k = va seed b k ++ vl k [x] := by
  unfold va
  rw [putB_length]
  unfold putB
  by_cases hi : bkt seed b.length x.1 = bkt seed b.length k
  · rw [hi, getD_set_self (bktlt _ hb _), vl_app]
  · rw [Go.V.getD_set_ne hi, vl_one, if_neg (fun h => hi (by rw [h])), List.append_nil]
theorem putBs_va : ∀ (m : List (ByteArray × α)) {b : List (List (ByteArray × α))}, 0 < b.length → ∀ k, va seed (m.foldl (putB seed) b) k = va seed b k ++ vl k m
  | [], b, hb, k => by simp [vl]
  | x :: m, b, hb, k => by rw [List.foldl_cons, putBs_va m (by rw [putB_length]; exact hb), putB_va hb, List.append_assoc, ← vl_app]; rfl
theorem putBs_placed : ∀ (m : List (ByteArray × α)) {b : List (List (ByteArray × α))}, 0 < b.length → placed seed b → placed seed (m.foldl (putB seed) b)
  | [], b, hb, h => h
  | x :: m, b, hb, h => putBs_placed m (by rw [putB_length]; exact hb) (putB_placed h hb x)
theorem placed_set {a : List (List (ByteArray × α))} (h : placed seed a) (i : Nat) {y : List (ByteArray × α)} (hy : ∀ x ∈ y, bkt seed a.length x.1 = i) : placed seed (a.set i y) := by
  intro j x hx
  rw [List.length_set]
  by_cases hj : i = j
  · subst hj
    rcases Nat.lt_or_ge i a.length with hl | hl
    · rw [getD_set_self hl] at hx; exact hy x hx
    · rw [List.set_eq_of_length_le hl] at hx; exact h i x hx
  · rw [Go.V.getD_set_ne hj] at hx; exact h j x hx
theorem va_set {a : List (List (ByteArray × α))} (i : Nat) (y : List (ByteArray × α)) (hi : i < a.length) (k : ByteArray) : va seed (a.set i y) k = if bkt seed a.length k = i then vl k y else va seed a k := by
  unfold va
  rw [List.length_set]
  split
  · rename_i h; rw [h, getD_set_self hi]
  · rename_i h; rw [Go.V.getD_set_ne (fun e => h e.symm)]
theorem comm1 {l m : List α} (h : (l ++ m).length ≤ 1) : m ++ l = l ++ m := by
  cases l with
  | nil => simp
  | cons x l =>
    cases m with
    | nil => simp
    | cons y m => simp at h
theorem movedT_vt (hw : T.Wf) (h : T.Ok) (hb : T.b.length ≠ 0) (k : ByteArray) : vt (movedT T) k = vt T k := by
  have hmv := h.mv hb
  show va T.seed (T.a.set T.moved []) k ++ va T.seed ((T.a.getD T.moved []).foldl (putB T.seed) T.b) k = _
  rw [va_set _ _ hmv, putBs_va _ (by omega)]
  have hun := hw.un k
  by_cases hk : bkt T.seed T.a.length k = T.moved
  · rw [if_pos hk]
    have hva : va T.seed T.a k = vl k (T.a.getD T.moved []) := by unfold va; rw [hk]
    unfold vt at hun ⊢
    rw [hva] at hun ⊢
    show [] ++ _ = _
    rw [List.nil_append, comm1 hun]
  · rw [if_neg hk, vl_none (l := T.a.getD T.moved []) (fun x hx he => hk (by rw [← he]; exact hw.pa _ x hx)), List.append_nil]
    rfl
theorem movedT_placed (hw : T.Wf) (hb : T.b.length ≠ 0) : placed T.seed (movedT T).a ∧ placed T.seed (movedT T).b :=
  ⟨placed_set hw.pa _ (fun x hx => by cases hx), putBs_placed _ (by omega) hw.pb⟩
theorem tbStep_seed (T : Tb α) : (tbStep T).seed = T.seed := by
  unfold tbStep
  split
  · rfl
  · split
    · rfl
    · split <;> rfl
theorem tbStep_vt (hw : T.Wf) (h : T.Ok) (hm : T.Mv) : (tbStep T).Wf ∧ ∀ k, vt (tbStep T) k = vt T k := by
  have key : (∀ k, vt (tbStep T) k = vt T k) ∧ placed T.seed (tbStep T).a ∧ placed T.seed (tbStep T).b := by
    unfold tbStep
    by_cases hb : T.b.length = 0
    · rw [if_pos hb]; exact ⟨fun _ => rfl, hw.pa, hw.pb⟩
    rw [if_neg hb]
    obtain ⟨p1, p2⟩ := movedT_placed hw hb
    have hv := movedT_vt hw h hb
    by_cases hl : T.moved + 1 < T.a.length
    · rw [if_pos hl]; exact ⟨hv, p1, p2⟩
    rw [if_neg hl]
    have hmv := h.mv hb
    have hz : ∀ k, va T.seed (movedT T).a k = [] := fun k => by
      have hlt := Nat.mod_lt (hashN T.seed k) h.pa
      show va T.seed (T.a.set T.moved []) k = []
      rw [va_set _ _ hmv]
      split
      · rfl
      · rename_i hne
        unfold va
        have hlt2 : bkt T.seed T.a.length k < T.a.length := hlt
        rw [hm _ (by omega)]; rfl
    have hs : ∀ k, vt (swapT (movedT T)) k = vt T k := fun k => by
      rw [← hv k]
      unfold vt
      show va T.seed (movedT T).b k ++ va T.seed [] k = va T.seed (movedT T).a k ++ va T.seed (movedT T).b k
      rw [hz, va_nil0]; simp
    split
    · refine ⟨fun k => ?_, p2, placed_nil _⟩
      rw [← hs k]
      show va T.seed (movedT T).b k ++ va T.seed (List.replicate _ []) k = va T.seed (movedT T).b k ++ va T.seed [] k
      rw [va_nil, va_nil0]
    · exact ⟨hs, p2, placed_nil 0⟩
  refine ⟨⟨by rw [tbStep_seed]; exact key.2.1, by rw [tbStep_seed]; exact key.2.2, fun k => by rw [key.1 k]; exact hw.un k⟩, key.1⟩
theorem start_vt (hb : T.b = []) (n : Nat) (k : ByteArray) : vt (startT T n) k = vt T k := by
  unfold vt
  show va T.seed T.a k ++ va T.seed (List.replicate n []) k = va T.seed T.a k ++ va T.seed T.b k
  rw [hb, va_nil, va_nil0]
theorem start_wf (hw : T.Wf) (hb : T.b = []) (n : Nat) : (startT T n).Wf := ⟨hw.pa, placed_nil n, fun k => by rw [start_vt hb]; exact hw.un k⟩
/-- A bucket with one value under k, at p.length. -/
theorem mid_nil {k : ByteArray} {p q : List (ByteArray × α)} {x : ByteArray × α} (hk : x.1 = k) (h : (vl k (p ++ x :: q)).length ≤ 1) : vl k p = [] ∧ vl k q = [] := by
  rw [vl_app, vl_cons, if_pos hk] at h
  simp at h
  exact ⟨List.eq_nil_of_length_eq_zero (by omega), List.eq_nil_of_length_eq_zero (by omega)⟩
theorem vl_mid {k k' : ByteArray} {p q : List (ByteArray × α)} {x : ByteArray × α} (hk : x.1 = k) (hne : k' ≠ k) : vl k' (p ++ x :: q) = vl k' (p ++ q) := by
  rw [vl_app, vl_cons, if_neg (by rw [hk]; exact fun e => hne e.symm), vl_app]; rfl
theorem modify_mid {p q : List (ByteArray × α)} {x : ByteArray × α} {f : ByteArray × α → ByteArray × α} {j : Nat} (h : j = p.length) : (p ++ x :: q).modify j f = p ++ f x :: q := by
  subst h
  apply List.ext_getElem?
  intro i
  rw [List.getElem?_modify]
  rcases Nat.lt_trichotomy i p.length with hi | hi | hi
  · rw [List.getElem?_append_left hi, List.getElem?_append_left hi]
    cases p[i]? <;> simp [show ¬ p.length = i by omega]
  · subst hi; simp
  · rw [List.getElem?_append_right (by omega), List.getElem?_append_right (by omega)]
    obtain ⟨m, hm⟩ : ∃ m, i - p.length = m + 1 := ⟨i - p.length - 1, by omega⟩
    rw [hm, List.getElem?_cons_succ, List.getElem?_cons_succ]
    cases q[m]? <;> simp [show ¬ p.length = i by omega]
theorem erase_mid {p q : List (ByteArray × α)} {x : ByteArray × α} {j : Nat} (h : j = p.length) : (p ++ x :: q).eraseIdx j = p ++ q := by
  subst h
  rw [List.eraseIdx_append_of_length_le (Nat.le_refl _), Nat.sub_self]; rfl
/-- A row whose bucket of k holds it: with another value; without it. -/
theorem row_turn {a : List (List (ByteArray × α))} {k : ByteArray} (hp : placed seed a) (ha : 0 < a.length) (h1 : (va seed a k).length ≤ 1) (hx : ixI (a.getD (bkt seed a.length k) []) k ≥ 0) (v : α) :
    (placed seed (setV a (bkt seed a.length k) (ixI (a.getD (bkt seed a.length k) []) k).toNat v) ∧ ∀ k', va seed (setV a (bkt seed a.length k) (ixI (a.getD (bkt seed a.length k) []) k).toNat v) k' = if k' = k then [v] else va seed a k') ∧
    (placed seed (rmV a (bkt seed a.length k) (ixI (a.getD (bkt seed a.length k) []) k).toNat) ∧ ∀ k', va seed (rmV a (bkt seed a.length k) (ixI (a.getD (bkt seed a.length k) []) k).toNat) k' = if k' = k then [] else va seed a k') := by
  have hlt : bkt seed a.length k < a.length := Nat.mod_lt _ ha
  obtain ⟨p, x, q, hl, hk, hi⟩ := ix_some hx
  have hpl := hp (bkt seed a.length k)
  unfold va at h1
  rw [hl] at h1 hpl
  obtain ⟨z1, z2⟩ := mid_nil hk h1
  unfold setV rmV
  rw [hl] at hi
  rw [hl, modify_mid hi, erase_mid hi]
  refine ⟨⟨placed_set hp _ fun y hy => ?_, fun k' => ?_⟩, ⟨placed_set hp _ fun y hy => ?_, fun k' => ?_⟩⟩
  · rcases List.mem_append.1 hy with hy | hy
    · exact hpl y (List.mem_append_left _ hy)
    · rcases List.mem_cons.1 hy with rfl | hy
      · exact hpl x (List.mem_append_right _ (List.mem_cons_self ..))
      · exact hpl y (List.mem_append_right _ (List.mem_cons_of_mem _ hy))
  · rw [va_set _ _ hlt]
    by_cases he : k' = k
    · subst he
      rw [if_pos rfl, if_pos rfl, vl_app, vl_cons, if_pos hk, z1, z2]; rfl
    · rw [if_neg he]
      split
      · rename_i hbk
        unfold va
        rw [hbk, hl, vl_mid hk he, vl_mid (x := (x.1, v)) hk he]
      · rfl
  · rcases List.mem_append.1 hy with hy | hy
    · exact hpl y (List.mem_append_left _ hy)
    · exact hpl y (List.mem_append_right _ (List.mem_cons_of_mem _ hy))
  · rw [va_set _ _ hlt]
    by_cases he : k' = k
    · subst he
      rw [if_pos rfl, if_pos rfl, vl_app, z1, z2]; rfl
    · rw [if_neg he]
      split
      · rename_i hbk
        unfold va
        rw [hbk, hl, vl_mid hk he]
      · rfl
theorem un_of {T' : Tb α} (pa : placed T'.seed T'.a) (pb : placed T'.seed T'.b) {k : ByteArray} {l : List α} (hl : l.length ≤ 1) (hw : T.Wf) (h : ∀ k', vt T' k' = if k' = k then l else vt T k') : T'.Wf :=
  ⟨pa, pb, fun k' => by rw [h k']; split <;> first | exact hl | exact hw.un k'⟩
theorem len_ab (hw : T.Wf) (k : ByteArray) : (va T.seed T.a k).length ≤ 1 ∧ (va T.seed T.b k).length ≤ 1 ∧ (va T.seed T.a k ≠ [] → va T.seed T.b k = []) := by
  have := hw.un k
  unfold vt at this
  rw [List.length_append] at this
  refine ⟨by omega, by omega, fun h => List.eq_nil_of_length_eq_zero ?_⟩
  have : 0 < (va T.seed T.a k).length := List.length_pos_iff.2 h
  omega
theorem ix_ne {k : ByteArray} {l : List (ByteArray × α)} (h : ixI l k ≥ 0) : vl k l ≠ [] := by
  obtain ⟨p, x, q, hl, hk, _⟩ := ix_some h
  rw [hl, vl_app, vl_cons, if_pos hk]; simp
theorem put_vt (hw : T.Wf) (h : T.Ok) (k : ByteArray) (v : α) : (put1T T k v).Wf ∧ ∀ k', vt (put1T T k v) k' = if k' = k then [v] else vt T k' := by
  obtain ⟨l1, l2, l3⟩ := len_ab hw k
  unfold put1T
  rcases find_ab T k with ⟨h1, hf⟩ | ⟨h1, h2, hf⟩ | ⟨h1, h2, hf⟩
  · rw [hf, if_pos rfl]
    unfold updT
    rw [hf, if_pos rfl]
    obtain ⟨q1, q2⟩ := (row_turn hw.pa h.pa l1 h1 v).1
    have hz := l3 (ix_ne h1)
    have key : ∀ k', vt ({ T with a := setV T.a (bkt T.seed T.a.length k) (ixI (T.a.getD (bkt T.seed T.a.length k) []) k).toNat v } : Tb α) k' = if k' = k then [v] else vt T k' := fun k' => by
      show va T.seed _ k' ++ va T.seed T.b k' = _
      rw [q2 k']
      split
      · rename_i he; rw [he, hz]; rfl
      · rfl
    exact ⟨un_of q1 hw.pb (k := k) (l := [v]) (Nat.le_refl _) hw key, key⟩
  · rw [hf, if_pos rfl]
    unfold updT
    rw [hf, if_neg (show ¬ (1 : Int) = 0 by decide)]
    have hb : 0 < T.b.length := by
      rcases Nat.eq_zero_or_pos T.b.length with h0 | h0
      · rw [List.eq_nil_of_length_eq_zero h0] at h2; simp [ixI] at h2
      · exact h0
    obtain ⟨q1, q2⟩ := (row_turn hw.pb hb l2 h2 v).1
    have key : ∀ k', vt ({ T with b := setV T.b (bkt T.seed T.b.length k) (ixI (T.b.getD (bkt T.seed T.b.length k) []) k).toNat v } : Tb α) k' = if k' = k then [v] else vt T k' := fun k' => by
      show va T.seed T.a k' ++ va T.seed _ k' = _
      rw [q2 k']
      split
      · rename_i he
        have : va T.seed T.a k = [] := ix_none h1
        rw [he, this]; rfl
      · rfl
    exact ⟨un_of hw.pa q1 (k := k) (l := [v]) (Nat.le_refl _) hw key, key⟩
  · rw [hf, if_neg (by simp)]
    have z1 : va T.seed T.a k = [] := ix_none h1
    have z2 : va T.seed T.b k = [] := ix_none h2
    have hone : ∀ k', vl k' [(k, v)] = if k' = k then [v] else [] := fun k' => by
      rw [vl_one]
      by_cases he : k' = k
      · rw [if_pos he, if_pos he.symm]
      · rw [if_neg he, if_neg fun e => he e.symm]
    have keyA : ∀ k', va T.seed (putB T.seed T.a (k, v)) k' ++ va T.seed T.b k' = if k' = k then [v] else vt T k' := fun k' => by
      rw [putB_va h.pa, hone]
      split
      · rename_i he; rw [he, z1, z2]; rfl
      · rw [List.append_nil]; rfl
    unfold insT
    by_cases hb : T.b.length = 0
    · rw [if_pos hb]
      have hb0 := List.eq_nil_of_length_eq_zero hb
      have hwA : ({ T with a := putB T.seed T.a (k, v), n := T.n + 1 } : Tb α).Wf := un_of (putB_placed hw.pa h.pa _) hw.pb (k := k) (l := [v]) (Nat.le_refl _) hw keyA
      split
      · exact ⟨start_wf hwA hb0 _, fun k' => by rw [start_vt (T := { T with a := putB T.seed T.a (k, v), n := T.n + 1 }) hb0]; exact keyA k'⟩
      · exact ⟨hwA, keyA⟩
    · rw [if_neg hb]
      have keyB : ∀ k', va T.seed T.a k' ++ va T.seed (putB T.seed T.b (k, v)) k' = if k' = k then [v] else vt T k' := fun k' => by
        rw [putB_va (by omega), hone]
        split
        · rename_i he; rw [he, z1, z2]; rfl
        · rw [List.append_nil]; rfl
      exact ⟨un_of hw.pa (putB_placed hw.pb (by omega) _) (k := k) (l := [v]) (Nat.le_refl _) hw keyB, keyB⟩
theorem del_vt (hw : T.Wf) (h : T.Ok) (k : ByteArray) : (del1T T k).Wf ∧ ∀ k', vt (del1T T k) k' = if k' = k then [] else vt T k' := by
  obtain ⟨l1, l2, l3⟩ := len_ab hw k
  have shr : ∀ {U : Tb α}, U.Wf → (shrT U).Wf ∧ ∀ k', vt (shrT U) k' = vt U k' := fun {U} hu => by
    unfold shrT
    split
    · rename_i hc
      have hb0 := List.eq_nil_of_length_eq_zero hc.1
      exact ⟨start_wf hu hb0 _, fun k' => start_vt hb0 _ k'⟩
    · exact ⟨hu, fun _ => rfl⟩
  unfold del1T
  rcases find_ab T k with ⟨h1, hf⟩ | ⟨h1, h2, hf⟩ | ⟨h1, h2, hf⟩
  · rw [hf, if_pos rfl]
    unfold rm1T
    rw [hf, if_pos rfl]
    obtain ⟨q1, q2⟩ := (row_turn (v := ((T.a.getD (bkt T.seed T.a.length k) []).getD (ixI (T.a.getD (bkt T.seed T.a.length k) []) k).toNat ((ix_some h1).choose_spec.choose)).2) hw.pa h.pa l1 h1).2
    have hz := l3 (ix_ne h1)
    have key : ∀ k', vt ({ T with a := rmV T.a (bkt T.seed T.a.length k) (ixI (T.a.getD (bkt T.seed T.a.length k) []) k).toNat, n := T.n - 1 } : Tb α) k' = if k' = k then [] else vt T k' := fun k' => by
      show va T.seed _ k' ++ va T.seed T.b k' = _
      rw [q2 k']
      split
      · rename_i he; rw [he, hz]; rfl
      · rfl
    have hu := un_of (T' := { T with a := rmV T.a (bkt T.seed T.a.length k) (ixI (T.a.getD (bkt T.seed T.a.length k) []) k).toNat, n := T.n - 1 }) q1 hw.pb (k := k) (l := []) (Nat.zero_le _) hw key
    exact ⟨(shr hu).1, fun k' => ((shr hu).2 k').trans (key k')⟩
  · rw [hf, if_pos rfl]
    unfold rm1T
    rw [hf, if_neg (show ¬ (1 : Int) = 0 by decide)]
    have hb : 0 < T.b.length := by
      rcases Nat.eq_zero_or_pos T.b.length with h0 | h0
      · rw [List.eq_nil_of_length_eq_zero h0] at h2; simp [ixI] at h2
      · exact h0
    obtain ⟨q1, q2⟩ := (row_turn (v := ((T.b.getD (bkt T.seed T.b.length k) []).getD (ixI (T.b.getD (bkt T.seed T.b.length k) []) k).toNat ((ix_some h2).choose_spec.choose)).2) hw.pb hb l2 h2).2
    have key : ∀ k', vt ({ T with b := rmV T.b (bkt T.seed T.b.length k) (ixI (T.b.getD (bkt T.seed T.b.length k) []) k).toNat, n := T.n - 1 } : Tb α) k' = if k' = k then [] else vt T k' := fun k' => by
      show va T.seed T.a k' ++ va T.seed _ k' = _
      rw [q2 k']
      split
      · rename_i he
        have : va T.seed T.a k = [] := ix_none h1
        rw [he, this]; rfl
      · rfl
    have hu := un_of (T' := { T with b := rmV T.b (bkt T.seed T.b.length k) (ixI (T.b.getD (bkt T.seed T.b.length k) []) k).toNat, n := T.n - 1 }) hw.pa q1 (k := k) (l := []) (Nat.zero_le _) hw key
    exact ⟨(shr hu).1, fun k' => ((shr hu).2 k').trans (key k')⟩
  · rw [hf, if_neg (by simp)]
    have z1 : va T.seed T.a k = [] := ix_none h1
    have z2 : va T.seed T.b k = [] := ix_none h2
    refine ⟨hw, fun k' => ?_⟩
    split
    · rename_i he; rw [he]; unfold vt; rw [z1, z2]; rfl
    · rfl
theorem putT_vt (hw : T.Wf) (h : T.Ok) (hm : T.Mv) (k : ByteArray) (v : α) : (putT T k v).Wf ∧ ∀ k', vt (putT T k v) k' = if k' = k then [v] else vt T k' := by
  obtain ⟨w1, e1⟩ := tbStep_vt hw h hm
  obtain ⟨w2, e2⟩ := put_vt w1 (tbStep_ok h hm).1 k v
  exact ⟨w2, fun k' => by rw [show putT T k v = put1T (tbStep T) k v from rfl, e2 k', e1 k']⟩
theorem delT_vt (hw : T.Wf) (h : T.Ok) (hm : T.Mv) (k : ByteArray) : (delT T k).Wf ∧ ∀ k', vt (delT T k) k' = if k' = k then [] else vt T k' := by
  obtain ⟨w1, e1⟩ := tbStep_vt hw h hm
  obtain ⟨w2, e2⟩ := del_vt w1 (tbStep_ok h hm).1 k
  exact ⟨w2, fun k' => by rw [show delT T k = del1T (tbStep T) k from rfl, e2 k', e1 k']⟩
end
end Go.V
end
section
namespace Go.Proofs.YtjkegckfncfoaaaGreat
open Go.V Go.Base
open Go.RowKit (Below)
attribute [local irreducible] Act.put Act.eval
set_option linter.unusedVariables false
set_option linter.unusedSimpArgs false
/-- What an entry's headers lead to. -/
def EntOk (Vb : Nat → Prop) (w : World) (v : EntV) (l : List ByteArray) (z : List (ByteArray × Int)) (h : List (ByteArray × ByteArray)) : Prop :=
  v.l.n = l.length ∧ v.z.n = z.length ∧ v.h.n = h.length ∧ SlR Rp.str Vb w (.slice v.l.a v.l.n v.l.c) l ∧ SlR scR Vb w (.slice v.z.a v.z.n v.z.c) z ∧ SlR fdR Vb w (.slice v.h.a v.h.n v.h.c) h
theorem EntOk.frP {Vb P : Nat → Prop} {w w1 : World} {v : EntV} {l : List ByteArray} {z : List (ByteArray × Int)} {h : List (ByteArray × ByteArray)} (q : EntOk Vb w v l z h) (f : FrP P w w1) (hp : ∀ k, Vb k → ¬ P k) : EntOk Vb w1 v l z h :=
  ⟨q.1, q.2.1, q.2.2.1, q.2.2.2.1.frP f hp, q.2.2.2.2.1.frP f hp, q.2.2.2.2.2.frP f hp⟩
theorem EntOk.zone {Vb Vb' : Nat → Prop} {w : World} {v : EntV} {l : List ByteArray} {z : List (ByteArray × Int)} {h : List (ByteArray × ByteArray)} (q : EntOk Vb w v l z h) (f : ∀ k, Vb k → Vb' k) : EntOk Vb' w v l z h :=
  ⟨q.1, q.2.1, q.2.2.1, q.2.2.2.1.zone fun b _ hb => f b hb, q.2.2.2.2.1.zone fun b _ hb => f b hb, q.2.2.2.2.2.zone fun b _ hb => f b hb⟩
/-- An entry in memory, and its data. -/
def EntIs (Vb : Nat → Prop) (w : World) (v : EntV) (x : EnD) : Prop := v.kind = x.k ∧ v.s = x.s ∧ v.till = x.till ∧ EntOk Vb w v x.l x.z x.h
theorem EntIs.frP {Vb P : Nat → Prop} {w w1 : World} {v : EntV} {x : EnD} (q : EntIs Vb w v x) (f : FrP P w w1) (hp : ∀ k, Vb k → ¬ P k) : EntIs Vb w1 v x := ⟨q.1, q.2.1, q.2.2.1, q.2.2.2.frP f hp⟩
theorem EntIs.zone {Vb Vb' : Nat → Prop} {w : World} {v : EntV} {x : EnD} (q : EntIs Vb w v x) (f : ∀ k, Vb k → Vb' k) : EntIs Vb' w v x := ⟨q.1, q.2.1, q.2.2.1, q.2.2.2.zone f⟩
/-! ### What keys have -/
def updD (D : ByteArray → Option EnD) (k : ByteArray) (x : Option EnD) : ByteArray → Option EnD := fun k' => if k' = k then x else D k'
theorem updD_same (D : ByteArray → Option EnD) (k : ByteArray) (x : Option EnD) : updD D k x k = x := if_pos rfl
theorem updD_other {D : ByteArray → Option EnD} {k k' : ByteArray} {x : Option EnD} (h : k' ≠ k) : updD D k x k' = D k' := if_neg h
/-- How many keys there are. -/
def CntD (n : Nat) (D : ByteArray → Option EnD) : Prop := ∃ ks : List ByteArray, ks.Nodup ∧ ks.length = n ∧ ∀ k, k ∈ ks ↔ D k ≠ none
theorem CntD.nil : CntD 0 (fun _ => none) := ⟨[], List.nodup_nil, rfl, fun k => by simp⟩
theorem CntD.put {n : Nat} {D : ByteArray → Option EnD} (h : CntD n D) (k : ByteArray) (x : EnD) : CntD (if D k = none then n + 1 else n) (updD D k (some x)) := by
  obtain ⟨ks, h1, h2, h3⟩ := h
  by_cases hk : D k = none
  · rw [if_pos hk]
    refine ⟨k :: ks, List.nodup_cons.2 ⟨fun hm => (h3 k).1 hm hk, h1⟩, by rw [List.length_cons, h2], fun k' => ?_⟩
    rw [List.mem_cons]
    by_cases he : k' = k
    · subst he; rw [updD_same]; simp
    · rw [updD_other he, h3 k']; simp [he]
  · rw [if_neg hk]
    refine ⟨ks, h1, h2, fun k' => ?_⟩
    by_cases he : k' = k
    · subst he; rw [updD_same, h3 k']; simp [hk]
    · rw [updD_other he, h3 k']
theorem CntD.del {n : Nat} {D : ByteArray → Option EnD} (h : CntD n D) (k : ByteArray) : CntD (if D k = none then n else n - 1) (updD D k none) := by
  obtain ⟨ks, h1, h2, h3⟩ := h
  by_cases hk : D k = none
  · rw [if_pos hk]
    refine ⟨ks, h1, h2, fun k' => ?_⟩
    by_cases he : k' = k
    · subst he; rw [updD_same, h3 k', hk]
    · rw [updD_other he, h3 k']
  · rw [if_neg hk]
    obtain ⟨p, q, rfl⟩ := List.append_of_mem ((h3 k).2 hk)
    have hp := (List.perm_middle (a := k) (l₁ := p) (l₂ := q)).nodup_iff.1 h1
    rw [List.nodup_cons] at hp
    refine ⟨p ++ q, hp.2, by simp at h2 ⊢; omega, fun k' => ?_⟩
    by_cases he : k' = k
    · subst he; rw [updD_same]; exact ⟨fun h => absurd h hp.1, fun h => absurd rfl h⟩
    · rw [updD_other he, ← h3 k']; simp [he]
theorem CntD.pos {n : Nat} {D : ByteArray → Option EnD} (h : CntD n D) {k : ByteArray} (hk : D k ≠ none) : 0 < n := by
  obtain ⟨ks, h1, h2, h3⟩ := h
  have := List.length_pos_of_mem ((h3 k).2 hk)
  omega
/-- A space in memory: the table's blocks H, the values' blocks Vb. -/
structure SpX (w : World) (H Vb : Nat → Prop) (sp t : Nat) (T : Tb EntV) (D : ByteArray → Option EnD) : Prop where
  hB : Blk w sp [.pointer (some ⟨t, 0, none⟩)] 63
  hT : TabX 122 118 117 itI w H [] t T
  hm : T.Mv
  hw : T.Wf
  hH : ∀ k, H k → ¬ Vb k ∧ k ≠ sp ∧ k < w.heap.size
  hV : ∀ k, Vb k → k ≠ sp ∧ k < w.heap.size
  hE : ∀ k, (vt T k = [] ∧ D k = none) ∨ ∃ v x, vt T k = [v] ∧ D k = some x ∧ x.key = k ∧ okD x ∧ EntIs Vb w v x
  hN : CntD T.n D
  hM : T.n ≤ 65536
theorem SpX.frl {w w1 : World} {H Vb : Nat → Prop} {sp t : Nat} {T : Tb EntV} {D : ByteArray → Option EnD} {l : List Nat} (q : SpX w H Vb sp t T D) (f : Fr l w w1) (hl : ∀ k ∈ l, ¬ H k ∧ ¬ Vb k ∧ k ≠ sp) : SpX w1 H Vb sp t T D :=
  ⟨q.hB.fr f fun hm => (hl _ hm).2.2 rfl, q.hT.fr f (fun k hk => .inr (hl k hk).1), q.hm, q.hw, fun k hk => ⟨(q.hH k hk).1, (q.hH k hk).2.1, by have := (q.hH k hk).2.2; have := f.size; omega⟩, fun k hk => ⟨(q.hV k hk).1, by have := (q.hV k hk).2; have := f.size; omega⟩, fun k => (q.hE k).imp id fun ⟨v, x, h1, h2, h3, h4, he⟩ =>
    ⟨v, x, h1, h2, h3, h4, he.frP (FrP.of f) fun j hj hm => (hl j hm).2.1 hj⟩, q.hN, q.hM⟩
theorem SpX.fr0 {w w1 : World} {H Vb : Nat → Prop} {sp t : Nat} {T : Tb EntV} {D : ByteArray → Option EnD} (q : SpX w H Vb sp t T D) (f : Fr [] w w1) : SpX w1 H Vb sp t T D := q.frl f fun k hk => absurd hk (by simp)
theorem SpX.look {w : World} {H Vb : Nat → Prop} {sp t : Nat} {T : Tb EntV} {D : ByteArray → Option EnD} (q : SpX w H Vb sp t T D) (key : ByteArray) : ((lookT EntV.nil T key).2 = false ∧ D key = none) ∨ ∃ x, (lookT EntV.nil T key).2 = true ∧ D key = some x ∧ x.key = key ∧ okD x ∧ EntIs Vb w (lookT EntV.nil T key).1 x := by
  rw [look_vt]
  rcases q.hE key with ⟨h1, h2⟩ | ⟨v, x, h1, h2, h3, h4, h5⟩
  · rw [h1]; exact .inl ⟨rfl, h2⟩
  · rw [h1]; exact .inr ⟨x, rfl, h2, h3, h4, h5⟩
/-- A row of one entry. -/
theorem en_one {Z Z' Z'' : Nat → Prop} {w : World} {b : Nat} {x : EnD} {vl vz vh : Value} (hB : Blk w b [.string x.key, .int .i64 x.k, .string x.s, vl, vz, vh, .int .i64 x.till] 39) (h1 : SlR Rp.str Z w vl x.l) (h2 : SlR scR Z' w vz x.z) (h3 : SlR fdR Z'' w vh x.h) :
    SlR enR (fun _ => True) w (.slice (some ⟨b, 0, none⟩) 1 1) [x] := by
  refine ⟨_, 1, rfl, by simp, by simp, fun i u hi => ?_⟩
  match i with
  | 0 =>
    simp at hi
    subst hi
    refine ⟨b, 0, _, rfl, trivial, hB.lt, ⟨vl, vz, vh, rfl, h1.zone fun _ _ _ => trivial, h2.zone fun _ _ _ => trivial, h3.zone fun _ _ _ => trivial⟩, fun j u hj => ?_⟩
    have hj' : j < 7 := by have := (List.getElem?_eq_some_iff.1 hj).1; simpa using this
    rw [Nat.zero_mul, Nat.zero_add]
    exact hB.at j hj
  | i + 1 => simp at hi
/-! ### What an entry that may be is like -/
theorem img_iff {x : EnD} : imgN [x] = 0 ↔ okD x := by
  have hq : AllG (gE [x]) [x].length ↔ okD x := ⟨fun h => (h 0 (by simp)).1, fun h i hi => by
    have h0 : i = 0 := by simp at hi; exact hi
    subst h0
    exact ⟨h, fun hlt => absurd hlt (Nat.lt_irrefl 0)⟩⟩
  rcases Classical.em (okD x) with h1 | h1
  · exact ⟨fun _ => h1, fun _ => imgN_ok (by simp) (hq.2 h1)⟩
  · have := imgN_no (l := [x]) (by simp) fun hg => h1 (hq.1 hg)
    exact ⟨fun h => by omega, fun h => absurd h h1⟩
theorem okD_bnd {x : EnD} (h : okD x) : x.key.size ≤ 65536 ∧ x.l.length ≤ 65536 ∧ x.z.length ≤ 65536 ∧ x.h.length ≤ 65536 ∧ -1 ≤ x.till ∧ x.till ≤ 1099511627776 := by
  obtain ⟨h1, h2, h3⟩ := h
  unfold okV at h3
  split at h3
  · exact ⟨h1, by omega, by omega, by omega, by omega, by omega⟩
  split at h3
  · exact ⟨h1, by omega, by omega, by omega, by omega, by omega⟩
  split at h3
  · exact ⟨h1, by omega, by omega, by omega, by omega, by omega⟩
  split at h3
  · exact ⟨h1, by omega, by omega, by omega, by omega, by omega⟩
  split at h3
  · exact ⟨h1, by omega, by omega, by omega, by omega, by omega⟩
  · exact h3.elim
theorem okD_z {x : EnD} (h : okD x) : ∀ y ∈ x.z, y.1.size ≤ 65536 := by
  obtain ⟨h1, h2, h3⟩ := h
  intro y hy
  have h0 : x.z.length ≠ 0 := fun e => by rw [List.eq_nil_of_length_eq_zero e] at hy; simp at hy
  unfold okV at h3
  split at h3
  · exact absurd h3.2.2.1 h0
  split at h3
  · exact absurd h3.2.1 h0
  split at h3
  · exact absurd h3.2.1 h0
  split at h3
  · obtain ⟨i, hi, he⟩ := List.getElem_of_mem hy
    have hg := h3.2.2.2.2.1 i hi
    have ha : at_ scR x.z (i : Int) = y := by unfold at_; rw [Int.toNat_natCast, List.getD_eq_getElem?_getD, List.getElem?_eq_getElem hi]; exact he
    unfold gM at hg
    rw [ha] at hg
    omega
  split at h3
  · exact absurd h3.2.2.1 h0
  · exact h3.elim
end Go.Proofs.YtjkegckfncfoaaaGreat
end
section
namespace Go.Proofs.YtjkegckfncfoaaaGreat
open Go.V Go.Base
open Go.RowKit (Below)
attribute [local irreducible] Act.put Act.eval
set_option linter.unusedVariables false
set_option linter.unusedSimpArgs false
def nwV (Vb : Nat → Prop) (a b c : Value) : Nat → Prop := fun j => Vb j ∨ a.ownBlock = some j ∨ b.ownBlock = some j ∨ c.ownBlock = some j
theorem own_zone {α : Type} {R : Rp α} {w : World} {base : Nat} {e : TypeId} {v : Value} {xs : List α} (h : OwR R NoZ w base e v xs) (hf : ∀ (Z Z' : Nat → Prop) x cs, R.ok Z w x cs → R.ok Z' w x cs) {Z : Nat → Prop} (hz : ∀ b, v.ownBlock = some b → Z b) : SlR R Z w v xs := by
  obtain ⟨cs, h1, h2, h3⟩ := h
  rcases h1.2 with ⟨rfl, hn⟩ | ⟨g, cap, cur, rfl, hg, hr⟩
  · obtain rfl : xs = [] := List.eq_nil_of_length_eq_zero hn
    exact SlR.nil _ _ _
  · have hq : OwR R NoZ w g e (.slice (some ⟨g, 0, none⟩) xs.length cap) xs := ⟨cs, ⟨h1.1, .inr ⟨g, cap, cur, rfl, Nat.le_refl _, hr⟩⟩, h2, h3⟩
    have hs := hq.read (Z' := fun b => g ≤ b) (fun _ _ h => h.elim) (fun _ h _ => h)
    obtain ⟨A', c', e', l1, l2, l3⟩ := hs
    injection e' with e1 e2 e3
    refine ⟨_, cap, rfl, by rw [e3]; exact l1, l2, fun i x hi => ?_⟩
    obtain ⟨g', o', cs', hA, hZ, hg', hok, hc⟩ := l3 i x hi
    rw [← e1] at hA
    injection hA with hA
    injection hA with hA1 hA2
    refine ⟨g, 0, cs', rfl, hz g rfl, hA1 ▸ hg', hf _ _ _ _ hok, by rw [hA1, hA2]; exact hc⟩
theorem tb_look {T : Tb EntV} {k : ByteArray} : (findT T k).2 = (lookT EntV.nil T k).2 := by
  unfold lookT
  split
  · rename_i h; exact h
  · rename_i h; simpa using h
theorem tb_found {w : World} {H Vb : Nat → Prop} {sp t : Nat} {T : Tb EntV} {D : ByteArray → Option EnD} (q : SpX w H Vb sp t T D) (key : ByteArray) : ((findT (tbStep T) key).2 = false ∧ D key = none) ∨ ((findT (tbStep T) key).2 = true ∧ D key ≠ none) := by
  rw [tb_look, look_vt, (tbStep_vt q.hw q.hT.1 q.hm).2]
  rcases q.hE key with ⟨h1, h2⟩ | ⟨v, x, h1, h2, _⟩
  · rw [h1]; exact .inl ⟨rfl, h2⟩
  · rw [h1]; exact .inr ⟨rfl, by rw [h2]; simp⟩
theorem putT_n' {w : World} {H Vb : Nat → Prop} {sp t : Nat} {T : Tb EntV} {D : ByteArray → Option EnD} (q : SpX w H Vb sp t T D) (key : ByteArray) (v : EntV) : (putT T key v).n = if D key = none then T.n + 1 else T.n := by
  unfold putT put1T
  rcases tb_found q key with ⟨h1, h2⟩ | ⟨h1, h2⟩
  · rw [if_neg (by rw [h1]; simp), if_pos h2, insT_n, tbStep_n']
  · rw [if_pos h1, if_neg h2, updT_n, tbStep_n']
theorem sp_put {w w2 w' : World} {H Vb : Nat → Prop} {sp t : Nat} {T : Tb EntV} {D : ByteArray → Option EnD} {avt : List Nat} {x : EnD} {Al Az Ah : Option Addr} {cl cz ch : Nat} {b1 b2 b3 : Nat}
    (hq : SpX w H Vb sp t T D) (hok : okD x) (hn : D x.key ≠ none ∨ T.n < 65536) (hF : Fr [] w w2) (hP : FrP (gp H avt) w2 w') (hB : Blk w' sp [.pointer (some ⟨t, 0, none⟩)] 63) (hT : TabX 122 118 117 itI w' (gr H w2 w') avt t (putT T x.key ⟨x.k, x.s, ⟨Al, x.l.length, cl⟩, ⟨Az, x.z.length, cz⟩, ⟨Ah, x.h.length, ch⟩, x.till⟩))
    (o1 : OwR Rp.str NoZ w2 b1 9 (.slice Al x.l.length cl) x.l) (o2 : OwR scR NoZ w2 b2 107 (.slice Az x.z.length cz) x.z) (o3 : OwR fdR NoZ w2 b3 110 (.slice Ah x.h.length ch) x.h) (h1 : w.heap.size ≤ b1) (h2 : w.heap.size ≤ b2) (h3 : w.heap.size ≤ b3)
    (p1 : OwR Rp.str NoZ w' b1 9 (.slice Al x.l.length cl) x.l) (p2 : OwR scR NoZ w' b2 107 (.slice Az x.z.length cz) x.z) (p3 : OwR fdR NoZ w' b3 110 (.slice Ah x.h.length ch) x.h) :
    SpX w' (gr H w2 w') (nwV Vb (.slice Al x.l.length cl) (.slice Az x.z.length cz) (.slice Ah x.h.length ch)) sp t (putT T x.key ⟨x.k, x.s, ⟨Al, x.l.length, cl⟩, ⟨Az, x.z.length, cz⟩, ⟨Ah, x.h.length, ch⟩, x.till⟩) (updD D x.key (some x)) := by
  have hs1 := hF.size
  have hs2 := hP.size
  have hspl := hq.hB.lt
  have hM := hq.hM
  have hkz := (okD_bnd hok).1
  have he : EntOk (nwV Vb (.slice Al x.l.length cl) (.slice Az x.z.length cz) (.slice Ah x.h.length ch)) w' ⟨x.k, x.s, ⟨Al, x.l.length, cl⟩, ⟨Az, x.z.length, cz⟩, ⟨Ah, x.h.length, ch⟩, x.till⟩ x.l x.z x.h :=
    ⟨rfl, rfl, rfl, own_zone p1 (fun _ _ _ _ q => q) fun b q => .inr (.inl q), own_zone p2 (fun _ _ _ _ q => q) fun b q => .inr (.inr (.inl q)), own_zone p3 (fun _ _ _ _ q => q) fun b q => .inr (.inr (.inr q))⟩
  have hv := putT_vt hq.hw hq.hT.1 hq.hm x.key ⟨x.k, x.s, ⟨Al, x.l.length, cl⟩, ⟨Az, x.z.length, cz⟩, ⟨Ah, x.h.length, ch⟩, x.till⟩
  have hvb : ∀ j, nwV Vb (.slice Al x.l.length cl) (.slice Az x.z.length cz) (.slice Ah x.h.length ch) j → Vb j ∨ (w.heap.size ≤ j ∧ j < w2.heap.size) := fun j hj => by
    rcases hj with hj | hj | hj | hj
    · exact .inl hj
    · have := o1.lt j hj; exact .inr ⟨by omega, this.2⟩
    · have := o2.lt j hj; exact .inr ⟨by omega, this.2⟩
    · have := o3.lt j hj; exact .inr ⟨by omega, this.2⟩
  refine ⟨hB, hT.sub (by simp) (fun _ _ q => q), ?_, hv.1, fun j hj => ⟨fun q => ?_, ?_, ?_⟩, fun j hj => ?_, fun k' => ?_, ?_, ?_⟩
  · exact (putT_ok hq.hT.1 hq.hm (by omega) x.key (by omega) _).2
  · rcases hj with hj | hj
    · have := hq.hH j hj
      rcases hvb j q with q | q
      · exact this.1 q
      · omega
    · rcases hvb j q with q | q
      · have := hq.hV j q; omega
      · omega
  · rcases hj with hj | hj
    · exact (hq.hH j hj).2.1
    · intro e; omega
  · rcases hj with hj | hj
    · have := (hq.hH j hj).2.2; omega
    · exact hj.2
  · rcases hvb j hj with q | q
    · have := hq.hV j q; exact ⟨this.1, by omega⟩
    · exact ⟨by omega, by omega⟩
  · rw [hv.2 k']
    by_cases hk : k' = x.key
    · subst hk; rw [if_pos rfl, updD_same]; exact .inr ⟨_, x, rfl, rfl, rfl, hok, rfl, rfl, rfl, he⟩
    · rw [if_neg hk, updD_other hk]
      refine (hq.hE k').imp id fun ⟨v, y, e1, e2, e3, e4, e5⟩ => ⟨v, y, e1, e2, e3, e4, ?_⟩
      exact ((e5.frP (FrP.of hF) fun k _ hk => by simp at hk).frP hP fun j hj hp => (hq.hH j hp.1).1 hj).zone fun j hj => .inl hj
  · rw [putT_n' hq]; exact hq.hN.put x.key x
  · rw [putT_n' hq]
    split
    · rename_i e
      rcases hn with h | h
      · exact absurd e h
      · omega
    · exact hM
theorem sp_turn {w w2 w' : World} {H Vb : Nat → Prop} {sp t : Nat} {T T' : Tb EntV} {D D' : ByteArray → Option EnD} {avt : List Nat} (hq : SpX w H Vb sp t T D) (hF : Fr [] w w2) (hP : FrP (gp H avt) w2 w') (hB : Blk w' sp [.pointer (some ⟨t, 0, none⟩)] 63) (hT : TabX 122 118 117 itI w' (gr H w2 w') avt t T')
    (hm : T'.Mv) (hw : T'.Wf) (hD : ∀ k, (vt T' k = [] ∧ D' k = none) ∨ (vt T' k = vt T k ∧ D' k = D k)) (hN : CntD T'.n D') (hM : T'.n ≤ 65536) :
    SpX w' (gr H w2 w') Vb sp t T' D' := by
  have hs1 := hF.size
  have hs2 := hP.size
  have hspl := hq.hB.lt
  refine ⟨hB, hT.sub (by simp) (fun _ _ q => q), hm, hw, fun j hj => ⟨fun q => ?_, ?_, ?_⟩, fun j hj => ?_, fun k' => ?_, hN, hM⟩
  · rcases hj with hj | hj
    · exact (hq.hH j hj).1 q
    · have := hq.hV j q; omega
  · rcases hj with hj | hj
    · exact (hq.hH j hj).2.1
    · intro e; omega
  · rcases hj with hj | hj
    · have := (hq.hH j hj).2.2; omega
    · exact hj.2
  · have := hq.hV j hj; exact ⟨this.1, by omega⟩
  · rcases hD k' with h | ⟨h1, h2⟩
    · exact .inl h
    · rw [h1, h2]
      exact (hq.hE k').imp id fun ⟨v, y, e1, e2, e3, e4, e5⟩ => ⟨v, y, e1, e2, e3, e4, (e5.frP (FrP.of hF) fun k _ hk => by simp at hk).frP hP fun j hj hp => (hq.hH j hp.1).1 hj⟩
theorem sp_step {w w2 w' : World} {H Vb : Nat → Prop} {sp t : Nat} {T : Tb EntV} {D : ByteArray → Option EnD} {avt : List Nat} (hq : SpX w H Vb sp t T D) (hF : Fr [] w w2) (hP : FrP (gp H avt) w2 w') (hB : Blk w' sp [.pointer (some ⟨t, 0, none⟩)] 63) (hT : TabX 122 118 117 itI w' (gr H w2 w') avt t (tbStep T)) :
    SpX w' (gr H w2 w') Vb sp t (tbStep T) D :=
  have hv := tbStep_vt hq.hw hq.hT.1 hq.hm
  sp_turn hq hF hP hB hT (tbStep_ok hq.hT.1 hq.hm).2 hv.1 (fun k => .inr ⟨hv.2 k, rfl⟩) (by rw [tbStep_n']; exact hq.hN) (by rw [tbStep_n']; exact hq.hM)
theorem delT_n' {w : World} {H Vb : Nat → Prop} {sp t : Nat} {T : Tb EntV} {D : ByteArray → Option EnD} (q : SpX w H Vb sp t T D) (key : ByteArray) : (delT T key).n = if D key = none then T.n else T.n - 1 := by
  unfold delT del1T
  rcases tb_found q key with ⟨h1, h2⟩ | ⟨h1, h2⟩
  · rw [if_neg (by rw [h1]; simp), if_pos h2, tbStep_n']
  · rw [if_pos h1, if_neg h2]
    have e1 : (shrT (rm1T (tbStep T) key)).n = (rm1T (tbStep T) key).n := by unfold shrT; split <;> rfl
    have e2 : (rm1T (tbStep T) key).n = (tbStep T).n - 1 := by unfold rm1T; split <;> rfl
    rw [e1, e2, tbStep_n']
theorem sp_del {w w2 w' : World} {H Vb : Nat → Prop} {sp t : Nat} {T : Tb EntV} {D : ByteArray → Option EnD} {avt : List Nat} {key : ByteArray} (hq : SpX w H Vb sp t T D) (hkz : key.size ≤ 9223372036854775807) (hF : Fr [] w w2) (hP : FrP (gp H avt) w2 w') (hB : Blk w' sp [.pointer (some ⟨t, 0, none⟩)] 63) (hT : TabX 122 118 117 itI w' (gr H w2 w') avt t (delT T key)) :
    SpX w' (gr H w2 w') Vb sp t (delT T key) (updD D key none) := by
  have hv := delT_vt hq.hw hq.hT.1 hq.hm key
  refine sp_turn hq hF hP hB hT (delT_ok hq.hT.1 hq.hm key).2 hv.1 (fun k => ?_) (by rw [delT_n' hq]; exact hq.hN.del key) (by have := hq.hM; rw [delT_n' hq]; split <;> omega)
  rw [hv.2 k]
  by_cases hk : k = key
  · subst hk; rw [if_pos rfl, updD_same]; exact .inl ⟨rfl, rfl⟩
  · rw [if_neg hk, updD_other hk]; exact .inr ⟨rfl, rfl⟩
end Go.Proofs.YtjkegckfncfoaaaGreat
end
section
namespace Go.Proofs.YtjkegckfncfoaaaGreat
open Go.V Go.Base
open Go.RowKit (Below)
attribute [local irreducible] Act.put Act.eval
set_option linter.unusedVariables false
set_option linter.unusedSimpArgs false
/-- A space in memory: S holds all its blocks; n keys; what each has. -/
def SpY (w : World) (S : Nat → Prop) (sp n : Nat) (D : ByteArray → Option EnD) : Prop :=
  ∃ H Vb t T, SpX w H Vb sp t T D ∧ T.n = n ∧ (∀ k, H k ∨ Vb k ∨ k = sp → S k) ∧ (∀ k, S k → k < w.heap.size)
/-- Blocks that are the space's behind a call: those that were, and new ones. -/
def GrS (S : Nat → Prop) (w : World) (S' : Nat → Prop) : Prop := ∀ k, S' k → S k ∨ w.heap.size ≤ k
theorem SpY.frl {w w1 : World} {S : Nat → Prop} {sp n : Nat} {D : ByteArray → Option EnD} {l : List Nat} (q : SpY w S sp n D) (f : Fr l w w1) (hl : ∀ k ∈ l, ¬ S k) : SpY w1 S sp n D := by
  obtain ⟨H, Vb, t, T, h1, h2, h3, h4⟩ := q
  exact ⟨H, Vb, t, T, h1.frl f fun k hk => ⟨fun q => hl k hk (h3 k (.inl q)), fun q => hl k hk (h3 k (.inr (.inl q))), fun q => hl k hk (h3 k (.inr (.inr q)))⟩, h2, h3, fun k hk => by have := h4 k hk; have := f.size; omega⟩
theorem SpY.fr0 {w w1 : World} {S : Nat → Prop} {sp n : Nat} {D : ByteArray → Option EnD} (q : SpY w S sp n D) (f : Fr [] w w1) : SpY w1 S sp n D := q.frl f fun k hk => absurd hk (by simp)
theorem SpY.frP {w w1 : World} {S P : Nat → Prop} {sp n : Nat} {D : ByteArray → Option EnD} (q : SpY w S sp n D) (f : FrP P w w1) (hl : ∀ k, S k → ¬ P k) : SpY w1 S sp n D := by
  obtain ⟨H, Vb, t, T, h1, h2, h3, h4⟩ := q
  exact ⟨H, Vb, t, T, ⟨h1.hB.frP f (hl _ (h3 _ (.inr (.inr rfl)))), h1.hT.frP f fun k hp => .inr fun hk => hl _ (h3 _ (.inl hk)) hp, h1.hm, h1.hw, fun k hk => ⟨(h1.hH k hk).1, (h1.hH k hk).2.1, by have := (h1.hH k hk).2.2; have := f.size; omega⟩, fun k hk => ⟨(h1.hV k hk).1, by have := (h1.hV k hk).2; have := f.size; omega⟩, fun k => (h1.hE k).imp id fun ⟨v, x, e1, e2, e3, e4, e5⟩ => ⟨v, x, e1, e2, e3, e4, e5.frP f fun j hj => hl _ (h3 _ (.inr (.inl hj)))⟩, h1.hN, h1.hM⟩, h2, h3, fun k hk => by have := h4 k hk; have := f.size; omega⟩
/-- A space that shares no block with the worlds below base, nor with av's blocks, nor with vs' rows. -/
def inN (av : List Nat) (vs : List Value) (k : Nat) : Prop := k ∈ av ∨ ∃ v ∈ vs, v.ownBlock = some k
def outS (base : Nat) (av : List Nat) (vs : List Value) : Nat → Prop := fun k => base ≤ k ∧ ¬ inN av vs k
def SpA (w : World) (base : Nat) (av : List Nat) (vs : List Value) (sp n : Nat) (D : ByteArray → Option EnD) : Prop := ∃ S, SpY w S sp n D ∧ (∀ k, S k → outS base av vs k) ∧ ∀ k, inN av vs k → k < w.heap.size
theorem SpA.frl {w w1 : World} {base : Nat} {av : List Nat} {vs : List Value} {sp n : Nat} {D : ByteArray → Option EnD} {l : List Nat} (q : SpA w base av vs sp n D) (f : Fr l w w1) (hl : ∀ k ∈ l, inN av vs k ∨ k < base) : SpA w1 base av vs sp n D := by
  obtain ⟨S, h1, h2, h3⟩ := q
  exact ⟨S, h1.frl f fun k hk hs => by have := h2 k hs; rcases hl k hk with q | q; exact this.2 q; have := this.1; omega, h2, fun k hk => by have := h3 k hk; have := f.size; omega⟩
theorem SpA.fr0 {w w1 : World} {base : Nat} {av : List Nat} {vs : List Value} {sp n : Nat} {D : ByteArray → Option EnD} (q : SpA w base av vs sp n D) (f : Fr [] w w1) : SpA w1 base av vs sp n D := q.frl f fun k hk => absurd hk (by simp)
theorem SpY.lt {w : World} {S : Nat → Prop} {sp n : Nat} {D : ByteArray → Option EnD} (q : SpY w S sp n D) : S sp ∧ ∀ k, S k → k < w.heap.size := by
  obtain ⟨H, Vb, t, T, h1, h2, h3, h4⟩ := q
  exact ⟨h3 _ (.inr (.inr rfl)), h4⟩
theorem SpA.base {w : World} {base : Nat} {av : List Nat} {vs : List Value} {sp n : Nat} {D : ByteArray → Option EnD} (q : SpA w base av vs sp n D) : base ≤ w.heap.size := by
  obtain ⟨S, h1, h2, h3⟩ := q
  have h4 := h1.lt
  have := h4.2 _ h4.1
  have := (h2 _ h4.1).1
  omega
/-- New blocks are not the space's. -/
theorem SpA.grow {w w1 : World} {base : Nat} {av av' : List Nat} {vs vs' : List Value} {sp n : Nat} {D : ByteArray → Option EnD} (q : SpA w base av vs sp n D) (f : Fr [] w w1) (h : ∀ k, inN av' vs' k → k < w1.heap.size ∧ (inN av vs k ∨ w.heap.size ≤ k)) : SpA w1 base av' vs' sp n D := by
  obtain ⟨S, h1, h2, h3⟩ := q
  exact ⟨S, h1.fr0 f, fun k hk => ⟨(h2 k hk).1, fun hn => by
    rcases (h k hn).2 with q | q
    · exact (h2 k hk).2 q
    · have := h1.lt.2 k hk; omega⟩, fun k hk => (h k hk).1⟩
theorem SpA.alloc {w w1 : World} {base : Nat} {av : List Nat} {vs : List Value} {sp n : Nat} {D : ByteArray → Option EnD} (q : SpA w base av vs sp n D) (f : Fr [] w w1) {b : Nat} (hb : w.heap.size ≤ b ∧ b < w1.heap.size) : SpA w1 base (b :: av) vs sp n D := by
  have h3 := q.choose_spec.2.2
  have hs := f.size
  refine q.grow f fun k hk => ?_
  rcases hk with hk | hk
  · rcases List.mem_cons.1 hk with rfl | hk
    · exact ⟨hb.2, .inr hb.1⟩
    · have := h3 k (.inl hk); exact ⟨by omega, .inl (.inl hk)⟩
  · have := h3 k (.inr hk); exact ⟨by omega, .inl (.inr hk)⟩
/-- What a call made of the space, seen from outside. -/
theorem SpY.out {w w' : World} {S S' : Nat → Prop} {base : Nat} {av : List Nat} {vs : List Value} {sp' n' : Nat} {D' : ByteArray → Option EnD} (h : ∀ k, S k → outS base av vs k) (hb : base ≤ w.heap.size) (ha : ∀ k, inN av vs k → k < w.heap.size) (q : SpY w' S' sp' n' D') (hg : GrS S w S') (hf : FrP S w w') {m : Nat} (hm : ∀ k, S' k → k < m) {us : List Value} (hu : ∀ v ∈ us, ∀ b, v.ownBlock = some b → m ≤ b ∧ b < w'.heap.size) : SpA w' base av (us ++ vs) sp' n' D' ∧ FrP (outS base av vs) w w' := by
  refine ⟨⟨S', q, fun k hk => ?_, fun k hk => ?_⟩, hf.mono h⟩
  · have hx : base ≤ k ∧ ¬ inN av vs k := by
      rcases hg k hk with h1 | h1
      · exact h k h1
      · exact ⟨by omega, fun hn => by have := ha k hn; omega⟩
    refine ⟨hx.1, fun hn => ?_⟩
    rcases hn with hn | ⟨v, hv, he⟩
    · exact hx.2 (.inl hn)
    · rcases List.mem_append.1 hv with hv | hv
      · have := (hu v hv k he).1; have := hm k hk; omega
      · exact hx.2 (.inr ⟨v, hv, he⟩)
  · have hs := hf.size
    rcases hk with hk | ⟨v, hv, he⟩
    · have := ha k (.inl hk); omega
    · rcases List.mem_append.1 hv with hv | hv
      · exact (hu v hv k he).2
      · have := ha k (.inr ⟨v, hv, he⟩); omega
theorem SpY.out0 {w w' : World} {S S' : Nat → Prop} {base : Nat} {av : List Nat} {vs : List Value} {sp' n' : Nat} {D' : ByteArray → Option EnD} (h : ∀ k, S k → outS base av vs k) (hb : base ≤ w.heap.size) (ha : ∀ k, inN av vs k → k < w.heap.size) (q : SpY w' S' sp' n' D') (hg : GrS S w S') (hf : FrP S w w') : SpA w' base av vs sp' n' D' ∧ FrP (outS base av vs) w w' :=
  SpY.out (us := []) h hb ha q hg hf q.lt.2 fun v hv => by simp at hv
/-! ### Put, told by data -/
noncomputable def putE (n : Nat) (D : ByteArray → Option EnD) (x : EnD) : Int := if imgN [x] ≠ 0 then imgN [x] else if D x.key = none ∧ 65536 ≤ n then 3 else 0
noncomputable def putN (n : Nat) (D : ByteArray → Option EnD) (x : EnD) : Nat := if imgN [x] = 0 ∧ (D x.key ≠ none ∨ n < 65536) then (if D x.key = none then n + 1 else n) else n
noncomputable def putD (n : Nat) (D : ByteArray → Option EnD) (x : EnD) : ByteArray → Option EnD := if imgN [x] = 0 ∧ (D x.key ≠ none ∨ n < 65536) then updD D x.key (some x) else D
theorem put_no1 {n : Nat} {D : ByteArray → Option EnD} {x : EnD} (h : imgN [x] ≠ 0) : putE n D x = imgN [x] ∧ putN n D x = n ∧ putD n D x = D :=
  ⟨if_pos h, if_neg fun q => h q.1, if_neg fun q => h q.1⟩
theorem put_no2 {n : Nat} {D : ByteArray → Option EnD} {x : EnD} (h : imgN [x] = 0) (h1 : D x.key = none) (h2 : 65536 ≤ n) : putE n D x = 3 ∧ putN n D x = n ∧ putD n D x = D :=
  ⟨(if_neg fun q => q h).trans (if_pos ⟨h1, h2⟩), if_neg fun q => by rcases q.2 with q | q; exact q h1; omega, if_neg fun q => by rcases q.2 with q | q; exact q h1; omega⟩
theorem put_yes {n : Nat} {D : ByteArray → Option EnD} {x : EnD} (h : imgN [x] = 0) (h1 : D x.key ≠ none ∨ n < 65536) : putE n D x = 0 ∧ putN n D x = (if D x.key = none then n + 1 else n) ∧ putD n D x = updD D x.key (some x) :=
  ⟨(if_neg fun q => q h).trans (if_neg fun q => by rcases h1 with h1 | h1; exact h1 q.1; omega), if_pos ⟨h, h1⟩, if_pos ⟨h, h1⟩⟩
def grS (S : Nat → Prop) (w w' : World) : Nat → Prop := fun k => S k ∨ (w.heap.size ≤ k ∧ k < w'.heap.size)
theorem grS_gr (S : Nat → Prop) (w w' : World) : GrS S w (grS S w w') := fun k hk => hk.imp id And.left
theorem SpX.toY {w w' : World} {S H Vb : Nat → Prop} {sp t : Nat} {T : Tb EntV} {D : ByteArray → Option EnD} (q : SpX w' H Vb sp t T D) (hs : w.heap.size ≤ w'.heap.size) (hS : ∀ k, S k → k < w.heap.size) (h : ∀ k, H k ∨ Vb k ∨ k = sp → S k ∨ w.heap.size ≤ k) {n : Nat} (hn : T.n = n) : SpY w' (grS S w w') sp n D :=
  ⟨H, Vb, t, T, q, hn, fun k hk => (h k hk).imp id fun h1 => ⟨h1, by
    rcases hk with hk | hk | hk
    · exact (q.hH k hk).2.2
    · exact (q.hV k hk).2
    · rw [hk]; exact q.hB.lt⟩, fun k hk => by
    rcases hk with hk | hk
    · have := hS k hk; omega
    · exact hk.2⟩
end Go.Proofs.YtjkegckfncfoaaaGreat
end
section
namespace Go.Proofs.YtjkegckfncfoaaaGreat
open Go.V Go.Base
open Go.RowKit (Below)
attribute [local irreducible] Act.put Act.eval
set_option linter.unusedVariables false
set_option linter.unusedSimpArgs false
set_option maxHeartbeats 4000000 in
set_option maxRecDepth 20000 in
theorem spput_any (w : World) (S : Nat → Prop) (sp n : Nat) (D : ByteArray → Option EnD) (hY : SpY w S sp n D) (key : ByteArray) (hkz : key.size ≤ 9223372036854775807) (k : Int) (s : ByteArray) (Al : Option Addr) (cl : Nat) (l : List ByteArray) (hSl : SlR Rp.str (fun k => k < w.heap.size) w (.slice Al l.length cl) l) (Az : Option Addr) (cz : Nat) (z : List (ByteArray × Int)) (hSz : SlR scR (fun k => k < w.heap.size) w (.slice Az z.length cz) z) (Ah : Option Addr) (ch : Nat) (h : List (ByteArray × ByteArray)) (hSh : SlR fdR (fun k => k < w.heap.size) w (.slice Ah h.length ch) h) (hll : l.length ≤ 1099511627776) (hlz : z.length ≤ 1099511627776) (hlh : h.length ≤ 1099511627776) (hz : ∀ x ∈ z, x.1.size ≤ maxLen) (at' : Int) : Calls Tryz.prog 20 #[.pointer (some ⟨sp, 0, none⟩), .string key, .agg #[.int .i64 k, .string s, .slice Al l.length cl, .slice Az z.length cz, .slice Ah h.length ch], .int .i64 at'] w (fun e w' => e = .returned (.int .i64 (putE n D ⟨key, k, s, l, z, h, at'⟩)) ∧ ∃ S', SpY w' S' sp (putN n D ⟨key, k, s, l, z, h, at'⟩) (putD n D ⟨key, k, s, l, z, h, at'⟩) ∧ GrS S w S' ∧ FrP S w w') := by
 have hF := Fr.refl [] w
 obtain ⟨H, Vb, t, T, hq, rfl, hS1, hS2⟩ := id hY
 have hB := hq.hB
 have hT := hq.hT
 have hspl := hB.lt
 have hM := hq.hM
 refine V.en 53 Tryz.func20 fun a h1 => ?_
 refine V.sg fun K2 k3 => ?_
 refine V.go (V.mk [(2, .agg #[.int .i64 k, .string s, .slice Al l.length cl, .slice Az z.length cz, .slice Ah h.length ch])] ⟨h1.e, trivial⟩ (by kernel_rfl) [.int .i64 k, .string s, .slice Al l.length cl, .slice Az z.length cz, .slice Ah h.length ch] 37 (fun b => .pointer (some ⟨b, 0, none⟩)) (by kernel_rfl) ?_)
 intro w5 b4 heb4 hB6 hF7 hsb4
 have hF_8 := hF.new hF7
 have hSl_9 := hSl.fr0 hF7
 have hSz_10 := hSz.fr0 hF7
 have hSh_11 := hSh.fr0 hF7
 have hB_12 := hB.fr0 hF7
 have hT_13 := hT.alloc hF7 heb4 (by omega)
 refine V.pt h1 fun a h14 => ?_
 refine V.re h14 [] 8 8 [] fun a h15 => k3 _ _ ?_
 refine V.seq fun K16 k17 => ?_
 refine V.sg fun K18 k19 => ?_
 refine V.run h15 [] 1 1 0 [(12, .pointer (some ⟨sp, 0, none⟩))] fun a h20 => ?_
 refine V.cl h20 (Go.Proofs.enters_of Tryz.func29 (by kernel_rfl) rfl) (isp_any w5 sp t hB_12) ?_
 rintro _ w22 ⟨rfl, hF21⟩
 refine ⟨_, rfl, fun a h23 => ?_⟩
 have hsw22 := hF21.size
 have hF_24 := hF_8.new hF21
 have hSl_25 := hSl_9.fr0 hF21
 have hSz_26 := hSz_10.fr0 hF21
 have hSh_27 := hSh_11.fr0 hF21
 have hB_28 := hB_12.fr0 hF21
 have hT_29 := hT_13.fr0 hF21
 have hB6_30 := hB6.fr0 hF21
 refine V.re h23 [] 1 0 [(14, .bool false)] fun a h31 => k19 _ _ ?_
 refine V.cf h31 ?_
 refine V.skip ?_
 refine V.then_n (k17 _ _ ?_)
 refine V.seq fun K32 k33 => ?_
 refine V.sg fun K34 k35 => ?_
 refine V.run h31 [(1, .bs hB6_30 0 [.int .i64 k, .string s, .slice Al l.length cl, .slice Az z.length cz, .slice Ah h.length ch])] 4 15 17 [(18, .agg #[.string key, .int .i64 k, .string s, .slice Al l.length cl, .slice Az z.length cz, .slice Ah h.length ch, .int .i64 at'])] fun a h36 => ?_
 refine V.go (V.mk [(18, .agg #[.string key, .int .i64 k, .string s, .slice Al l.length cl, .slice Az z.length cz, .slice Ah h.length ch, .int .i64 at'])] ⟨h36.e, trivial⟩ (by kernel_rfl) [.string key, .int .i64 k, .string s, .slice Al l.length cl, .slice Az z.length cz, .slice Ah h.length ch, .int .i64 at'] 39 (fun b => .slice (some ⟨b, 0, none⟩) 1 1) (by kernel_rfl) ?_)
 intro w38 b37 heb37 hB39 hF40 hsb37
 have hF_41 := hF_24.new hF40
 have hSl_42 := hSl_25.fr0 hF40
 have hSz_43 := hSz_26.fr0 hF40
 have hSh_44 := hSh_27.fr0 hF40
 have hB_45 := hB_28.fr0 hF40
 have hT_46 := hT_29.alloc hF40 heb37 (by omega)
 have hB6_47 := hB6_30.fr0 hF40
 refine V.pt h36 fun a h48 => ?_
 refine V.cl h48 (Go.Proofs.enters_of Tryz.func45 (by kernel_rfl) rfl) (check_any w38 _ _ [⟨key, k, s, l, z, h, at'⟩] (en_one (x := ⟨key, k, s, l, z, h, at'⟩) hB39 hSl_42 hSz_43 hSh_44).old (by intro x hx; simp only [List.mem_singleton] at hx; subst hx; exact ⟨Nat.le_trans hll (by decide), Nat.le_trans hlz (by decide), Nat.le_trans hlh (by decide), hz⟩)) ?_
 rintro _ w50 ⟨rfl, hF49⟩
 refine ⟨_, rfl, fun a h51 => ?_⟩
 have hsw50 := hF49.size
 have hF_52 := hF_41.new hF49
 have hSl_53 := hSl_42.fr0 hF49
 have hSz_54 := hSz_43.fr0 hF49
 have hSh_55 := hSh_44.fr0 hF49
 have hB_56 := hB_45.fr0 hF49
 have hT_57 := hT_46.fr0 hF49
 have hB6_58 := hB6_47.fr0 hF49
 have hB39_59 := hB39.fr0 hF49
 refine V.re h51 [] 1 0 [(9, .int .i64 (imgN [⟨key, k, s, l, z, h, at'⟩]))] fun a h60 => k35 _ _ ?_
 refine V.sr h60 [(1, .ne (imgN [⟨key, k, s, l, z, h, at'⟩]) 0)] 21 21 [(22, .bool (decide (¬ (imgN [⟨key, k, s, l, z, h, at'⟩]) = 0)))] fun a h63 => ?_
 refine V.cp h63 (¬ (imgN [⟨key, k, s, l, z, h, at'⟩]) = 0) (fun ht64 => ?_) (fun ht64 => ?_)
 ·
  refine V.sr h63 [] 23 23 [(8, .int .i64 (imgN [⟨key, k, s, l, z, h, at'⟩]))] fun a h67 => ?_
  refine V.ret ?_
  refine V.then_r ?_
  refine V.r1 h67 (.int .i64 (imgN [⟨key, k, s, l, z, h, at'⟩])) ?_
  obtain ⟨e1, e2, e3⟩ := put_no1 (n := T.n) (D := D) (x := ⟨key, k, s, l, z, h, at'⟩) (by omega)
  rw [e1, e2, e3]
  exact ⟨rfl, S, hY.fr0 hF_52, fun k hk => .inl hk, (FrP.refl _ _).tr0 hF_52⟩
 ·
  refine V.skip ?_
  refine V.then_n (k33 _ _ ?_)
  refine V.seq fun K68 k69 => ?_
  refine V.sg fun K70 k71 => ?_
  refine V.run h63 [(3, .b hB_56 0)] 5 25 27 [(28, .pointer (some ⟨t, 0, none⟩)), (29, .string key)] fun a h72 => ?_
  refine V.cl h72 (Go.Proofs.enters_of Tryz.func37 (by kernel_rfl) rfl) (look_any w50 (H) (b37 :: b4 :: []) t (T) hT_57 key (by omega)) ?_
  rintro _ w74 ⟨rfl, hF73⟩
  refine ⟨_, rfl, fun a h75 => ?_⟩
  have hsw74 := hF73.size
  have hF_76 := hF_52.new hF73
  have hSl_77 := hSl_53.fr0 hF73
  have hSz_78 := hSz_54.fr0 hF73
  have hSh_79 := hSh_55.fr0 hF73
  have hB_80 := hB_56.fr0 hF73
  have hT_81 := hT_57.fr0 hF73
  have hB6_82 := hB6_58.fr0 hF73
  have hB39_83 := hB39_59.fr0 hF73
  refine V.run h75 [] 3 24 24 [(31, .agg #[.int .i64 (((lookT EntV.nil T key).1).kind), .string (((lookT EntV.nil T key).1).s), .slice (((lookT EntV.nil T key).1).l.a) (((lookT EntV.nil T key).1).l.n) (((lookT EntV.nil T key).1).l.c), .slice (((lookT EntV.nil T key).1).z.a) (((lookT EntV.nil T key).1).z.n) (((lookT EntV.nil T key).1).z.c), .slice (((lookT EntV.nil T key).1).h.a) (((lookT EntV.nil T key).1).h.n) (((lookT EntV.nil T key).1).h.c), .int .i64 (((lookT EntV.nil T key).1).till)]), (32, .bool ((lookT EntV.nil T key).2))] fun a h88 => ?_
  refine V.go (V.mk [] trivial (by kernel_rfl) [.int .i64 0, .string ⟨#[]⟩, .slice none 0 0, .slice none 0 0, .slice none 0 0, .int .i64 0] 79 (fun b => .pointer (some ⟨b, 0, none⟩)) (by kernel_rfl) ?_)
  intro w85 b84 heb84 hB86 hF87 hsb84
  have hF_89 := hF_76.new hF87
  have hSl_90 := hSl_77.fr0 hF87
  have hSz_91 := hSz_78.fr0 hF87
  have hSh_92 := hSh_79.fr0 hF87
  have hB_93 := hB_80.fr0 hF87
  have hT_94 := hT_81.alloc hF87 heb84 (by omega)
  have hB6_95 := hB6_82.fr0 hF87
  have hB39_96 := hB39_83.fr0 hF87
  refine V.pt h88 fun a h97 => ?_
  refine V.go (V.stn b84 0 (.agg #[.int .i64 (((lookT EntV.nil T key).1).kind), .string (((lookT EntV.nil T key).1).s), .slice (((lookT EntV.nil T key).1).l.a) (((lookT EntV.nil T key).1).l.n) (((lookT EntV.nil T key).1).l.c), .slice (((lookT EntV.nil T key).1).z.a) (((lookT EntV.nil T key).1).z.n) (((lookT EntV.nil T key).1).z.c), .slice (((lookT EntV.nil T key).1).h.a) (((lookT EntV.nil T key).1).h.n) (((lookT EntV.nil T key).1).h.c), .int .i64 (((lookT EntV.nil T key).1).till)]) [.int .i64 (((lookT EntV.nil T key).1).kind), .string (((lookT EntV.nil T key).1).s), .slice (((lookT EntV.nil T key).1).l.a) (((lookT EntV.nil T key).1).l.n) (((lookT EntV.nil T key).1).l.c), .slice (((lookT EntV.nil T key).1).z.a) (((lookT EntV.nil T key).1).z.n) (((lookT EntV.nil T key).1).z.c), .slice (((lookT EntV.nil T key).1).h.a) (((lookT EntV.nil T key).1).h.n) (((lookT EntV.nil T key).1).h.c), .int .i64 (((lookT EntV.nil T key).1).till)] h97.e h97.e rfl rfl (by kernel_rfl) hB86 (by simp) [.int .i64 (((lookT EntV.nil T key).1).kind), .string (((lookT EntV.nil T key).1).s), .slice (((lookT EntV.nil T key).1).l.a) (((lookT EntV.nil T key).1).l.n) (((lookT EntV.nil T key).1).l.c), .slice (((lookT EntV.nil T key).1).z.a) (((lookT EntV.nil T key).1).z.n) (((lookT EntV.nil T key).1).z.c), .slice (((lookT EntV.nil T key).1).h.a) (((lookT EntV.nil T key).1).h.n) (((lookT EntV.nil T key).1).h.c), .int .i64 (((lookT EntV.nil T key).1).till)] rfl ?_)
  intro w98 hB99 hF100 hsw98
  have hF_101 := hF_89.own hF100 (by simp <;> omega)
  have hSl_102 := hSl_90.fr hF100 (by simp <;> omega)
  have hSz_103 := hSz_91.fr hF100 (by simp <;> omega)
  have hSh_104 := hSh_92.fr hF100 (by simp <;> omega)
  have hB_105 := hB_93.fr1 hF100 (by omega)
  have hT_106 := hT_94.fr hF100 (by intro k hk; simp only [List.mem_singleton] at hk; subst hk; exact .inl (by first | simp | (rw [hav]; simp)))
  have hB6_107 := hB6_95.fr1 hF100 (by omega)
  have hB39_108 := hB39_96.fr1 hF100 (by omega)
  refine V.re h97 [] 1 0 [(11, .bool ((lookT EntV.nil T key).2))] fun a h109 => k71 _ _ ?_
  refine V.sg fun K110 k111 => ?_
  refine V.run h109 [] 3 33 34 [(35, .bool (!((lookT EntV.nil T key).2)))] fun a h112 => ?_
  by_cases hg113 : (!((lookT EntV.nil T key).2)) = true
  ·
   have h114 := h112.kbt 35 hg113
   refine V.run h114 [(3, .b hB_105 0)] 4 36 38 [(39, .pointer (some ⟨t, 0, none⟩))] fun a h115 => ?_
   refine V.clg h115 (Go.Proofs.enters_of Tryz.func53 (by kernel_rfl) rfl) (len_any w98 (H) (b84 :: b37 :: b4 :: []) t (T) hT_106) ?_
   rintro _ w117 ⟨rfl, hF116⟩
   refine ⟨_, rfl, fun a h118 => ?_⟩
   have hsw117 := hF116.size
   have hF_119 := hF_101.new hF116
   have hSl_120 := hSl_102.fr0 hF116
   have hSz_121 := hSz_103.fr0 hF116
   have hSh_122 := hSh_104.fr0 hF116
   have hB_123 := hB_105.fr0 hF116
   have hT_124 := hT_106.fr0 hF116
   have hB6_125 := hB6_107.fr0 hF116
   have hB39_126 := hB39_108.fr0 hF116
   have hB99_127 := hB99.fr0 hF116
   refine V.re h118 [] 41 41 [(42, .bool (decide (((T).n : Int) ≥ 65536)))] fun a h128 => k111 _ _ ?_
   refine V.cp h128 (((T).n : Int) ≥ 65536) (fun ht129 => ?_) (fun ht129 => ?_)
   ·
    refine V.sr h128 [] 1 0 [(8, .int .i64 3)] fun a h132 => ?_
    refine V.ret ?_
    refine V.then_r ?_
    refine V.r1 h132 (.int .i64 3) ?_
    rcases hq.look key with ⟨hl1, hl2⟩ | ⟨x0, hl1, hl2, hl3, hl4, hl5⟩
    · obtain ⟨e1, e2, e3⟩ := put_no2 (n := T.n) (D := D) (x := ⟨key, k, s, l, z, h, at'⟩) (by omega) hl2 (by omega)
      rw [e1, e2, e3]
      exact ⟨rfl, S, hY.fr0 hF_119, fun k hk => .inl hk, (FrP.refl _ _).tr0 hF_119⟩
    · exact absurd hl1 (by simpa using hg113)
   ·
    refine V.skip ?_
    refine V.then_n (k69 _ _ ?_)
    refine V.seq fun K133 k134 => ?_
    refine V.pl [([0,1,2,3,4,5,7],some (6,[3])),([8],some (9,[])),([],none)] fun w135 hF136 hsw135 => ?_
    have hF_137 := hF_119.new hF136
    have hSl_138 := hSl_120.fr0 hF136
    have hSz_139 := hSz_121.fr0 hF136
    have hSh_140 := hSh_122.fr0 hF136
    have hB_141 := hB_123.fr0 hF136
    have hT_142 := hT_124.fr0 hF136
    have hB6_143 := hB6_125.fr0 hF136
    have hB39_144 := hB39_126.fr0 hF136
    have hB99_145 := hB99_127.fr0 hF136
    refine V.pe h128 [(3, .b hB_141 0), (1, .bs hB6_143 0 [.int .i64 k, .string s, .slice Al l.length cl, .slice Az z.length cz, .slice Ah h.length ch])] 43 44 [(45, .pointer (some ⟨sp, 0, none⟩)), (46, .pointer (some ⟨t, 0, none⟩)), (47, .string key), (48, .agg #[.int .i64 k, .string s, .slice Al l.length cl, .slice Az z.length cz, .slice Ah h.length ch]), (50, .int .i64 at')] fun a h146 => ?_
    refine V.cl h146 (Go.Proofs.enters_of Tryz.func33 (by kernel_rfl) rfl) (copied_any w135 k s Al cl l hSl_138.old Az cz z hSz_139.old Ah ch h hSh_140.old (by omega) (by omega) (by omega)) ?_
    rintro _ w158 ⟨A147, c148, A149, c150, A151, c152, rfl, hO153, hO154, hO155, hd157, hF156⟩
    refine ⟨_, rfl, fun a h159 => ?_⟩
    have hsw158 := hF156.size
    have hF_160 := hF_137.new hF156
    have hSl_161 := hSl_138.fr0 hF156
    have hSz_162 := hSz_139.fr0 hF156
    have hSh_163 := hSh_140.fr0 hF156
    have hB_164 := hB_141.fr0 hF156
    have hT_165 := hT_142.fr0 hF156
    have hB6_166 := hB6_143.fr0 hF156
    have hB39_167 := hB39_144.fr0 hF156
    have hB99_168 := hB99_145.fr0 hF156
    refine V.eh (fun _ => held_blk (n := 1) (hx := (h146.e (v := (.pointer (some ⟨sp, 0, none⟩))))) hB_141 hB_164 (by kernel_rfl) rfl (by simp only [List.length]; omega)) ?_
    refine V.pe h159 [] 1 0 [(51, .agg #[.int .i64 k, .string s, .slice A147 l.length c148, .slice A149 z.length c150, .slice A151 h.length c152, .int .i64 at'])] fun a h169 => ?_
    refine V.cl h169 (Go.Proofs.enters_of Tryz.func46 (by kernel_rfl) rfl) (put_any w158 (H) (b84 :: b37 :: b4 :: []) t (T) hT_165 hq.hm key (by omega) ⟨k, s, ⟨A147, l.length, c148⟩, ⟨A149, z.length, c150⟩, ⟨A151, h.length, c152⟩, at'⟩ (by omega)) ?_
    rintro _ w172 ⟨rfl, hT170, hF171⟩
    refine ⟨_, rfl, fun a h173 => ?_⟩
    have hsw172 := hF171.size
    have hB_174 := hB_164.frP hF171 (by exact fun hp => by have h1 := hq.hH _ hp.1; first | exact h1.2.1 rfl | omega)
    have hB6_175 := hB6_166.frP hF171 (by exact fun hp => by have h1 := hq.hH _ hp.1; first | exact h1.2.1 rfl | omega)
    have hB39_176 := hB39_167.frP hF171 (by exact fun hp => by have h1 := hq.hH _ hp.1; first | exact h1.2.1 rfl | omega)
    have hB99_177 := hB99_168.frP hF171 (by exact fun hp => by have h1 := hq.hH _ hp.1; first | exact h1.2.1 rfl | omega)
    have hO153_178 := hO153.frP hF171 (fun b hb hp => by have h1 := (hO153.lt b hb).1; have h2 := (hq.hH _ hp.1).2.2; omega)
    have hO154_179 := hO154.frP hF171 (fun b hb hp => by have h1 := (hO154.lt b hb).1; have h2 := (hq.hH _ hp.1).2.2; omega)
    have hO155_180 := hO155.frP hF171 (fun b hb hp => by have h1 := (hO155.lt b hb).1; have h2 := (hq.hH _ hp.1).2.2; omega)
    refine V.eh trivial ?_
    refine V.pz h173 [] 1 0 [] fun a h181 => k134 _ _ ?_
    have h182 := h181.only []
    refine V.sr h182 [] 1 0 [(8, .int .i64 0)] fun a h185 => ?_
    refine V.ret ?_
    refine V.r1 h185 (.int .i64 0) ?_
    rcases hq.look key with ⟨hl1, hl2⟩ | ⟨x0, hl1, hl2, hl3, hl4, hl5⟩
    · obtain ⟨e1, e2, e3⟩ := put_yes (n := T.n) (D := D) (x := ⟨key, k, s, l, z, h, at'⟩) (by omega) (.inr (by first | omega | exact absurd hg113 (by rw [hl1]; simp)))
      rw [e1, e2, e3]
      have hfs9 := hF_160.size
      have hfs8 := hF171.size
      have hsp := sp_put (x := ⟨key, k, s, l, z, h, at'⟩) hq (img_iff.1 (by omega)) (.inr (by first | omega | exact absurd hg113 (by rw [hl1]; simp))) hF_160 hF171 hB_174 hT170 hO153 hO154 hO155 (by omega) (by omega) (by omega) hO153_178 hO154_179 hO155_180
      refine ⟨rfl, _, hsp.toY (w := w) (S := S) (by omega) hS2 (fun k hk => ?_) (putT_n' hq key _), grS_gr _ _ _, ((FrP.refl S w).tr0 hF_160).trP hF171 fun k hk => .inl (hS1 k (.inl hk.1))⟩
      rcases hk with hk | hk | hk
      · exact hk.imp (fun q => hS1 k (.inl q)) fun q => by have := q.1; omega
      · rcases hk with q | q | q | q
        · exact .inl (hS1 k (.inr (.inl q)))
        · have := (hO153.lt k q).1; exact .inr (by omega)
        · have := (hO154.lt k q).1; exact .inr (by omega)
        · have := (hO155.lt k q).1; exact .inr (by omega)
      · exact .inl (hS1 k (.inr (.inr hk)))
    · obtain ⟨e1, e2, e3⟩ := put_yes (n := T.n) (D := D) (x := ⟨key, k, s, l, z, h, at'⟩) (by omega) (.inl (by show D key ≠ none; rw [hl2]; simp))
      rw [e1, e2, e3]
      have hfs9 := hF_160.size
      have hfs8 := hF171.size
      have hsp := sp_put (x := ⟨key, k, s, l, z, h, at'⟩) hq (img_iff.1 (by omega)) (.inl (by show D key ≠ none; rw [hl2]; simp)) hF_160 hF171 hB_174 hT170 hO153 hO154 hO155 (by omega) (by omega) (by omega) hO153_178 hO154_179 hO155_180
      refine ⟨rfl, _, hsp.toY (w := w) (S := S) (by omega) hS2 (fun k hk => ?_) (putT_n' hq key _), grS_gr _ _ _, ((FrP.refl S w).tr0 hF_160).trP hF171 fun k hk => .inl (hS1 k (.inl hk.1))⟩
      rcases hk with hk | hk | hk
      · exact hk.imp (fun q => hS1 k (.inl q)) fun q => by have := q.1; omega
      · rcases hk with q | q | q | q
        · exact .inl (hS1 k (.inr (.inl q)))
        · have := (hO153.lt k q).1; exact .inr (by omega)
        · have := (hO154.lt k q).1; exact .inr (by omega)
        · have := (hO155.lt k q).1; exact .inr (by omega)
      · exact .inl (hS1 k (.inr (.inr hk)))
  ·
   have h186 := h112.kbf 35 hg113
   refine V.re h186 [] 36 41 [(42, .bool false)] fun a h187 => k111 _ _ ?_
   refine V.cf h187 ?_
   refine V.skip ?_
   refine V.then_n (k69 _ _ ?_)
   refine V.seq fun K188 k189 => ?_
   refine V.pl [([0,1,2,3,4,5,7],some (6,[3])),([8],some (9,[])),([],none)] fun w190 hF191 hsw190 => ?_
   have hF_192 := hF_101.new hF191
   have hSl_193 := hSl_102.fr0 hF191
   have hSz_194 := hSz_103.fr0 hF191
   have hSh_195 := hSh_104.fr0 hF191
   have hB_196 := hB_105.fr0 hF191
   have hT_197 := hT_106.fr0 hF191
   have hB6_198 := hB6_107.fr0 hF191
   have hB39_199 := hB39_108.fr0 hF191
   have hB99_200 := hB99.fr0 hF191
   refine V.pe h187 [(3, .b hB_196 0), (1, .bs hB6_198 0 [.int .i64 k, .string s, .slice Al l.length cl, .slice Az z.length cz, .slice Ah h.length ch])] 43 44 [(45, .pointer (some ⟨sp, 0, none⟩)), (46, .pointer (some ⟨t, 0, none⟩)), (47, .string key), (48, .agg #[.int .i64 k, .string s, .slice Al l.length cl, .slice Az z.length cz, .slice Ah h.length ch]), (50, .int .i64 at')] fun a h201 => ?_
   refine V.cl h201 (Go.Proofs.enters_of Tryz.func33 (by kernel_rfl) rfl) (copied_any w190 k s Al cl l hSl_193.old Az cz z hSz_194.old Ah ch h hSh_195.old (by omega) (by omega) (by omega)) ?_
   rintro _ w213 ⟨A202, c203, A204, c205, A206, c207, rfl, hO208, hO209, hO210, hd212, hF211⟩
   refine ⟨_, rfl, fun a h214 => ?_⟩
   have hsw213 := hF211.size
   have hF_215 := hF_192.new hF211
   have hSl_216 := hSl_193.fr0 hF211
   have hSz_217 := hSz_194.fr0 hF211
   have hSh_218 := hSh_195.fr0 hF211
   have hB_219 := hB_196.fr0 hF211
   have hT_220 := hT_197.fr0 hF211
   have hB6_221 := hB6_198.fr0 hF211
   have hB39_222 := hB39_199.fr0 hF211
   have hB99_223 := hB99_200.fr0 hF211
   refine V.eh (fun _ => held_blk (n := 1) (hx := (h201.e (v := (.pointer (some ⟨sp, 0, none⟩))))) hB_196 hB_219 (by kernel_rfl) rfl (by simp only [List.length]; omega)) ?_
   refine V.pe h214 [] 1 0 [(51, .agg #[.int .i64 k, .string s, .slice A202 l.length c203, .slice A204 z.length c205, .slice A206 h.length c207, .int .i64 at'])] fun a h224 => ?_
   refine V.cl h224 (Go.Proofs.enters_of Tryz.func46 (by kernel_rfl) rfl) (put_any w213 (H) (b84 :: b37 :: b4 :: []) t (T) hT_220 hq.hm key (by omega) ⟨k, s, ⟨A202, l.length, c203⟩, ⟨A204, z.length, c205⟩, ⟨A206, h.length, c207⟩, at'⟩ (by omega)) ?_
   rintro _ w227 ⟨rfl, hT225, hF226⟩
   refine ⟨_, rfl, fun a h228 => ?_⟩
   have hsw227 := hF226.size
   have hB_229 := hB_219.frP hF226 (by exact fun hp => by have h1 := hq.hH _ hp.1; first | exact h1.2.1 rfl | omega)
   have hB6_230 := hB6_221.frP hF226 (by exact fun hp => by have h1 := hq.hH _ hp.1; first | exact h1.2.1 rfl | omega)
   have hB39_231 := hB39_222.frP hF226 (by exact fun hp => by have h1 := hq.hH _ hp.1; first | exact h1.2.1 rfl | omega)
   have hB99_232 := hB99_223.frP hF226 (by exact fun hp => by have h1 := hq.hH _ hp.1; first | exact h1.2.1 rfl | omega)
   have hO208_233 := hO208.frP hF226 (fun b hb hp => by have h1 := (hO208.lt b hb).1; have h2 := (hq.hH _ hp.1).2.2; omega)
   have hO209_234 := hO209.frP hF226 (fun b hb hp => by have h1 := (hO209.lt b hb).1; have h2 := (hq.hH _ hp.1).2.2; omega)
   have hO210_235 := hO210.frP hF226 (fun b hb hp => by have h1 := (hO210.lt b hb).1; have h2 := (hq.hH _ hp.1).2.2; omega)
   refine V.eh trivial ?_
   refine V.pz h228 [] 1 0 [] fun a h236 => k189 _ _ ?_
   have h237 := h236.only []
   refine V.sr h237 [] 1 0 [(8, .int .i64 0)] fun a h240 => ?_
   refine V.ret ?_
   refine V.r1 h240 (.int .i64 0) ?_
   rcases hq.look key with ⟨hl1, hl2⟩ | ⟨x0, hl1, hl2, hl3, hl4, hl5⟩
   · obtain ⟨e1, e2, e3⟩ := put_yes (n := T.n) (D := D) (x := ⟨key, k, s, l, z, h, at'⟩) (by omega) (.inr (by first | omega | exact absurd hg113 (by rw [hl1]; simp)))
     rw [e1, e2, e3]
     have hfs9 := hF_215.size
     have hfs8 := hF226.size
     have hsp := sp_put (x := ⟨key, k, s, l, z, h, at'⟩) hq (img_iff.1 (by omega)) (.inr (by first | omega | exact absurd hg113 (by rw [hl1]; simp))) hF_215 hF226 hB_229 hT225 hO208 hO209 hO210 (by omega) (by omega) (by omega) hO208_233 hO209_234 hO210_235
     refine ⟨rfl, _, hsp.toY (w := w) (S := S) (by omega) hS2 (fun k hk => ?_) (putT_n' hq key _), grS_gr _ _ _, ((FrP.refl S w).tr0 hF_215).trP hF226 fun k hk => .inl (hS1 k (.inl hk.1))⟩
     rcases hk with hk | hk | hk
     · exact hk.imp (fun q => hS1 k (.inl q)) fun q => by have := q.1; omega
     · rcases hk with q | q | q | q
       · exact .inl (hS1 k (.inr (.inl q)))
       · have := (hO208.lt k q).1; exact .inr (by omega)
       · have := (hO209.lt k q).1; exact .inr (by omega)
       · have := (hO210.lt k q).1; exact .inr (by omega)
     · exact .inl (hS1 k (.inr (.inr hk)))
   · obtain ⟨e1, e2, e3⟩ := put_yes (n := T.n) (D := D) (x := ⟨key, k, s, l, z, h, at'⟩) (by omega) (.inl (by show D key ≠ none; rw [hl2]; simp))
     rw [e1, e2, e3]
     have hfs9 := hF_215.size
     have hfs8 := hF226.size
     have hsp := sp_put (x := ⟨key, k, s, l, z, h, at'⟩) hq (img_iff.1 (by omega)) (.inl (by show D key ≠ none; rw [hl2]; simp)) hF_215 hF226 hB_229 hT225 hO208 hO209 hO210 (by omega) (by omega) (by omega) hO208_233 hO209_234 hO210_235
     refine ⟨rfl, _, hsp.toY (w := w) (S := S) (by omega) hS2 (fun k hk => ?_) (putT_n' hq key _), grS_gr _ _ _, ((FrP.refl S w).tr0 hF_215).trP hF226 fun k hk => .inl (hS1 k (.inl hk.1))⟩
     rcases hk with hk | hk | hk
     · exact hk.imp (fun q => hS1 k (.inl q)) fun q => by have := q.1; omega
     · rcases hk with q | q | q | q
       · exact .inl (hS1 k (.inr (.inl q)))
       · have := (hO208.lt k q).1; exact .inr (by omega)
       · have := (hO209.lt k q).1; exact .inr (by omega)
       · have := (hO210.lt k q).1; exact .inr (by omega)
     · exact .inl (hS1 k (.inr (.inr hk)))
end Go.Proofs.YtjkegckfncfoaaaGreat
end
section
namespace Go.Proofs.YtjkegckfncfoaaaGreat
open Go.V Go.Base
open Go.RowKit (Below)
attribute [local irreducible] Act.put Act.eval
set_option linter.unusedVariables false
set_option linter.unusedSimpArgs false
/-! ### What is told -/
def EnD.nil : EnD := ⟨⟨#[]⟩, 0, ⟨#[]⟩, [], [], [], 0⟩
def FndD (D : ByteArray → Option EnD) (key : ByteArray) (f : Bool) (x : EnD) : Prop := (f = true ∧ D key = some x ∧ okD x ∧ x.key = key) ∨ (f = false ∧ D key = none ∧ x = EnD.nil)
def delN (n : Nat) (D : ByteArray → Option EnD) (key : ByteArray) : Nat := if D key = none then n else n - 1
def delB : ByteArray := ⟨#[68, 69, 76]⟩
def goneT (role : Int) (key : ByteArray) : List (List ByteArray) := if role = 1 then [[delB, key]] else []
def goneD (role : Int) (D : ByteArray → Option EnD) (key : ByteArray) : ByteArray → Option EnD := if role = 1 then updD D key none else D
def goneN (role : Int) (n : Nat) (D : ByteArray → Option EnD) (key : ByteArray) : Nat := if role = 1 then delN n D key else n
def getF (role now : Int) : Option EnD → Bool
  | some x => decide (seenD role now x.till)
  | none => false
def getX (role now : Int) : Option EnD → EnD
  | some x => if seenD role now x.till then x else EnD.nil
  | none => EnD.nil
def getT (role now : Int) (key : ByteArray) : Option EnD → List (List ByteArray)
  | some x => if seenD role now x.till then [] else goneT role key
  | none => []
def getD (role now : Int) (D : ByteArray → Option EnD) (key : ByteArray) : ByteArray → Option EnD := match D key with
  | some x => if seenD role now x.till then D else goneD role D key
  | none => D
def getN (role now : Int) (n : Nat) (D : ByteArray → Option EnD) (key : ByteArray) : Nat := match D key with
  | some x => if seenD role now x.till then n else goneN role n D key
  | none => n
theorem get_none {role now : Int} {n : Nat} {D : ByteArray → Option EnD} {key : ByteArray} (h : D key = none) : getF role now (D key) = false ∧ getX role now (D key) = EnD.nil ∧ getT role now key (D key) = [] ∧ getD role now D key = D ∧ getN role now n D key = n := by
  unfold getD getN; rw [h]; exact ⟨rfl, rfl, rfl, rfl, rfl⟩
theorem get_seen {role now : Int} {n : Nat} {D : ByteArray → Option EnD} {key : ByteArray} {x : EnD} (h : D key = some x) (hs : seenD role now x.till) : getF role now (D key) = true ∧ getX role now (D key) = x ∧ getT role now key (D key) = [] ∧ getD role now D key = D ∧ getN role now n D key = n := by
  unfold getD getN; rw [h]; exact ⟨decide_eq_true hs, if_pos hs, if_pos hs, if_pos hs, if_pos hs⟩
theorem get_over {role now : Int} {n : Nat} {D : ByteArray → Option EnD} {key : ByteArray} {x : EnD} (h : D key = some x) (hs : ¬ seenD role now x.till) : getF role now (D key) = false ∧ getX role now (D key) = EnD.nil ∧ getT role now key (D key) = goneT role key ∧ getD role now D key = goneD role D key ∧ getN role now n D key = goneN role n D key := by
  unfold getD getN; rw [h]; exact ⟨decide_eq_false hs, if_neg hs, if_neg hs, if_neg hs, if_neg hs⟩
theorem told_one {w : World} {b1 b2 m : Nat} {e1 e2 : TypeId} {x y : ByteArray} (hA : Blk w b1 [.string x, .string y] e1) (hB : Blk w b2 [.slice (some ⟨b1, 0, none⟩) 2 2] e2) (h1 : m ≤ b1) (h2 : m ≤ b2) : SlR (Rp.slice Rp.str) (fun k => m ≤ k) w (.slice (some ⟨b2, 0, none⟩) 1 1) [[x, y]] := by
  refine ⟨_, 1, rfl, by simp, by simp, fun i u hi => ?_⟩
  match i with
  | 0 =>
    simp at hi
    subst hi
    refine ⟨b2, 0, [.slice (some ⟨b1, 0, none⟩) 2 2], rfl, h2, hB.lt, ⟨_, rfl, ?_⟩, fun j u hj => ?_⟩
    · refine ⟨_, 2, rfl, by simp, by simp, fun i u hi => ?_⟩
      match i with
      | 0 =>
        simp at hi; subst hi
        refine ⟨b1, 0, [.string x], rfl, h1, hA.lt, rfl, fun j u hj => ?_⟩
        have hj' : j = 0 := by have := (List.getElem?_eq_some_iff.1 hj).1; simpa using this
        subst hj'
        simp at hj; subst hj
        exact hA.at 0 rfl
      | 1 =>
        simp at hi; subst hi
        refine ⟨b1, 0, [.string y], rfl, h1, hA.lt, rfl, fun j u hj => ?_⟩
        have hj' : j = 0 := by have := (List.getElem?_eq_some_iff.1 hj).1; simpa using this
        subst hj'
        simp at hj; subst hj
        exact hA.at 1 rfl
      | i + 2 => simp at hi
    · have hj' : j = 0 := by have := (List.getElem?_eq_some_iff.1 hj).1; simpa using this
      subst hj'
      simp at hj; subst hj
      exact hB.at 0 rfl
  | i + 1 => simp at hi
/-- What is told: nothing, or a command of two words. -/
def ToldB (w : World) (m : Nat) (vt : Value) (told : List (List ByteArray)) : Prop :=
  (told = [] ∧ vt = .slice none 0 0) ∨ ∃ b1 b2 x y, told = [[x, y]] ∧ vt = .slice (some ⟨b2, 0, none⟩) 1 1 ∧ Blk w b1 [.string x, .string y] 9 ∧ Blk w b2 [.slice (some ⟨b1, 0, none⟩) 2 2] 25 ∧ m ≤ b1 ∧ m ≤ b2
theorem ToldB.frl {w w1 : World} {m : Nat} {vt : Value} {told : List (List ByteArray)} {l : List Nat} (h : ToldB w m vt told) (f : Fr l w w1) (hl : ∀ k ∈ l, k < m) : ToldB w1 m vt told :=
  h.imp id fun ⟨b1, b2, x, y, e1, e2, h1, h2, h3, h4⟩ => ⟨b1, b2, x, y, e1, e2, h1.fr f fun hm => by have := hl _ hm; omega, h2.fr f fun hm => by have := hl _ hm; omega, h3, h4⟩
theorem ToldB.fr0 {w w1 : World} {m : Nat} {vt : Value} {told : List (List ByteArray)} (h : ToldB w m vt told) (f : Fr [] w w1) : ToldB w1 m vt told := h.frl f fun k hk => absurd hk (by simp)
theorem ToldB.rows {w : World} {m : Nat} {vt : Value} {told : List (List ByteArray)} (h : ToldB w m vt told) : SlR (Rp.slice Rp.str) (fun k => m ≤ k) w vt told := by
  rcases h with ⟨rfl, rfl⟩ | ⟨b1, b2, x, y, rfl, rfl, h1, h2, h3, h4⟩
  · exact SlR.nil ..
  · exact told_one h1 h2 h3 h4
/-! ### The table's own calls, of a space -/
theorem look_no {T : Tb EntV} {k : ByteArray} (h : (lookT EntV.nil T k).2 = false) : (lookT EntV.nil T k).1 = EntV.nil := by
  unfold lookT at h ⊢
  split
  · rename_i h1; rw [if_pos h1] at h; simp at h
  · rfl
theorem SpX.y0 {w : World} {H Vb : Nat → Prop} {sp t : Nat} {T : Tb EntV} {D : ByteArray → Option EnD} (q : SpX w H Vb sp t T D) : SpY w (fun k => H k ∨ Vb k ∨ k = sp) sp T.n D :=
  ⟨H, Vb, t, T, q, rfl, fun k hk => hk, fun k hk => by
    rcases hk with hk | hk | hk
    · exact (q.hH k hk).2.2
    · exact (q.hV k hk).2
    · rw [hk]; exact q.hB.lt⟩
theorem SpX.lt {w : World} {H Vb : Nat → Prop} {sp t : Nat} {T : Tb EntV} {D : ByteArray → Option EnD} (q : SpX w H Vb sp t T D) : ∀ k, H k ∨ Vb k ∨ k = sp → k < w.heap.size := fun k hk => by
  rcases hk with hk | hk | hk
  · exact (q.hH k hk).2.2
  · exact (q.hV k hk).2
  · rw [hk]; exact q.hB.lt
theorem tget_sp (w : World) {H Vb : Nat → Prop} {sp t : Nat} {T : Tb EntV} {D : ByteArray → Option EnD} (hq : SpX w H Vb sp t T D) (key : ByteArray) (hkz : key.size ≤ 9223372036854775807) :
    Calls Tryz.prog 30 #[.pointer (some ⟨t, 0, none⟩), .string key] w (fun e w' => ∃ f x Al cl Az cz Ah ch, e = .returned (.tuple #[.agg #[.int .i64 x.k, .string x.s, .slice Al x.l.length cl, .slice Az x.z.length cz, .slice Ah x.h.length ch, .int .i64 x.till], .bool f]) ∧ FndD D key f x ∧ SpX w' (gr H w w') Vb sp t (tbStep T) D ∧
      SlR Rp.str Vb w' (.slice Al x.l.length cl) x.l ∧ SlR scR Vb w' (.slice Az x.z.length cz) x.z ∧ SlR fdR Vb w' (.slice Ah x.h.length ch) x.h ∧ FrP (gp H []) w w') :=
  (get_any w H [] t T hq.hT hq.hm key hkz).mono fun e w' ⟨he, hT, hF⟩ => by
    have hs := sp_step hq (Fr.refl [] w) hF (hq.hB.frP hF fun hp => (hq.hH _ hp.1).2.1 rfl) hT
    rcases hs.look key with ⟨h1, h2⟩ | ⟨x, h1, h2, h3, h4, h5, h6, h7, h8, h9, h10, h11, h12, h13⟩
    · rw [h1, look_no h1] at he
      exact ⟨false, EnD.nil, none, 0, none, 0, none, 0, he, .inr ⟨rfl, h2, rfl⟩, hs, SlR.nil .., SlR.nil .., SlR.nil .., hF⟩
    · rw [h8] at h11
      rw [h9] at h12
      rw [h10] at h13
      rw [h1, h5, h6, h7, h8, h9, h10] at he
      exact ⟨true, x, _, _, _, _, _, _, he, .inl ⟨rfl, h2, h4, h3⟩, hs, h11, h12, h13, hF⟩
end Go.Proofs.YtjkegckfncfoaaaGreat
end
section
namespace Go.Proofs.YtjkegckfncfoaaaGreat
open Go.V Go.Base
open Go.RowKit (Below)
attribute [local irreducible] Act.put Act.eval
set_option linter.unusedVariables false
set_option linter.unusedSimpArgs false
set_option maxHeartbeats 4000000 in
set_option maxRecDepth 20000 in
theorem splook_any (w : World) (S : Nat → Prop) (sp n : Nat) (D : ByteArray → Option EnD) (hY : SpY w S sp n D) (key : ByteArray) (hkz : key.size ≤ 9223372036854775807) : Calls Tryz.prog 19 #[.pointer (some ⟨sp, 0, none⟩), .string key] w (fun e w' => ∃ f x Al cl Az cz Ah ch S' m, e = .returned (.tuple #[.agg #[.string x.key, .int .i64 x.k, .string x.s, .slice Al x.l.length cl, .slice Az x.z.length cz, .slice Ah x.h.length ch, .int .i64 x.till], .bool f]) ∧ FndD D key f x ∧ SpY w' S' sp n D ∧ GrS S w S' ∧ FrP S w w' ∧ (∀ k, S' k → k < m) ∧ w.heap.size ≤ m ∧ OwR Rp.str NoZ w' m 9 (.slice Al x.l.length cl) x.l ∧ OwR scR NoZ w' m 107 (.slice Az x.z.length cz) x.z ∧ OwR fdR NoZ w' m 110 (.slice Ah x.h.length ch) x.h ∧ Dis3 (.slice Al x.l.length cl) (.slice Az x.z.length cz) (.slice Ah x.h.length ch)) := by
 obtain ⟨H, Vb, t, T, hq, rfl, hS1, hS2⟩ := id hY
 have hX := hq
 have hB := hq.hB
 have hspl := hB.lt
 have hP := FrP.refl S w
 have hX0 := hq.lt
 refine V.en 31 Tryz.func19 fun a h1 => ?_
 refine V.sg fun K2 k3 => ?_
 refine V.go (V.mk [] trivial (by kernel_rfl) [.string ⟨#[]⟩, .int .i64 0, .string ⟨#[]⟩, .slice none 0 0, .slice none 0 0, .slice none 0 0, .int .i64 0] 39 (fun b => .pointer (some ⟨b, 0, none⟩)) (by kernel_rfl) ?_)
 intro w5 b4 heb4 hB6 hF7 hsb4
 have hX_8 := hX.fr0 hF7
 have hB_9 := hB.fr0 hF7
 have hP_10 := hP.tr0 hF7
 refine V.pt h1 fun a h11 => ?_
 refine V.re h11 [] 5 5 [] fun a h12 => k3 _ _ ?_
 refine V.seq fun K13 k14 => ?_
 refine V.sg fun K15 k16 => ?_
 refine V.run h12 [] 1 1 0 [(8, .pointer (some ⟨sp, 0, none⟩))] fun a h17 => ?_
 refine V.cl h17 (Go.Proofs.enters_of Tryz.func29 (by kernel_rfl) rfl) (isp_any w5 sp t hX_8.hB) ?_
 rintro _ w19 ⟨rfl, hF18⟩
 refine ⟨_, rfl, fun a h20 => ?_⟩
 have hsw19 := hF18.size
 have hX_21 := hX_8.fr0 hF18
 have hB_22 := hB_9.fr0 hF18
 have hP_23 := hP_10.tr0 hF18
 have hB6_24 := hB6.fr0 hF18
 refine V.re h20 [] 1 0 [(10, .bool false)] fun a h25 => k16 _ _ ?_
 refine V.cf h25 ?_
 refine V.skip ?_
 refine V.then_n (k14 _ _ ?_)
 refine V.sg fun K26 k27 => ?_
 refine V.run h25 [(3, .b hB_22 0)] 5 13 15 [(16, .pointer (some ⟨t, 0, none⟩)), (17, .string key)] fun a h28 => ?_
 refine V.cl h28 (Go.Proofs.enters_of Tryz.func30 (by kernel_rfl) rfl) (tget_sp w19 hX_21 key (by omega)) ?_
 rintro _ w44 ⟨f29, x30, A38, c39, A40, c41, A42, c43, rfl, hc31, hX32, hS33, hS34, hS35, hF36⟩
 refine ⟨_, rfl, fun a h45 => ?_⟩
 have hsw44 := hF36.size
 have hB_46 := hB_22.frP hF36 (by exact fun hp => (hX_21.hH _ hp.1).2.1 rfl)
 have hP_47 := hP_23.trP hF36 (fun k hk => .inl (hS1 k (.inl hk.1)))
 have hB6_48 := hB6_24.frP hF36 (by exact fun hp => by have := hX0 _ (.inl hp.1); omega)
 have hsep37 : ∀ k, gr H w19 w44 k ∨ Vb k ∨ k = sp → k < w.heap.size ∨ (w19.heap.size ≤ k ∧ k < w44.heap.size) := fun k hk => by rcases hk with (hk | hk) | hk | hk; exact .inl (hX0 k (.inl hk)); exact .inr hk; exact .inl (hX0 k (.inr (.inl hk))); exact .inl (hX0 k (.inr (.inr hk)))
 refine V.run h45 [] 3 12 12 [(19, .agg #[.int .i64 x30.k, .string x30.s, .slice A38 x30.l.length c39, .slice A40 x30.z.length c41, .slice A42 x30.h.length c43, .int .i64 x30.till]), (20, .bool f29)] fun a h53 => ?_
 refine V.go (V.mk [] trivial (by kernel_rfl) [.int .i64 0, .string ⟨#[]⟩, .slice none 0 0, .slice none 0 0, .slice none 0 0, .int .i64 0] 79 (fun b => .pointer (some ⟨b, 0, none⟩)) (by kernel_rfl) ?_)
 intro w50 b49 heb49 hB51 hF52 hsb49
 have hB_54 := hB_46.fr0 hF52
 have hP_55 := hP_47.tr0 hF52
 have hB6_56 := hB6_48.fr0 hF52
 have hX32_57 := hX32.fr0 hF52
 have hS33_58 := hS33.fr0 hF52
 have hS34_59 := hS34.fr0 hF52
 have hS35_60 := hS35.fr0 hF52
 refine V.pt h53 fun a h61 => ?_
 refine V.go (V.stn b49 0 (.agg #[.int .i64 x30.k, .string x30.s, .slice A38 x30.l.length c39, .slice A40 x30.z.length c41, .slice A42 x30.h.length c43, .int .i64 x30.till]) [.int .i64 x30.k, .string x30.s, .slice A38 x30.l.length c39, .slice A40 x30.z.length c41, .slice A42 x30.h.length c43, .int .i64 x30.till] h61.e h61.e rfl rfl (by kernel_rfl) hB51 (by simp) [.int .i64 x30.k, .string x30.s, .slice A38 x30.l.length c39, .slice A40 x30.z.length c41, .slice A42 x30.h.length c43, .int .i64 x30.till] rfl ?_)
 intro w62 hB63 hF64 hsw62
 have hB_65 := hB_54.fr1 hF64 (by omega)
 have hP_66 := hP_55.tr1 hF64 (by first | exact .inl (by assumption) | exact .inr (by omega) | exact .inl (.inl rfl))
 have hB6_67 := hB6_56.fr1 hF64 (by omega)
 have hX32_68 := hX32_57.frl hF64 (by intro k hk; simp only [List.mem_singleton] at hk; subst hk; exact ⟨fun q => by have := hsep37 _ (.inl q); omega, fun q => by have := hsep37 _ (.inr (.inl q)); omega, fun q => by have := hsep37 _ (.inr (.inr q)); omega⟩)
 have hS33_69 := hS33_58.fr hF64 (by intro x hx hz; simp only [List.mem_singleton] at hx; subst hx; first | (have := (hq.hV _ hz).2; omega) | exact (hq.hV _ hz).1 (by simp))
 have hS34_70 := hS34_59.fr hF64 (by intro x hx hz; simp only [List.mem_singleton] at hx; subst hx; first | (have := (hq.hV _ hz).2; omega) | exact (hq.hV _ hz).1 (by simp))
 have hS35_71 := hS35_60.fr hF64 (by intro x hx hz; simp only [List.mem_singleton] at hx; subst hx; first | (have := (hq.hV _ hz).2; omega) | exact (hq.hV _ hz).1 (by simp))
 refine V.re h61 [] 1 0 [(7, .bool f29)] fun a h72 => k27 _ _ ?_
 refine V.seq fun K73 k74 => ?_
 refine V.sr h72 [] 21 21 [(22, .bool (!f29))] fun a h77 => ?_
 refine V.cb h77 (!f29) (fun ht78 => ?_) (fun ht78 => ?_)
 ·
  refine V.sg fun K79 k80 => ?_
  refine V.run h77 [] 1 1 0 [(23, .agg #[.string ⟨#[]⟩, .int .i64 0, .string ⟨#[]⟩, .slice none 0 0, .slice none 0 0, .slice none 0 0, .int .i64 0])] fun a h84 => ?_
  refine V.go (V.stn b4 0 (.agg #[.string ⟨#[]⟩, .int .i64 0, .string ⟨#[]⟩, .slice none 0 0, .slice none 0 0, .slice none 0 0, .int .i64 0]) [.string ⟨#[]⟩, .int .i64 0, .string ⟨#[]⟩, .slice none 0 0, .slice none 0 0, .slice none 0 0, .int .i64 0] h84.e h84.e rfl rfl (by kernel_rfl) hB6_67 (by simp) [.string ⟨#[]⟩, .int .i64 0, .string ⟨#[]⟩, .slice none 0 0, .slice none 0 0, .slice none 0 0, .int .i64 0] rfl ?_)
  intro w81 hB82 hF83 hsw81
  have hB_85 := hB_65.fr1 hF83 (by omega)
  have hP_86 := hP_66.tr1 hF83 (by first | exact .inl (by assumption) | exact .inr (by omega) | exact .inl (.inl rfl))
  have hX32_87 := hX32_68.frl hF83 (by intro k hk; simp only [List.mem_singleton] at hk; subst hk; exact ⟨fun q => by have := hsep37 _ (.inl q); omega, fun q => by have := hsep37 _ (.inr (.inl q)); omega, fun q => by have := hsep37 _ (.inr (.inr q)); omega⟩)
  have hS33_88 := hS33_69.fr hF83 (by intro x hx hz; simp only [List.mem_singleton] at hx; subst hx; first | (have := (hq.hV _ hz).2; omega) | exact (hq.hV _ hz).1 (by simp))
  have hS34_89 := hS34_70.fr hF83 (by intro x hx hz; simp only [List.mem_singleton] at hx; subst hx; first | (have := (hq.hV _ hz).2; omega) | exact (hq.hV _ hz).1 (by simp))
  have hS35_90 := hS35_71.fr hF83 (by intro x hx hz; simp only [List.mem_singleton] at hx; subst hx; first | (have := (hq.hV _ hz).2; omega) | exact (hq.hV _ hz).1 (by simp))
  have hB63_91 := hB63.fr1 hF83 (by omega)
  refine V.re h84 [] 1 0 [(5, .bool false)] fun a h92 => k80 _ _ ?_
  refine V.ret ?_
  refine V.then_r ?_
  refine V.retCT h92.sd rfl _ (h92.e (v := (.pointer (some ⟨b4, 0, none⟩)))) (V.run_loadVar_agg (cs := [.string ⟨#[]⟩, .int .i64 0, .string ⟨#[]⟩, .slice none 0 0, .slice none 0 0, .slice none 0 0, .int .i64 0]) (by kernel_rfl) (blk_cells hB82 0 _ rfl)) (h92.e (v := (.bool false))) ?_
  have hlx := hX32_87.lt
  have hx0 := tbStep_n' T
  rcases hc31 with ⟨q1, q2, q3, q4⟩ | ⟨q1, q2, q3⟩
  · rw [q1] at ht78; simp at ht78
  · exact ⟨false, EnD.nil, none, 0, none, 0, none, 0, _, w81.heap.size, rfl, .inr ⟨rfl, q2, rfl⟩, hx0 ▸ hX32_87.y0, fun k hk => by rcases hk with (hk | hk) | hk | hk; exact .inl (hS1 k (.inl hk)); (have := hk.1; exact .inr (by omega)); exact .inl (hS1 k (.inr (.inl hk))); exact .inl (hS1 k (.inr (.inr hk))), hP_86, hlx, by omega, OwR.nil .., OwR.nil .., OwR.nil .., Dis3.nil _⟩
 ·
  refine V.skip ?_
  refine V.then_n (k74 _ _ ?_)
  refine V.seq fun K93 k94 => ?_
  have hbk : x30.l.length ≤ 65536 ∧ x30.z.length ≤ 65536 ∧ x30.h.length ≤ 65536 := by rcases hc31 with ⟨q1, q2, q3, q4⟩ | ⟨q1, q2, q3⟩; exact ⟨(okD_bnd q3).2.1, (okD_bnd q3).2.2.1, (okD_bnd q3).2.2.2.1⟩; rw [q3]; exact ⟨by decide, by decide, by decide⟩
  refine V.pl [([0,1,2,4,5],some (3,[5])),([6],some (7,[])),([8],none)] fun w95 hF96 hsw95 => ?_
  have hB_97 := hB_65.fr0 hF96
  have hP_98 := hP_66.tr0 hF96
  have hB6_99 := hB6_67.fr0 hF96
  have hX32_100 := hX32_68.fr0 hF96
  have hS33_101 := hS33_69.fr0 hF96
  have hS34_102 := hS34_70.fr0 hF96
  have hS35_103 := hS35_71.fr0 hF96
  have hB63_104 := hB63.fr0 hF96
  refine V.pe h77 [(2, .bs hB63_104 0 [.int .i64 x30.k, .string x30.s, .slice A38 x30.l.length c39, .slice A40 x30.z.length c41, .slice A42 x30.h.length c43]), (1, .b hB63_104 5)] 25 25 [(24, .string key), (26, .agg #[.int .i64 x30.k, .string x30.s, .slice A38 x30.l.length c39, .slice A40 x30.z.length c41, .slice A42 x30.h.length c43]), (28, .pointer (some ⟨b49, 5, none⟩)), (29, .int .i64 x30.till)] fun a h105 => ?_
  refine V.cl h105 (Go.Proofs.enters_of Tryz.func33 (by kernel_rfl) rfl) (copied_any w95 x30.k x30.s A38 c39 x30.l hS33_101.old A40 c41 x30.z hS34_102.old A42 c43 x30.h hS35_103.old (by omega) (by omega) (by omega)) ?_
  rintro _ w117 ⟨A106, c107, A108, c109, A110, c111, rfl, hO112, hO113, hO114, hd116, hF115⟩
  refine ⟨_, rfl, fun a h118 => ?_⟩
  have hsw117 := hF115.size
  have hB_119 := hB_97.fr0 hF115
  have hP_120 := hP_98.tr0 hF115
  have hB6_121 := hB6_99.fr0 hF115
  have hX32_122 := hX32_100.fr0 hF115
  have hS33_123 := hS33_101.fr0 hF115
  have hS34_124 := hS34_102.fr0 hF115
  have hS35_125 := hS35_103.fr0 hF115
  have hB63_126 := hB63_104.fr0 hF115
  refine V.eh (fun _ => held_blk (n := 1) (hx := (h105.e (v := (.pointer (some ⟨b49, 5, none⟩))))) hB63_104 hB63_126 (by kernel_rfl) rfl (by simp only [List.length]; omega)) ?_
  refine V.pe h118 [] 1 0 [(30, .agg #[.string key, .int .i64 x30.k, .string x30.s, .slice A106 x30.l.length c107, .slice A108 x30.z.length c109, .slice A110 x30.h.length c111, .int .i64 x30.till])] fun a h127 => ?_
  refine V.go (V.stn b4 0 (.agg #[.string key, .int .i64 x30.k, .string x30.s, .slice A106 x30.l.length c107, .slice A108 x30.z.length c109, .slice A110 x30.h.length c111, .int .i64 x30.till]) [.string key, .int .i64 x30.k, .string x30.s, .slice A106 x30.l.length c107, .slice A108 x30.z.length c109, .slice A110 x30.h.length c111, .int .i64 x30.till] h127.e h127.e rfl rfl (by kernel_rfl) hB6_121 (by simp) [.string key, .int .i64 x30.k, .string x30.s, .slice A106 x30.l.length c107, .slice A108 x30.z.length c109, .slice A110 x30.h.length c111, .int .i64 x30.till] rfl ?_)
  intro w128 hB129 hF130 hsw128
  have hB_131 := hB_119.fr1 hF130 (by omega)
  have hP_132 := hP_120.tr1 hF130 (by first | exact .inl (by assumption) | exact .inr (by omega) | exact .inl (.inl rfl))
  have hX32_133 := hX32_122.frl hF130 (by intro k hk; simp only [List.mem_singleton] at hk; subst hk; exact ⟨fun q => by have := hsep37 _ (.inl q); omega, fun q => by have := hsep37 _ (.inr (.inl q)); omega, fun q => by have := hsep37 _ (.inr (.inr q)); omega⟩)
  have hS33_134 := hS33_123.fr hF130 (by intro x hx hz; simp only [List.mem_singleton] at hx; subst hx; first | (have := (hq.hV _ hz).2; omega) | exact (hq.hV _ hz).1 (by simp))
  have hS34_135 := hS34_124.fr hF130 (by intro x hx hz; simp only [List.mem_singleton] at hx; subst hx; first | (have := (hq.hV _ hz).2; omega) | exact (hq.hV _ hz).1 (by simp))
  have hS35_136 := hS35_125.fr hF130 (by intro x hx hz; simp only [List.mem_singleton] at hx; subst hx; first | (have := (hq.hV _ hz).2; omega) | exact (hq.hV _ hz).1 (by simp))
  have hB63_137 := hB63_126.fr1 hF130 (by omega)
  have hO112_138 := hO112.frn hF130 (fun h => h) (by first | exact own_ne hO112 (by omega))
  have hO113_139 := hO113.frn hF130 (fun h => h) (by first | exact own_ne hO113 (by omega))
  have hO114_140 := hO114.frn hF130 (fun h => h) (by first | exact own_ne hO114 (by omega))
  refine V.eh trivial ?_
  refine V.pz h127 [] 1 0 [(5, .bool true)] fun a h141 => k94 _ _ ?_
  refine V.ret ?_
  refine V.retCT h141.sd rfl _ (h141.e (v := (.pointer (some ⟨b4, 0, none⟩)))) (V.run_loadVar_agg (cs := [.string key, .int .i64 x30.k, .string x30.s, .slice A106 x30.l.length c107, .slice A108 x30.z.length c109, .slice A110 x30.h.length c111, .int .i64 x30.till]) (by kernel_rfl) (blk_cells hB129 0 _ rfl)) (h141.e (v := (.bool true))) ?_
  have hlx := hX32_133.lt
  have hx0 := tbStep_n' T
  rcases hc31 with ⟨q1, q2, q3, q4⟩ | ⟨q1, q2, q3⟩
  · refine ⟨true, x30, _, _, _, _, _, _, _, w95.heap.size, ?_, .inl ⟨rfl, q2, q3, q4⟩, hx0 ▸ hX32_133.y0, fun k hk => by rcases hk with (hk | hk) | hk | hk; exact .inl (hS1 k (.inl hk)); (have := hk.1; exact .inr (by omega)); exact .inl (hS1 k (.inr (.inl hk))); exact .inl (hS1 k (.inr (.inr hk))), hP_132, fun k hk => ?_, by omega, hO112_138, hO113_139, hO114_140, hd116⟩
    · rw [q4]
    · have := hsep37 k hk; omega
  · rw [q1] at ht78; simp at ht78
end Go.Proofs.YtjkegckfncfoaaaGreat
end
section
namespace Go.V
open Go.Base
section
variable {P : Program} {fn : Func} {R : Ending → World → Prop} {a : Act} {w : World} {n : Nat}
theorem retCTT (hz : Sz n a) {s t u u' : Nat} (hf : fn.results = #[.cell s t, .tmp u, .tmp u']) (ad : Addr) (hs : a.eval (.tmp s) = .pointer (some ad)) {v v' v'' : Value} (hl : (loadVar t ad).run P w = .ok v w) (hu : a.eval (.tmp u) = v') (hu' : a.eval (.tmp u') = v'') (hR : R (.returned (.tuple #[v, v', v''])) w) : bodyPost P fn R .ret a w := by
  refine bodyPost_ret (v := .tuple #[v, v', v'']) ?_ hz.defers hR
  have e1 : a.tmps[s]?.getD undef = .pointer (some ad) := by have := hs; simpa [Act.eval] using this
  have e2 : a.tmps[u]?.getD undef = v' := by have := hu; simpa [Act.eval] using this
  have e3 : a.tmps[u']?.getD undef = v'' := by have := hu'; simpa [Act.eval] using this
  simp [results, hf, e1, e2, e3, asAddr, hl]
end
end Go.V
end
section
namespace Go.Proofs.YtjkegckfncfoaaaGreat
open Go.V Go.Base
open Go.RowKit (Below)
attribute [local irreducible] Act.put Act.eval
set_option linter.unusedVariables false
set_option linter.unusedSimpArgs false
set_option maxHeartbeats 4000000 in
set_option maxRecDepth 20000 in
theorem gone_any (w : World) (S : Nat → Prop) (sp n : Nat) (D : ByteArray → Option EnD) (hY : SpY w S sp n D) (now dr role : Int) (Aa : Option Addr) (na ca : Nat) (key : ByteArray) (hkz : key.size ≤ 9223372036854775807) : Calls Tryz.prog 32 #[.pointer (some ⟨sp, 0, none⟩), .agg #[.int .i64 now, .int .u64 dr, .int .i64 role, .slice Aa na ca], .string key] w (fun e w' => ∃ vt S' m, e = .returned vt ∧ ToldB w' m vt (goneT role key) ∧ SpY w' S' sp (goneN role n D key) (goneD role D key) ∧ GrS S w S' ∧ FrP S w w' ∧ (∀ k, S' k → k < m) ∧ w.heap.size ≤ m) := by
 obtain ⟨H, Vb, t, T, hq, rfl, hS1, hS2⟩ := id hY
 have hX := hq
 have hB := hq.hB
 have hspl := hB.lt
 have hP := FrP.refl S w
 have hX0 := hq.lt
 refine V.en 19 Tryz.func32 fun a h1 => ?_
 refine V.sg fun K2 k3 => ?_
 refine V.go (V.mk [(1, .agg #[.int .i64 now, .int .u64 dr, .int .i64 role, .slice Aa na ca])] ⟨h1.e, trivial⟩ (by kernel_rfl) [.int .i64 now, .int .u64 dr, .int .i64 role, .slice Aa na ca] 27 (fun b => .pointer (some ⟨b, 0, none⟩)) (by kernel_rfl) ?_)
 intro w5 b4 heb4 hB6 hF7 hsb4
 have hX_8 := hX.fr0 hF7
 have hB_9 := hB.fr0 hF7
 have hP_10 := hP.tr0 hF7
 refine V.pt h1 fun a h11 => ?_
 refine V.re h11 [] 6 6 [] fun a h12 => k3 _ _ ?_
 refine V.seq fun K13 k14 => ?_
 refine V.sr h12 [(1, .b hB6 2), (0, .ne role 1)] 7 8 [(9, .bool (decide (¬ role = 1)))] fun a h17 => ?_
 refine V.cp h17 (¬ role = 1) (fun ht18 => ?_) (fun ht18 => ?_)
 ·
  refine V.sr h17 [] 1 0 [(6, .slice none 0 0)] fun a h21 => ?_
  refine V.ret ?_
  refine V.then_r ?_
  refine V.r1 h21 (.slice none 0 0) ?_
  unfold goneT goneN goneD
  have hlx := hX_8.lt
  rw [if_neg (by omega), if_neg (by omega), if_neg (by omega)]
  exact ⟨_, _, w5.heap.size, rfl, .inl ⟨rfl, rfl⟩, hX_8.y0, fun k hk => .inl (hS1 k hk), hP_10, hlx, by omega⟩
 ·
  refine V.skip ?_
  refine V.then_n (k14 _ _ ?_)
  refine V.sg fun K22 k23 => ?_
  refine V.run h17 [(3, .b hB_9 0)] 5 10 12 [(13, .pointer (some ⟨t, 0, none⟩)), (14, .string key)] fun a h24 => ?_
  refine V.cl h24 (Go.Proofs.enters_of Tryz.func52 (by kernel_rfl) rfl) (del_any w5 (H) [] t (T) hX_8.hT hX_8.hm key (by omega)) ?_
  rintro _ w28 ⟨rfl, hT25, hF26⟩
  refine ⟨_, rfl, fun a h29 => ?_⟩
  have hsw28 := hF26.size
  have hB_30 := hB_9.frP hF26 (by exact fun hp => (hX_8.hH _ hp.1).2.1 rfl)
  have hP_31 := hP_10.trP hF26 (fun k hk => .inl (hS1 k (.inl hk.1)))
  have hB6_32 := hB6.frP hF26 (by exact fun hp => by have := hX0 _ (.inl hp.1); omega)
  have hX33 := sp_del hX_8 hkz (Fr.refl [] w5) hF26 hB_30 hT25
  have hsep27 : ∀ k, gr H w5 w28 k ∨ Vb k ∨ k = sp → k < w.heap.size ∨ (w5.heap.size ≤ k ∧ k < w28.heap.size) := fun k hk => by rcases hk with (hk | hk) | hk | hk; exact .inl (hX0 k (.inl hk)); exact .inr hk; exact .inl (hX0 k (.inr (.inl hk))); exact .inl (hX0 k (.inr (.inr hk)))
  refine V.nt (k23 _ _ ?_)
  refine V.sg fun K34 k35 => ?_
  refine V.run h29 [] 1 1 0 [(16, .string key)] fun a h36 => ?_
  refine V.go (V.mk [(16, .string key)] ⟨h36.e, trivial⟩ (by kernel_rfl) [.string ⟨#[68, 69, 76]⟩, .string key] 9 (fun b => .slice (some ⟨b, 0, none⟩) 2 2) (by kernel_rfl) ?_)
  intro w38 b37 heb37 hB39 hF40 hsb37
  have hB_41 := hB_30.fr0 hF40
  have hP_42 := hP_31.tr0 hF40
  have hB6_43 := hB6_32.fr0 hF40
  have hX33_44 := hX33.fr0 hF40
  refine V.pt h36 fun a h45 => ?_
  refine V.go (V.mk [(17, .slice (some ⟨b37, 0, none⟩) 2 2)] ⟨h45.e, trivial⟩ (by kernel_rfl) [.slice (some ⟨b37, 0, none⟩) 2 2] 25 (fun b => .slice (some ⟨b, 0, none⟩) 1 1) (by kernel_rfl) ?_)
  intro w47 b46 heb46 hB48 hF49 hsb46
  have hB_50 := hB_41.fr0 hF49
  have hP_51 := hP_42.tr0 hF49
  have hB6_52 := hB6_43.fr0 hF49
  have hX33_53 := hX33_44.fr0 hF49
  have hB39_54 := hB39.fr0 hF49
  refine V.pt h45 fun a h55 => ?_
  refine V.re h55 [] 1 0 [(6, .slice (some ⟨b46, 0, none⟩) 1 1)] fun a h56 => k35 _ _ ?_
  refine V.ret ?_
  refine V.r1 h56 (.slice (some ⟨b46, 0, none⟩) 1 1) ?_
  unfold goneT goneN goneD
  have hlx := hX33_53.lt
  rw [if_pos (by omega), if_pos (by omega), if_pos (by omega)]
  have hdn := delT_n' hq key
  exact ⟨_, _, w28.heap.size, rfl, (.inr ⟨_, _, _, _, rfl, rfl, hB39_54, hB48, by omega, by omega⟩), (by unfold delN; exact hdn ▸ hX33_53.y0), fun k hk => by rcases hk with (hk | hk) | hk | hk; exact .inl (hS1 k (.inl hk)); (have := hk.1; exact .inr (by omega)); exact .inl (hS1 k (.inr (.inl hk))); exact .inl (hS1 k (.inr (.inr hk))), hP_51, fun k hk => by have := hsep27 k hk; omega, by omega⟩
set_option maxHeartbeats 4000000 in
set_option maxRecDepth 20000 in
theorem spget_any (w : World) (S : Nat → Prop) (sp n : Nat) (D : ByteArray → Option EnD) (hY : SpY w S sp n D) (now dr role : Int) (Aa : Option Addr) (na ca : Nat) (key : ByteArray) (hkz : key.size ≤ 9223372036854775807) : Calls Tryz.prog 10 #[.pointer (some ⟨sp, 0, none⟩), .agg #[.int .i64 now, .int .u64 dr, .int .i64 role, .slice Aa na ca], .string key] w (fun e w' => ∃ x Al cl Az cz Ah ch vt S' m, e = .returned (.tuple #[.agg #[.int .i64 x.k, .string x.s, .slice Al x.l.length cl, .slice Az x.z.length cz, .slice Ah x.h.length ch], .bool (getF role now (D key)), vt]) ∧ x = getX role now (D key) ∧ SpY w' S' sp (getN role now n D key) (getD role now D key) ∧ GrS S w S' ∧ FrP S w w' ∧ (∀ k, S' k → k < m) ∧ w.heap.size ≤ m ∧ OwR Rp.str NoZ w' m 9 (.slice Al x.l.length cl) x.l ∧ OwR scR NoZ w' m 107 (.slice Az x.z.length cz) x.z ∧ OwR fdR NoZ w' m 110 (.slice Ah x.h.length ch) x.h ∧ Dis3 (.slice Al x.l.length cl) (.slice Az x.z.length cz) (.slice Ah x.h.length ch) ∧ ToldB w' m vt (getT role now key (D key))) := by
 obtain ⟨H, Vb, t, T, hq, rfl, hS1, hS2⟩ := id hY
 have hX := hq
 have hB := hq.hB
 have hspl := hB.lt
 have hP := FrP.refl S w
 have hX0 := hq.lt
 refine V.en 39 Tryz.func10 fun a h1 => ?_
 refine V.sg fun K2 k3 => ?_
 refine V.go (V.mk [(1, .agg #[.int .i64 now, .int .u64 dr, .int .i64 role, .slice Aa na ca])] ⟨h1.e, trivial⟩ (by kernel_rfl) [.int .i64 now, .int .u64 dr, .int .i64 role, .slice Aa na ca] 27 (fun b => .pointer (some ⟨b, 0, none⟩)) (by kernel_rfl) ?_)
 intro w5 b4 heb4 hB6 hF7 hsb4
 have hX_8 := hX.fr0 hF7
 have hB_9 := hB.fr0 hF7
 have hP_10 := hP.tr0 hF7
 refine V.pt h1 fun a h11 => ?_
 refine V.go (V.mk [] trivial (by kernel_rfl) [.int .i64 0, .string ⟨#[]⟩, .slice none 0 0, .slice none 0 0, .slice none 0 0] 37 (fun b => .pointer (some ⟨b, 0, none⟩)) (by kernel_rfl) ?_)
 intro w13 b12 heb12 hB14 hF15 hsb12
 have hX_16 := hX_8.fr0 hF15
 have hB_17 := hB_9.fr0 hF15
 have hP_18 := hP_10.tr0 hF15
 have hB6_19 := hB6.fr0 hF15
 refine V.pt h11 fun a h20 => ?_
 refine V.re h20 [] 7 8 [] fun a h21 => k3 _ _ ?_
 refine V.seq fun K22 k23 => ?_
 refine V.sg fun K24 k25 => ?_
 refine V.run h21 [] 1 1 0 [(11, .pointer (some ⟨sp, 0, none⟩))] fun a h26 => ?_
 refine V.cl h26 (Go.Proofs.enters_of Tryz.func29 (by kernel_rfl) rfl) (isp_any w13 sp t hX_16.hB) ?_
 rintro _ w28 ⟨rfl, hF27⟩
 refine ⟨_, rfl, fun a h29 => ?_⟩
 have hsw28 := hF27.size
 have hX_30 := hX_16.fr0 hF27
 have hB_31 := hB_17.fr0 hF27
 have hP_32 := hP_18.tr0 hF27
 have hB6_33 := hB6_19.fr0 hF27
 have hB14_34 := hB14.fr0 hF27
 refine V.re h29 [] 1 0 [(13, .bool false)] fun a h35 => k25 _ _ ?_
 refine V.cf h35 ?_
 refine V.skip ?_
 refine V.then_n (k23 _ _ ?_)
 refine V.sg fun K36 k37 => ?_
 refine V.run h35 [(3, .b hB_31 0)] 5 16 18 [(19, .pointer (some ⟨t, 0, none⟩)), (20, .string key)] fun a h38 => ?_
 refine V.cl h38 (Go.Proofs.enters_of Tryz.func30 (by kernel_rfl) rfl) (tget_sp w28 hX_30 key (by omega)) ?_
 rintro _ w54 ⟨f39, x40, A48, c49, A50, c51, A52, c53, rfl, hc41, hX42, hS43, hS44, hS45, hF46⟩
 refine ⟨_, rfl, fun a h55 => ?_⟩
 have hsw54 := hF46.size
 have hB_56 := hB_31.frP hF46 (by exact fun hp => (hX_30.hH _ hp.1).2.1 rfl)
 have hP_57 := hP_32.trP hF46 (fun k hk => .inl (hS1 k (.inl hk.1)))
 have hB6_58 := hB6_33.frP hF46 (by exact fun hp => by have := hX0 _ (.inl hp.1); omega)
 have hB14_59 := hB14_34.frP hF46 (by exact fun hp => by have := hX0 _ (.inl hp.1); omega)
 have hsep47 : ∀ k, gr H w28 w54 k ∨ Vb k ∨ k = sp → k < w.heap.size ∨ (w28.heap.size ≤ k ∧ k < w54.heap.size) := fun k hk => by rcases hk with (hk | hk) | hk | hk; exact .inl (hX0 k (.inl hk)); exact .inr hk; exact .inl (hX0 k (.inr (.inl hk))); exact .inl (hX0 k (.inr (.inr hk)))
 refine V.run h55 [] 3 15 15 [(22, .agg #[.int .i64 x40.k, .string x40.s, .slice A48 x40.l.length c49, .slice A50 x40.z.length c51, .slice A52 x40.h.length c53, .int .i64 x40.till]), (23, .bool f39)] fun a h64 => ?_
 refine V.go (V.mk [] trivial (by kernel_rfl) [.int .i64 0, .string ⟨#[]⟩, .slice none 0 0, .slice none 0 0, .slice none 0 0, .int .i64 0] 79 (fun b => .pointer (some ⟨b, 0, none⟩)) (by kernel_rfl) ?_)
 intro w61 b60 heb60 hB62 hF63 hsb60
 have hB_65 := hB_56.fr0 hF63
 have hP_66 := hP_57.tr0 hF63
 have hB6_67 := hB6_58.fr0 hF63
 have hB14_68 := hB14_59.fr0 hF63
 have hX42_69 := hX42.fr0 hF63
 have hS43_70 := hS43.fr0 hF63
 have hS44_71 := hS44.fr0 hF63
 have hS45_72 := hS45.fr0 hF63
 refine V.pt h64 fun a h73 => ?_
 refine V.go (V.stn b60 0 (.agg #[.int .i64 x40.k, .string x40.s, .slice A48 x40.l.length c49, .slice A50 x40.z.length c51, .slice A52 x40.h.length c53, .int .i64 x40.till]) [.int .i64 x40.k, .string x40.s, .slice A48 x40.l.length c49, .slice A50 x40.z.length c51, .slice A52 x40.h.length c53, .int .i64 x40.till] h73.e h73.e rfl rfl (by kernel_rfl) hB62 (by simp) [.int .i64 x40.k, .string x40.s, .slice A48 x40.l.length c49, .slice A50 x40.z.length c51, .slice A52 x40.h.length c53, .int .i64 x40.till] rfl ?_)
 intro w74 hB75 hF76 hsw74
 have hB_77 := hB_65.fr1 hF76 (by omega)
 have hP_78 := hP_66.tr1 hF76 (by first | exact .inl (by assumption) | exact .inr (by omega) | exact .inl (.inl rfl))
 have hB6_79 := hB6_67.fr1 hF76 (by omega)
 have hB14_80 := hB14_68.fr1 hF76 (by omega)
 have hX42_81 := hX42_69.frl hF76 (by intro k hk; simp only [List.mem_singleton] at hk; subst hk; exact ⟨fun q => by have := hsep47 _ (.inl q); omega, fun q => by have := hsep47 _ (.inr (.inl q)); omega, fun q => by have := hsep47 _ (.inr (.inr q)); omega⟩)
 have hS43_82 := hS43_70.fr hF76 (by intro x hx hz; simp only [List.mem_singleton] at hx; subst hx; first | (have := (hq.hV _ hz).2; omega) | exact (hq.hV _ hz).1 (by simp))
 have hS44_83 := hS44_71.fr hF76 (by intro x hx hz; simp only [List.mem_singleton] at hx; subst hx; first | (have := (hq.hV _ hz).2; omega) | exact (hq.hV _ hz).1 (by simp))
 have hS45_84 := hS45_72.fr hF76 (by intro x hx hz; simp only [List.mem_singleton] at hx; subst hx; first | (have := (hq.hV _ hz).2; omega) | exact (hq.hV _ hz).1 (by simp))
 refine V.re h73 [] 1 0 [(10, .bool f39)] fun a h85 => k37 _ _ ?_
 refine V.seq fun K86 k87 => ?_
 refine V.sr h85 [] 24 24 [(25, .bool (!f39))] fun a h90 => ?_
 refine V.cb h90 (!f39) (fun ht91 => ?_) (fun ht91 => ?_)
 ·
  refine V.sg fun K92 k93 => ?_
  refine V.run h90 [] 1 1 0 [(26, .agg #[.int .i64 0, .string ⟨#[]⟩, .slice none 0 0, .slice none 0 0, .slice none 0 0])] fun a h97 => ?_
  refine V.go (V.stn b12 0 (.agg #[.int .i64 0, .string ⟨#[]⟩, .slice none 0 0, .slice none 0 0, .slice none 0 0]) [.int .i64 0, .string ⟨#[]⟩, .slice none 0 0, .slice none 0 0, .slice none 0 0] h97.e h97.e rfl rfl (by kernel_rfl) hB14_80 (by simp) [.int .i64 0, .string ⟨#[]⟩, .slice none 0 0, .slice none 0 0, .slice none 0 0] rfl ?_)
  intro w94 hB95 hF96 hsw94
  have hB_98 := hB_77.fr1 hF96 (by omega)
  have hP_99 := hP_78.tr1 hF96 (by first | exact .inl (by assumption) | exact .inr (by omega) | exact .inl (.inl rfl))
  have hB6_100 := hB6_79.fr1 hF96 (by omega)
  have hX42_101 := hX42_81.frl hF96 (by intro k hk; simp only [List.mem_singleton] at hk; subst hk; exact ⟨fun q => by have := hsep47 _ (.inl q); omega, fun q => by have := hsep47 _ (.inr (.inl q)); omega, fun q => by have := hsep47 _ (.inr (.inr q)); omega⟩)
  have hS43_102 := hS43_82.fr hF96 (by intro x hx hz; simp only [List.mem_singleton] at hx; subst hx; first | (have := (hq.hV _ hz).2; omega) | exact (hq.hV _ hz).1 (by simp))
  have hS44_103 := hS44_83.fr hF96 (by intro x hx hz; simp only [List.mem_singleton] at hx; subst hx; first | (have := (hq.hV _ hz).2; omega) | exact (hq.hV _ hz).1 (by simp))
  have hS45_104 := hS45_84.fr hF96 (by intro x hx hz; simp only [List.mem_singleton] at hx; subst hx; first | (have := (hq.hV _ hz).2; omega) | exact (hq.hV _ hz).1 (by simp))
  have hB75_105 := hB75.fr1 hF96 (by omega)
  refine V.re h97 [] 1 0 [(7, .bool false), (8, .slice none 0 0)] fun a h106 => k93 _ _ ?_
  refine V.ret ?_
  refine V.then_r ?_
  refine V.retCTT h106.sd rfl _ (h106.e (v := (.pointer (some ⟨b12, 0, none⟩)))) (V.run_loadVar_agg (cs := [.int .i64 0, .string ⟨#[]⟩, .slice none 0 0, .slice none 0 0, .slice none 0 0]) (by kernel_rfl) (blk_cells hB95 0 _ rfl)) (h106.e (v := (.bool false))) (h106.e (v := (.slice none 0 0))) ?_
  have hx0 := tbStep_n' T
  rcases hc41 with ⟨q1, q2, q3, q4⟩ | ⟨q1, q2, q3⟩
  · rw [q1] at ht91; simp at ht91
  · obtain ⟨e1, e2, e3, e4, e5⟩ := get_none (role := role) (now := now) (n := T.n) q2
    rw [e1, e2, e3, e4, e5]
    exact ⟨EnD.nil, none, 0, none, 0, none, 0, _, _, w94.heap.size, rfl, rfl, hx0 ▸ hX42_101.y0, fun k hk => by rcases hk with (hk | hk) | hk | hk; exact .inl (hS1 k (.inl hk)); (have := hk.1; exact .inr (by omega)); exact .inl (hS1 k (.inr (.inl hk))); exact .inl (hS1 k (.inr (.inr hk))), hP_99, hX42_101.lt, by omega, OwR.nil .., OwR.nil .., OwR.nil .., Dis3.nil _, .inl ⟨rfl, rfl⟩⟩
 ·
  refine V.skip ?_
  refine V.then_n (k87 _ _ ?_)
  refine V.seq fun K107 k108 => ?_
  refine V.sg fun K109 k110 => ?_
  refine V.run h90 [(0, .bs hB6_79 0 [.int .i64 now, .int .u64 dr, .int .i64 role, .slice Aa na ca]), (0, .bs hB75 0 [.int .i64 x40.k, .string x40.s, .slice A48 x40.l.length c49, .slice A50 x40.z.length c51, .slice A52 x40.h.length c53, .int .i64 x40.till])] 2 1 0 [(27, .agg #[.int .i64 now, .int .u64 dr, .int .i64 role, .slice Aa na ca]), (28, .agg #[.int .i64 x40.k, .string x40.s, .slice A48 x40.l.length c49, .slice A50 x40.z.length c51, .slice A52 x40.h.length c53, .int .i64 x40.till])] fun a h111 => ?_
  refine V.cl h111 (Go.Proofs.enters_of Tryz.func31 (by kernel_rfl) rfl) (seen_any w74 now dr role Aa na ca ⟨x40.k, x40.s, ⟨A48, x40.l.length, c49⟩, ⟨A50, x40.z.length, c51⟩, ⟨A52, x40.h.length, c53⟩, x40.till⟩) ?_
  rintro _ w113 ⟨rfl, hF112⟩
  refine ⟨_, rfl, fun a h114 => ?_⟩
  have hsw113 := hF112.size
  have hB_115 := hB_77.fr0 hF112
  have hP_116 := hP_78.tr0 hF112
  have hB6_117 := hB6_79.fr0 hF112
  have hB14_118 := hB14_80.fr0 hF112
  have hX42_119 := hX42_81.fr0 hF112
  have hS43_120 := hS43_82.fr0 hF112
  have hS44_121 := hS44_83.fr0 hF112
  have hS45_122 := hS45_84.fr0 hF112
  have hB75_123 := hB75.fr0 hF112
  refine V.re h114 [(0, .q (.bool (decide (¬ (seenD role now x40.till)))) V.t_not)] 1 0 [(30, .bool (decide (¬ (seenD role now x40.till))))] fun a h124 => k110 _ _ ?_
  refine V.cp h124 (¬ (seenD role now x40.till)) (fun ht125 => ?_) (fun ht125 => ?_)
  ·
   refine V.sg fun K126 k127 => ?_
   refine V.run h124 [(2, .bs hB6_117 0 [.int .i64 now, .int .u64 dr, .int .i64 role, .slice Aa na ca])] 4 1 0 [(31, .agg #[.int .i64 0, .string ⟨#[]⟩, .slice none 0 0, .slice none 0 0, .slice none 0 0]), (32, .pointer (some ⟨sp, 0, none⟩)), (33, .agg #[.int .i64 now, .int .u64 dr, .int .i64 role, .slice Aa na ca]), (34, .string key)] fun a h128 => ?_
   refine V.cl h128 (Go.Proofs.enters_of Tryz.func32 (by kernel_rfl) rfl) (gone_any w113 _ sp _ D hX42_119.y0 now dr role Aa na ca key (by omega)) ?_
   rintro _ w138 ⟨vt129, S130, m131, rfl, ht132, hY133, hg134, hF135, hm136, hm136m⟩
   refine ⟨_, rfl, fun a h139 => ?_⟩
   have hsw138 := hF135.size
   have hP_140 := hP_116.trP hF135 (fun k hk => by rcases hk with (hk | hk) | hk | hk; exact .inl (hS1 k (.inl hk)); (have := hk.1; exact .inr (by omega)); exact .inl (hS1 k (.inr (.inl hk))); exact .inl (hS1 k (.inr (.inr hk))))
   have hB6_141 := hB6_117.frP hF135 (by exact fun hp => by have := hsep47 _ hp; omega)
   have hB14_142 := hB14_118.frP hF135 (by exact fun hp => by have := hsep47 _ hp; omega)
   have hB75_143 := hB75_123.frP hF135 (by exact fun hp => by have := hsep47 _ hp; omega)
   have hsep137 : ∀ k, S130 k → k < w.heap.size ∨ (w28.heap.size ≤ k ∧ k < w54.heap.size) ∨ w113.heap.size ≤ k := fun k hk => by rcases hg134 k hk with q | q; (rcases hsep47 k q with q | q; exact .inl q; exact .inr (.inl q)); exact .inr (.inr q)
   refine V.go (V.stn b12 0 (.agg #[.int .i64 0, .string ⟨#[]⟩, .slice none 0 0, .slice none 0 0, .slice none 0 0]) [.int .i64 0, .string ⟨#[]⟩, .slice none 0 0, .slice none 0 0, .slice none 0 0] h139.e h139.e rfl rfl (by kernel_rfl) hB14_142 (by simp) [.int .i64 0, .string ⟨#[]⟩, .slice none 0 0, .slice none 0 0, .slice none 0 0] rfl ?_)
   intro w144 hB145 hF146 hsw144
   have hP_147 := hP_140.tr1 hF146 (by first | exact .inl (by assumption) | exact .inr (by omega) | exact .inl (.inl rfl))
   have hB6_148 := hB6_141.fr1 hF146 (by omega)
   have hB75_149 := hB75_143.fr1 hF146 (by omega)
   have ht132_150 := ht132.frl hF146 (by intro k hk; simp only [List.mem_singleton] at hk; omega)
   have hY133_151 := hY133.frl hF146 (by intro k hk; simp only [List.mem_singleton] at hk; subst hk; intro hs; have := hsep137 _ hs; omega)
   refine V.re h139 [] 1 0 [(7, .bool false), (8, vt129)] fun a h152 => k127 _ _ ?_
   refine V.ret ?_
   refine V.then_r ?_
   refine V.retCTT h152.sd rfl _ (h152.e (v := (.pointer (some ⟨b12, 0, none⟩)))) (V.run_loadVar_agg (cs := [.int .i64 0, .string ⟨#[]⟩, .slice none 0 0, .slice none 0 0, .slice none 0 0]) (by kernel_rfl) (blk_cells hB145 0 _ rfl)) (h152.e (v := (.bool false))) (h152.e (v := (vt129))) ?_
   have hx0 := tbStep_n' T
   rcases hc41 with ⟨q1, q2, q3, q4⟩ | ⟨q1, q2, q3⟩
   · obtain ⟨e1, e2, e3, e4, e5⟩ := get_over (role := role) (now := now) (n := T.n) q2 ht125
     rw [e1, e2, e3, e4, e5]
     exact ⟨EnD.nil, none, 0, none, 0, none, 0, _, _, m131, rfl, rfl, hx0 ▸ hY133_151, fun k hk => by rcases hg134 k hk with q | q; (rcases q with (q | q) | q | q; exact .inl (hS1 k (.inl q)); (have := q.1; exact .inr (by omega)); exact .inl (hS1 k (.inr (.inl q))); exact .inl (hS1 k (.inr (.inr q)))); exact .inr (by omega), hP_147, hm136, by omega, OwR.nil .., OwR.nil .., OwR.nil .., Dis3.nil _, ht132_150⟩
   · rw [q1] at ht91; simp at ht91
  ·
   refine V.skip ?_
   refine V.then_n (k108 _ _ ?_)
   refine V.seq fun K153 k154 => ?_
   have hbk : x40.l.length ≤ 65536 ∧ x40.z.length ≤ 65536 ∧ x40.h.length ≤ 65536 := by rcases hc41 with ⟨q1, q2, q3, q4⟩ | ⟨q1, q2, q3⟩; exact ⟨(okD_bnd q3).2.1, (okD_bnd q3).2.2.1, (okD_bnd q3).2.2.2.1⟩; rw [q3]; exact ⟨by decide, by decide, by decide⟩
   refine V.rg ?_
   refine V.run h124 [(1, .bs hB75_123 0 [.int .i64 x40.k, .string x40.s, .slice A48 x40.l.length c49, .slice A50 x40.z.length c51, .slice A52 x40.h.length c53])] 2 36 36 [(37, .agg #[.int .i64 x40.k, .string x40.s, .slice A48 x40.l.length c49, .slice A50 x40.z.length c51, .slice A52 x40.h.length c53])] fun a h155 => ?_
   refine V.cl h155 (Go.Proofs.enters_of Tryz.func33 (by kernel_rfl) rfl) (copied_any w113 x40.k x40.s A48 c49 x40.l hS43_120.old A50 c51 x40.z hS44_121.old A52 c53 x40.h hS45_122.old (by omega) (by omega) (by omega)) ?_
   rintro _ w167 ⟨A156, c157, A158, c159, A160, c161, rfl, hO162, hO163, hO164, hd166, hF165⟩
   refine ⟨_, rfl, fun a h168 => ?_⟩
   have hsw167 := hF165.size
   have hB_169 := hB_115.fr0 hF165
   have hP_170 := hP_116.tr0 hF165
   have hB6_171 := hB6_117.fr0 hF165
   have hB14_172 := hB14_118.fr0 hF165
   have hX42_173 := hX42_119.fr0 hF165
   have hS43_174 := hS43_120.fr0 hF165
   have hS44_175 := hS44_121.fr0 hF165
   have hS45_176 := hS45_122.fr0 hF165
   have hB75_177 := hB75_123.fr0 hF165
   refine V.go (V.stn b12 0 (.agg #[.int .i64 x40.k, .string x40.s, .slice A156 x40.l.length c157, .slice A158 x40.z.length c159, .slice A160 x40.h.length c161]) [.int .i64 x40.k, .string x40.s, .slice A156 x40.l.length c157, .slice A158 x40.z.length c159, .slice A160 x40.h.length c161] h168.e h168.e rfl rfl (by kernel_rfl) hB14_172 (by simp) [.int .i64 x40.k, .string x40.s, .slice A156 x40.l.length c157, .slice A158 x40.z.length c159, .slice A160 x40.h.length c161] rfl ?_)
   intro w178 hB179 hF180 hsw178
   have hB_181 := hB_169.fr1 hF180 (by omega)
   have hP_182 := hP_170.tr1 hF180 (by first | exact .inl (by assumption) | exact .inr (by omega) | exact .inl (.inl rfl))
   have hB6_183 := hB6_171.fr1 hF180 (by omega)
   have hX42_184 := hX42_173.frl hF180 (by intro k hk; simp only [List.mem_singleton] at hk; subst hk; exact ⟨fun q => by have := hsep47 _ (.inl q); omega, fun q => by have := hsep47 _ (.inr (.inl q)); omega, fun q => by have := hsep47 _ (.inr (.inr q)); omega⟩)
   have hS43_185 := hS43_174.fr hF180 (by intro x hx hz; simp only [List.mem_singleton] at hx; subst hx; first | (have := (hq.hV _ hz).2; omega) | exact (hq.hV _ hz).1 (by simp))
   have hS44_186 := hS44_175.fr hF180 (by intro x hx hz; simp only [List.mem_singleton] at hx; subst hx; first | (have := (hq.hV _ hz).2; omega) | exact (hq.hV _ hz).1 (by simp))
   have hS45_187 := hS45_176.fr hF180 (by intro x hx hz; simp only [List.mem_singleton] at hx; subst hx; first | (have := (hq.hV _ hz).2; omega) | exact (hq.hV _ hz).1 (by simp))
   have hB75_188 := hB75_177.fr1 hF180 (by omega)
   have hO162_189 := hO162.frn hF180 (fun h => h) (by first | exact own_ne hO162 (by omega))
   have hO163_190 := hO163.frn hF180 (fun h => h) (by first | exact own_ne hO163 (by omega))
   have hO164_191 := hO164.frn hF180 (fun h => h) (by first | exact own_ne hO164 (by omega))
   refine V.re h168 [] 1 0 [(7, .bool true), (8, .slice none 0 0)] fun a h192 => k154 _ _ ?_
   refine V.ret ?_
   refine V.retCTT h192.sd rfl _ (h192.e (v := (.pointer (some ⟨b12, 0, none⟩)))) (V.run_loadVar_agg (cs := [.int .i64 x40.k, .string x40.s, .slice A156 x40.l.length c157, .slice A158 x40.z.length c159, .slice A160 x40.h.length c161]) (by kernel_rfl) (blk_cells hB179 0 _ rfl)) (h192.e (v := (.bool true))) (h192.e (v := (.slice none 0 0))) ?_
   have hx0 := tbStep_n' T
   rcases hc41 with ⟨q1, q2, q3, q4⟩ | ⟨q1, q2, q3⟩
   · obtain ⟨e1, e2, e3, e4, e5⟩ := get_seen (role := role) (now := now) (n := T.n) q2 (Decidable.of_not_not ht125)
     rw [e1, e2, e3, e4, e5]
     exact ⟨x40, _, _, _, _, _, _, _, _, w113.heap.size, rfl, rfl, hx0 ▸ hX42_184.y0, fun k hk => by rcases hk with (hk | hk) | hk | hk; exact .inl (hS1 k (.inl hk)); (have := hk.1; exact .inr (by omega)); exact .inl (hS1 k (.inr (.inl hk))); exact .inl (hS1 k (.inr (.inr hk))), hP_182, fun k hk => by have := hsep47 k hk; omega, by omega, hO162_189, hO163_190, hO164_191, hd166, .inl ⟨rfl, rfl⟩⟩
   · rw [q1] at ht91; simp at ht91
end Go.Proofs.YtjkegckfncfoaaaGreat
end
section
namespace Go.Proofs.YtjkegckfncfoaaaGreat
open Go.V Go.Base
open Go.RowKit (Below)
attribute [local irreducible] Act.put Act.eval
set_option linter.unusedVariables false
set_option linter.unusedSimpArgs false
theorem spnew_A (w : World) : Calls Tryz.prog 26 #[] w (fun e w' => ∃ sp, e = .returned (.pointer (some ⟨sp, 0, none⟩)) ∧ SpA w' w.heap.size [] [] sp 0 (fun _ => none) ∧ Fr [] w w') :=
  (spnew_any w).mono fun e w' ⟨sp, t, H, he, hB, hT, hH, hs, hF⟩ => by
    have hl := hB.lt
    refine ⟨sp, he, ⟨fun k => H k ∨ False ∨ k = sp, SpX.y0 (T := newT 0) (t := t) (Vb := fun _ => False) ⟨hB, hT, (newT_ok (by omega)).2, newT_wf 0, fun k hk => ⟨fun q => q, (hH k hk).2.2, (hH k hk).2.1⟩, fun k hk => hk.elim, fun k => .inl ⟨?_, rfl⟩, CntD.nil, by show (0 : Nat) ≤ 65536; omega⟩, fun k hk => ⟨?_, ?_⟩, ?_⟩, hF⟩
    · show va 0 (List.replicate 4 []) k ++ va 0 [] k = []
      rw [va_nil, va_nil0]; rfl
    · rcases hk with hk | hk | hk
      · exact (hH k hk).1
      · exact hk.elim
      · omega
    · intro q
      rcases q with q | ⟨v, hv, _⟩
      · simp at q
      · simp at hv
    · intro k q
      rcases q with q | ⟨v, hv, _⟩
      · simp at q
      · simp at hv
theorem img_no {x : EnD} (h : ¬ okD x) : imgN [x] = 90 := by
  refine imgN_no (by simp) fun hg => h (img_iff.1 (imgN_ok (by simp) hg))
section
variable (w : World) {base : Nat} {av : List Nat} {vs : List Value} {sp n : Nat} {D : ByteArray → Option EnD} (hA : SpA w base av vs sp n D)
include hA
theorem splen_A : Calls Tryz.prog 17 #[.pointer (some ⟨sp, 0, none⟩)] w (fun e w' => e = .returned (.int .i64 (n : Int)) ∧ Fr [] w w') := by
  obtain ⟨S, ⟨H, Vb, t, T, hq, rfl, _, _⟩, _, _⟩ := hA
  exact splen_any w H [] sp t T hq.hB hq.hT
theorem spput_A (key : ByteArray) (hkz : key.size ≤ 9223372036854775807) (k : Int) (s : ByteArray) (Al : Option Addr) (cl : Nat) (l : List ByteArray) (hSl : SlR Rp.str (fun k => k < w.heap.size) w (.slice Al l.length cl) l) (Az : Option Addr) (cz : Nat) (z : List (ByteArray × Int)) (hSz : SlR scR (fun k => k < w.heap.size) w (.slice Az z.length cz) z) (Ah : Option Addr) (ch : Nat) (h : List (ByteArray × ByteArray)) (hSh : SlR fdR (fun k => k < w.heap.size) w (.slice Ah h.length ch) h)  (hll : l.length ≤ 1099511627776) (hlz : z.length ≤ 1099511627776) (hlh : h.length ≤ 1099511627776) (hz : ∀ x ∈ z, x.1.size ≤ maxLen) (at' : Int) :
    Calls Tryz.prog 20 #[.pointer (some ⟨sp, 0, none⟩), .string key, .agg #[.int .i64 k, .string s, .slice Al l.length cl, .slice Az z.length cz, .slice Ah h.length ch], .int .i64 at'] w (fun e w' => e = .returned (.int .i64 (putE n D ⟨key, k, s, l, z, h, at'⟩)) ∧ SpA w' base av vs sp (putN n D ⟨key, k, s, l, z, h, at'⟩) (putD n D ⟨key, k, s, l, z, h, at'⟩) ∧ FrP (outS base av vs) w w') := by
  have hb := hA.base
  obtain ⟨S, hY, h1, h2⟩ := hA
  exact (spput_any w S sp n D hY key hkz k s Al cl l hSl Az cz z hSz Ah ch h hSh hll hlz hlh hz at').mono fun e w' ⟨he, S', hY', hg, hf⟩ => ⟨he, SpY.out0 h1 hb h2 hY' hg hf⟩
theorem spput_ok (key : ByteArray) (hkz : key.size ≤ 9223372036854775807) (k : Int) (s : ByteArray) (Al : Option Addr) (cl : Nat) (l : List ByteArray) (hSl : SlR Rp.str (fun k => k < w.heap.size) w (.slice Al l.length cl) l) (Az : Option Addr) (cz : Nat) (z : List (ByteArray × Int)) (hSz : SlR scR (fun k => k < w.heap.size) w (.slice Az z.length cz) z) (Ah : Option Addr) (ch : Nat) (h : List (ByteArray × ByteArray)) (hSh : SlR fdR (fun k => k < w.heap.size) w (.slice Ah h.length ch) h)  (hll : l.length ≤ 1099511627776) (hlz : z.length ≤ 1099511627776) (hlh : h.length ≤ 1099511627776) (hz : ∀ x ∈ z, x.1.size ≤ maxLen) (at' : Int) (hok : okD ⟨key, k, s, l, z, h, at'⟩) (hn : D key ≠ none ∨ n < 65536) {n' : Nat} (hn' : (if D key = none then n + 1 else n) = n') :
    Calls Tryz.prog 20 #[.pointer (some ⟨sp, 0, none⟩), .string key, .agg #[.int .i64 k, .string s, .slice Al l.length cl, .slice Az z.length cz, .slice Ah h.length ch], .int .i64 at'] w (fun e w' => e = .returned (.int .i64 0) ∧ SpA w' base av vs sp n' (updD D key (some ⟨key, k, s, l, z, h, at'⟩)) ∧ FrP (outS base av vs) w w') :=
  (spput_A w hA key hkz k s Al cl l hSl Az cz z hSz Ah ch h hSh hll hlz hlh hz at').mono fun e w' ⟨he, h1, h2⟩ => by
    obtain ⟨e1, e2, e3⟩ := put_yes (n := n) (D := D) (x := ⟨key, k, s, l, z, h, at'⟩) (img_iff.2 hok) hn
    rw [e1] at he
    rw [e2, e3] at h1
    subst hn'
    exact ⟨he, h1, h2⟩
theorem spput_no (key : ByteArray) (hkz : key.size ≤ 9223372036854775807) (k : Int) (s : ByteArray) (Al : Option Addr) (cl : Nat) (l : List ByteArray) (hSl : SlR Rp.str (fun k => k < w.heap.size) w (.slice Al l.length cl) l) (Az : Option Addr) (cz : Nat) (z : List (ByteArray × Int)) (hSz : SlR scR (fun k => k < w.heap.size) w (.slice Az z.length cz) z) (Ah : Option Addr) (ch : Nat) (h : List (ByteArray × ByteArray)) (hSh : SlR fdR (fun k => k < w.heap.size) w (.slice Ah h.length ch) h)  (hll : l.length ≤ 1099511627776) (hlz : z.length ≤ 1099511627776) (hlh : h.length ≤ 1099511627776) (hz : ∀ x ∈ z, x.1.size ≤ maxLen) (at' : Int) (hok : ¬ okD ⟨key, k, s, l, z, h, at'⟩) :
    Calls Tryz.prog 20 #[.pointer (some ⟨sp, 0, none⟩), .string key, .agg #[.int .i64 k, .string s, .slice Al l.length cl, .slice Az z.length cz, .slice Ah h.length ch], .int .i64 at'] w (fun e w' => e = .returned (.int .i64 90) ∧ SpA w' base av vs sp n D ∧ FrP (outS base av vs) w w') :=
  (spput_A w hA key hkz k s Al cl l hSl Az cz z hSz Ah ch h hSh hll hlz hlh hz at').mono fun e w' ⟨he, h1, h2⟩ => by
    obtain ⟨e1, e2, e3⟩ := put_no1 (n := n) (D := D) (x := ⟨key, k, s, l, z, h, at'⟩) fun h => hok (img_iff.1 h)
    rw [e1, img_no hok] at he
    rw [e2, e3] at h1
    exact ⟨he, h1, h2⟩
theorem splook_A (key : ByteArray) (hkz : key.size ≤ 9223372036854775807) {x : EnD} (hD : D key = some x) :
    Calls Tryz.prog 19 #[.pointer (some ⟨sp, 0, none⟩), .string key] w (fun e w' => ∃ Al cl Az cz Ah ch, e = .returned (.tuple #[.agg #[.string x.key, .int .i64 x.k, .string x.s, .slice Al x.l.length cl, .slice Az x.z.length cz, .slice Ah x.h.length ch, .int .i64 x.till], .bool true]) ∧ SpA w' base av (.slice Al x.l.length cl :: .slice Az x.z.length cz :: .slice Ah x.h.length ch :: vs) sp n D ∧ FrP (outS base av vs) w w' ∧ OwR Rp.str NoZ w' w.heap.size 9 (.slice Al x.l.length cl) x.l ∧ OwR scR NoZ w' w.heap.size 107 (.slice Az x.z.length cz) x.z ∧ OwR fdR NoZ w' w.heap.size 110 (.slice Ah x.h.length ch) x.h ∧ Dis3 (.slice Al x.l.length cl) (.slice Az x.z.length cz) (.slice Ah x.h.length ch)) := by
  have hb := hA.base
  obtain ⟨S, hY, h1, h2⟩ := hA
  refine (splook_any w S sp n D hY key hkz).mono fun e w' ⟨f, y, Al, cl, Az, cz, Ah, ch, S', m, he, hf, hY', hg, hP, hm, hwm, o1, o2, o3, hd⟩ => ?_
  rcases hf with ⟨rfl, e1, _, _⟩ | ⟨_, e1, _⟩
  · rw [hD] at e1
    obtain rfl := Option.some.inj e1
    have ho := SpY.out (us := [.slice Al x.l.length cl, .slice Az x.z.length cz, .slice Ah x.h.length ch]) h1 hb h2 hY' hg hP hm fun v hv b hb => by
      simp only [List.mem_cons, List.not_mem_nil, or_false] at hv
      rcases hv with rfl | rfl | rfl
      · exact o1.lt b hb
      · exact o2.lt b hb
      · exact o3.lt b hb
    exact ⟨Al, cl, Az, cz, Ah, ch, he, ho.1, ho.2, o1.rebase hwm, o2.rebase hwm, o3.rebase hwm, hd⟩
  · rw [hD] at e1; cases e1
theorem spget_A (now dr role : Int) (Aa : Option Addr) (na ca : Nat) (key : ByteArray) (hkz : key.size ≤ 9223372036854775807) {x : EnD} (hD : D key = some x) (hs : seenD role now x.till) :
    Calls Tryz.prog 10 #[.pointer (some ⟨sp, 0, none⟩), .agg #[.int .i64 now, .int .u64 dr, .int .i64 role, .slice Aa na ca], .string key] w (fun e w' => ∃ Al cl Az cz Ah ch, e = .returned (.tuple #[.agg #[.int .i64 x.k, .string x.s, .slice Al x.l.length cl, .slice Az x.z.length cz, .slice Ah x.h.length ch], .bool true, .slice none 0 0]) ∧ SpA w' base av (.slice Al x.l.length cl :: .slice Az x.z.length cz :: .slice Ah x.h.length ch :: vs) sp n D ∧ FrP (outS base av vs) w w' ∧ OwR Rp.str NoZ w' w.heap.size 9 (.slice Al x.l.length cl) x.l ∧ OwR scR NoZ w' w.heap.size 107 (.slice Az x.z.length cz) x.z ∧ OwR fdR NoZ w' w.heap.size 110 (.slice Ah x.h.length ch) x.h ∧ Dis3 (.slice Al x.l.length cl) (.slice Az x.z.length cz) (.slice Ah x.h.length ch)) := by
  have hb := hA.base
  obtain ⟨S, hY, h1, h2⟩ := hA
  refine (spget_any w S sp n D hY now dr role Aa na ca key hkz).mono fun e w' ⟨y, Al, cl, Az, cz, Ah, ch, vt, S', m, he, hy, hY', hg, hP, hm, hwm, o1, o2, o3, hd, ht⟩ => ?_
  obtain ⟨e1, e2, e3, e4, e5⟩ := get_seen (role := role) (now := now) (n := n) hD hs
  rw [e1] at he
  rw [e2] at hy
  rw [e3] at ht
  rw [e4, e5] at hY'
  subst hy
  rcases ht with ⟨_, rfl⟩ | ⟨_, _, _, _, hc, _⟩
  · have ho := SpY.out (us := [.slice Al y.l.length cl, .slice Az y.z.length cz, .slice Ah y.h.length ch]) h1 hb h2 hY' hg hP hm fun v hv b hb => by
      simp only [List.mem_cons, List.not_mem_nil, or_false] at hv
      rcases hv with rfl | rfl | rfl
      · exact o1.lt b hb
      · exact o2.lt b hb
      · exact o3.lt b hb
    exact ⟨Al, cl, Az, cz, Ah, ch, he, ho.1, ho.2, o1.rebase hwm, o2.rebase hwm, o3.rebase hwm, hd⟩
  · cases hc
theorem spover_A (now dr : Int) (Aa : Option Addr) (na ca : Nat) (key : ByteArray) (hkz : key.size ≤ 9223372036854775807) {x : EnD} (hD : D key = some x) (hs : ¬ seenD 1 now x.till) {n' : Nat} (hn' : n - 1 = n') :
    Calls Tryz.prog 10 #[.pointer (some ⟨sp, 0, none⟩), .agg #[.int .i64 now, .int .u64 dr, .int .i64 1, .slice Aa na ca], .string key] w (fun e w' => ∃ b1 b2 Al cl Az cz Ah ch, e = .returned (.tuple #[.agg #[.int .i64 0, .string ⟨#[]⟩, .slice Al 0 cl, .slice Az 0 cz, .slice Ah 0 ch], .bool false, .slice (some ⟨b2, 0, none⟩) 1 1]) ∧ SpA w' base av vs sp n' (updD D key none) ∧ FrP (outS base av vs) w w' ∧ Blk w' b1 [.string ⟨#[68, 69, 76]⟩, .string key] 9 ∧ Blk w' b2 [.slice (some ⟨b1, 0, none⟩) 2 2] 25) := by
  have hb := hA.base
  obtain ⟨S, hY, h1, h2⟩ := hA
  refine (spget_any w S sp n D hY now dr 1 Aa na ca key hkz).mono fun e w' ⟨y, Al, cl, Az, cz, Ah, ch, vt, S', m, he, hy, hY', hg, hP, hm, hwm, o1, o2, o3, hd, ht⟩ => ?_
  obtain ⟨e1, e2, e3, e4, e5⟩ := get_over (role := 1) (now := now) (n := n) hD hs
  rw [e1] at he
  rw [e2] at hy
  rw [e3] at ht
  rw [e4, e5] at hY'
  subst hy
  have hN : goneN 1 n D key = n' := by unfold goneN delN; rw [if_pos rfl, if_neg (by rw [hD]; simp)]; exact hn'
  have hG : goneD 1 D key = updD D key none := if_pos rfl
  rw [hN, hG] at hY'
  have ho := SpY.out0 h1 hb h2 hY' hg hP
  rcases ht with ⟨hc, _⟩ | ⟨b1, b2, u, v, hc, rfl, hB1, hB2, _, _⟩
  · simp [goneT] at hc
  · obtain ⟨rfl, rfl⟩ : u = delB ∧ v = key := by simp [goneT] at hc; exact ⟨hc.1.symm, hc.2.symm⟩
    exact ⟨b1, b2, Al, cl, Az, cz, Ah, ch, he, ho.1, ho.2, hB1, hB2⟩
end
end Go.Proofs.YtjkegckfncfoaaaGreat
end
section
namespace Go.Proofs.YtjkegckfncfoaaaGreat
open Go.V Go.Base
open Go.RowKit (Below)
attribute [local irreducible] Act.put Act.eval
set_option linter.unusedVariables false
set_option linter.unusedSimpArgs false
set_option maxHeartbeats 4000000 in
set_option maxRecDepth 20000 in
theorem awake_any (w : World)  : Calls Tryz.prog 7 #[] w (fun e w' => e = .returned (.bool true) ∧ Fr [] w w') := by
 have hP := FrP.refl (fun _ => False) w
 refine V.en 66 Tryz.func7 fun a h1 => ?_
 refine V.sr h1 [] 0 0 [] fun a h4 => ?_
 refine V.sg fun K5 k6 => ?_
 refine V.cl h4 (Go.Proofs.enters_of Tryz.func26 (by kernel_rfl) rfl) (spnew_A w) ?_
 rintro _ w10 ⟨sp7, rfl, hA8, hF9⟩
 refine ⟨_, rfl, fun a h11 => ?_⟩
 have hsw10 := hF9.size
 have hP_12 := hP.tr0 hF9
 refine V.re h11 [] 1 0 [(1, .pointer (some ⟨sp7, 0, none⟩))] fun a h13 => k6 _ _ ?_
 refine V.sg fun K14 k15 => ?_
 refine V.run h13 [] 2 1 0 [(10, .pointer (some ⟨sp7, 0, none⟩)), (11, .agg #[.int .i64 1, .string ⟨#[118]⟩, .slice none 0 0, .slice none 0 0, .slice none 0 0])] fun a h16 => ?_
 refine V.cl h16 (Go.Proofs.enters_of Tryz.func20 (by kernel_rfl) rfl) (spput_ok w10 hA8 ⟨#[107]⟩ (by first | omega | decide) 1 ⟨#[118]⟩ none 0 ([] : List ByteArray) (SlR.nil ..) none 0 ([] : List (ByteArray × Int)) (SlR.nil ..) none 0 ([] : List (ByteArray × ByteArray)) (SlR.nil ..) (by decide) (by decide) (by decide) (by simp) 5 (by refine ⟨by decide, by decide, ?_⟩; show okV 1 _ _ _ _; unfold okV; rw [if_pos rfl]; exact ⟨by decide, rfl, rfl, rfl⟩) (.inr (by decide)) (n' := 1) (rfl)) ?_
 rintro _ w19 ⟨rfl, hA17, hF18⟩
 refine ⟨_, rfl, fun a h20 => ?_⟩
 have hsw19 := hF18.size
 have hP_21 := hP_12.trP hF18 (fun k hk => .inr (by have := hk.1; omega))
 refine V.re h20 [] 1 0 [(2, .int .i64 0)] fun a h22 => k15 _ _ ?_
 refine V.sg fun K23 k24 => ?_
 refine V.run h22 [] 2 1 0 [(14, .pointer (some ⟨sp7, 0, none⟩)), (15, .agg #[.int .i64 4, .int .u64 0, .int .i64 1, .slice none 0 0])] fun a h25 => ?_
 refine V.cl h25 (Go.Proofs.enters_of Tryz.func10 (by kernel_rfl) rfl) (spget_A w19 hA17 4 0 1 none 0 0 ⟨#[107]⟩ (by first | omega | decide) (x := ⟨⟨#[107]⟩, 1, ⟨#[118]⟩, ([] : List ByteArray), ([] : List (ByteArray × Int)), ([] : List (ByteArray × ByteArray)), 5⟩) (updD_same ..) (by decide)) ?_
 rintro _ w38 ⟨A32, c33, A34, c35, A36, c37, rfl, hA26, hF27, hO28, hO29, hO30, hd31⟩
 refine ⟨_, rfl, fun a h39 => ?_⟩
 have hsw38 := hF27.size
 have hP_40 := hP_21.trP hF27 (fun k hk => .inr (by have := hk.1; omega))
 refine V.run h39 [] 4 13 13 [(17, .agg #[.int .i64 1, .string ⟨#[118]⟩, .slice A32 (([] : List ByteArray).length) c33, .slice A34 (([] : List (ByteArray × Int)).length) c35, .slice A36 (([] : List (ByteArray × ByteArray)).length) c37]), (18, .bool true), (19, .slice none 0 0)] fun a h45 => ?_
 refine V.go (V.mk [] trivial (by kernel_rfl) [.int .i64 0, .string ⟨#[]⟩, .slice none 0 0, .slice none 0 0, .slice none 0 0] 37 (fun b => .pointer (some ⟨b, 0, none⟩)) (by kernel_rfl) ?_)
 intro w42 b41 heb41 hB43 hF44 hsb41
 have hP_46 := hP_40.tr0 hF44
 have hA26_47 := hA26.alloc hF44 (b := b41) (by omega)
 have hO28_48 := hO28.fr0 hF44
 have hO29_49 := hO29.fr0 hF44
 have hO30_50 := hO30.fr0 hF44
 refine V.pt h45 fun a h51 => ?_
 refine V.go (V.stn b41 0 (.agg #[.int .i64 1, .string ⟨#[118]⟩, .slice A32 (([] : List ByteArray).length) c33, .slice A34 (([] : List (ByteArray × Int)).length) c35, .slice A36 (([] : List (ByteArray × ByteArray)).length) c37]) [.int .i64 1, .string ⟨#[118]⟩, .slice A32 (([] : List ByteArray).length) c33, .slice A34 (([] : List (ByteArray × Int)).length) c35, .slice A36 (([] : List (ByteArray × ByteArray)).length) c37] h51.e h51.e rfl rfl (by kernel_rfl) hB43 (by simp) [.int .i64 1, .string ⟨#[118]⟩, .slice A32 (([] : List ByteArray).length) c33, .slice A34 (([] : List (ByteArray × Int)).length) c35, .slice A36 (([] : List (ByteArray × ByteArray)).length) c37] rfl ?_)
 intro w52 hB53 hF54 hsw52
 have hP_55 := hP_46.tr1 hF54 (by first | exact .inl (by assumption) | exact .inr (by omega) | exact .inl (.inl rfl))
 have hA26_56 := hA26_47.frl hF54 (by intro k hk; simp only [List.mem_singleton] at hk; subst hk; exact .inl (.inl (by simp)))
 have hO28_57 := hO28_48.frn hF54 (fun h => h) (by first | exact own_ne hO28_48 (by omega) | exact own_ne2 hO28 (by omega))
 have hO29_58 := hO29_49.frn hF54 (fun h => h) (by first | exact own_ne hO29_49 (by omega) | exact own_ne2 hO29 (by omega))
 have hO30_59 := hO30_50.frn hF54 (fun h => h) (by first | exact own_ne hO30_50 (by omega) | exact own_ne2 hO30 (by omega))
 refine V.re h51 [] 5 5 [(4, .bool true)] fun a h60 => k24 _ _ ?_
 refine V.sg fun K61 k62 => ?_
 refine V.run h60 [] 2 1 0 [(21, .pointer (some ⟨sp7, 0, none⟩)), (22, .agg #[.int .i64 5, .int .u64 0, .int .i64 1, .slice none 0 0])] fun a h63 => ?_
 refine V.cl h63 (Go.Proofs.enters_of Tryz.func10 (by kernel_rfl) rfl) (spover_A w52 hA26_56 5 0 none 0 0 ⟨#[107]⟩ (by decide) (x := ⟨⟨#[107]⟩, 1, ⟨#[118]⟩, ([] : List ByteArray), ([] : List (ByteArray × Int)), ([] : List (ByteArray × ByteArray)), 5⟩) (updD_same ..) (by decide) (n' := 0) rfl) ?_
 rintro _ w76 ⟨b68, b69, A70, c71, A72, c73, A74, c75, rfl, hA64, hF65, hB66, hB67⟩
 refine ⟨_, rfl, fun a h77 => ?_⟩
 have hsw76 := hF65.size
 have hP_78 := hP_55.trP hF65 (fun k hk => .inr (by have := hk.1; omega))
 have hB53_79 := hB53.frP hF65 (by exact fun hp => hp.2 (.inl (by simp)))
 have hlhB66 := hB66.lt
 have hlhB67 := hB67.lt
 refine V.run h77 [] 4 20 20 [(24, .agg #[.int .i64 0, .string ⟨#[]⟩, .slice A70 0 c71, .slice A72 0 c73, .slice A74 0 c75]), (25, .bool false), (26, .slice (some ⟨b69, 0, none⟩) 1 1)] fun a h84 => ?_
 refine V.go (V.mk [] trivial (by kernel_rfl) [.int .i64 0, .string ⟨#[]⟩, .slice none 0 0, .slice none 0 0, .slice none 0 0] 37 (fun b => .pointer (some ⟨b, 0, none⟩)) (by kernel_rfl) ?_)
 intro w81 b80 heb80 hB82 hF83 hsb80
 have hP_85 := hP_78.tr0 hF83
 have hB53_86 := hB53_79.fr0 hF83
 have hA64_87 := hA64.alloc hF83 (b := b80) (by omega)
 have hB66_88 := hB66.fr0 hF83
 have hB67_89 := hB67.fr0 hF83
 refine V.pt h84 fun a h90 => ?_
 refine V.go (V.stn b80 0 (.agg #[.int .i64 0, .string ⟨#[]⟩, .slice A70 0 c71, .slice A72 0 c73, .slice A74 0 c75]) [.int .i64 0, .string ⟨#[]⟩, .slice A70 0 c71, .slice A72 0 c73, .slice A74 0 c75] h90.e h90.e rfl rfl (by kernel_rfl) hB82 (by simp) [.int .i64 0, .string ⟨#[]⟩, .slice A70 0 c71, .slice A72 0 c73, .slice A74 0 c75] rfl ?_)
 intro w91 hB92 hF93 hsw91
 have hP_94 := hP_85.tr1 hF93 (by first | exact .inl (by assumption) | exact .inr (by omega) | exact .inl (.inl rfl))
 have hB53_95 := hB53_86.fr1 hF93 (by omega)
 have hA64_96 := hA64_87.frl hF93 (by intro k hk; simp only [List.mem_singleton] at hk; subst hk; exact .inl (.inl (by simp)))
 have hB66_97 := hB66_88.fr1 hF93 (by omega)
 have hB67_98 := hB67_89.fr1 hF93 (by omega)
 refine V.re h90 [] 1 0 [(7, .bool false), (8, .slice (some ⟨b69, 0, none⟩) 1 1)] fun a h99 => k62 _ _ ?_
 refine V.sg fun K100 k101 => ?_
 refine V.run h99 [(1, .q (.bool true) (V.t_same 0)), (5, .b hB53_95 1), (0, .q (.bool true) (V.t_ssame ⟨#[118]⟩)), (8, .q (.bool true) (V.t_same 1)), (3, .ix b69 0 1 1 .i64 0 1 rfl), (0, .b hB67_98 0), (1, .q (.bool true) (V.t_same 2)), (3, .ix b69 0 1 1 .i64 0 1 rfl), (0, .b hB67_98 0), (0, .ix b68 0 2 2 .i64 1 1 rfl), (0, .b hB66_97 1), (0, .q (.bool true) (V.t_ssame ⟨#[107]⟩))] 36 27 60 [(61, .bool true), (62, .pointer (some ⟨sp7, 0, none⟩))] fun a h102 => ?_
 refine V.clg h102 (Go.Proofs.enters_of Tryz.func17 (by kernel_rfl) rfl) (splen_A w91 hA64_96) ?_
 rintro _ w104 ⟨rfl, hF103⟩
 refine ⟨_, rfl, fun a h105 => ?_⟩
 have hsw104 := hF103.size
 have hP_106 := hP_94.tr0 hF103
 have hB53_107 := hB53_95.fr0 hF103
 have hA64_108 := hA64_96.fr0 hF103
 have hB66_109 := hB66_97.fr0 hF103
 have hB67_110 := hB67_98.fr0 hF103
 have hB92_111 := hB92.fr0 hF103
 refine V.re h105 [(0, .q (.bool true) (V.t_same 0))] 64 65 [(0, .bool true)] fun a h112 => k101 _ _ ?_
 have h113 := h112.only [(0, .bool true)]
 refine V.ret ?_
 refine V.r1 h113 (.bool true) ?_
 exact ⟨rfl, hP_106.fr (fun k hk => hk.elim)⟩
end Go.Proofs.YtjkegckfncfoaaaGreat
end
section
namespace Go.Proofs
open Go.Shelf
def Tryz.lays190_ren : Go.Shelf.Ren := ⟨fun | 190 => 69 | 125 => 75 | 258 => 98 | 128 => 110 | 129 => 111 | 302 => 126 | 303 => 127 | 304 => 128 | 305 => 129 | 306 => 130 | 307 => 131 | 308 => 132 | 309 => 133 | 310 => 134 | 333 => 154 | 329 => 137 | 330 => 138 | 334 => 155 | 335 => 156 | 336 => 76 | 344 => 165 | n => n, fun | 31 => 25 | 9 => 9 | 3 => 3 | 46 => 127 | 0 => 0 | 51 => 154 | 53 => 23 | 4 => 4 | 183 => 147 | 182 => 146 | 131 => 151 | 5 => 5 | 218 => 173 | 222 => 177 | 228 => 188 | 229 => 189 | n => n, fun | n => n⟩
theorem Tryz.lays190 : Go.Proofs.Lays.n190 Tryz.prog Tryz.lays190_ren := {
  mixed := by kernel_rfl
  f125 := Tryz.func75.trans (congrArg some (by kernel_rfl))
  f128 := Tryz.func110.trans (congrArg some (by kernel_rfl))
  f129 := Tryz.func111.trans (congrArg some (by kernel_rfl))
  f190 := Tryz.func69.trans (congrArg some (by kernel_rfl))
  f258 := Tryz.func98.trans (congrArg some (by kernel_rfl))
  f302 := Tryz.func126.trans (congrArg some (by kernel_rfl))
  f303 := Tryz.func127.trans (congrArg some (by kernel_rfl))
  f304 := Tryz.func128.trans (congrArg some (by kernel_rfl))
  f305 := Tryz.func129.trans (congrArg some (by kernel_rfl))
  f306 := Tryz.func130.trans (congrArg some (by kernel_rfl))
  f307 := Tryz.func131.trans (congrArg some (by kernel_rfl))
  f308 := Tryz.func132.trans (congrArg some (by kernel_rfl))
  f309 := Tryz.func133.trans (congrArg some (by kernel_rfl))
  f310 := Tryz.func134.trans (congrArg some (by kernel_rfl))
  f329 := Tryz.func137.trans (congrArg some (by kernel_rfl))
  f330 := Tryz.func138.trans (congrArg some (by kernel_rfl))
  f333 := Tryz.func154.trans (congrArg some (by kernel_rfl))
  f334 := Tryz.func155.trans (congrArg some (by kernel_rfl))
  f335 := Tryz.func156.trans (congrArg some (by kernel_rfl))
  f336 := Tryz.func76.trans (congrArg some (by kernel_rfl))
  f344 := Tryz.func165.trans (congrArg some (by kernel_rfl))
  t0 := Tryz.underlying0
  a0 := Tryz.isAgg0
  z0 := Tryz.sizeOf0
  v0 := Tryz.zeroValue0
  t3 := Tryz.underlying3
  a3 := Tryz.isAgg3
  z3 := Tryz.sizeOf3
  v3 := Tryz.zeroValue3
  t4 := Tryz.underlying4
  a4 := Tryz.isAgg4
  z4 := Tryz.sizeOf4
  v4 := Tryz.zeroValue4
  t5 := Tryz.underlying5
  a5 := Tryz.isAgg5
  z5 := Tryz.sizeOf5
  v5 := Tryz.zeroValue5
  t9 := Tryz.underlying9
  a9 := Tryz.isAgg9
  z9 := Tryz.sizeOf9
  v9 := Tryz.zeroValue9
  t31 := Tryz.underlying25
  a31 := Tryz.isAgg25
  z31 := Tryz.sizeOf25
  v31 := Tryz.zeroValue25
  t46 := Tryz.underlying127
  a46 := Tryz.isAgg127
  z46 := Tryz.sizeOf127
  v46 := Tryz.zeroValue127
  t51 := Tryz.underlying154
  a51 := Tryz.isAgg154
  z51 := Tryz.sizeOf154
  v51 := Tryz.zeroValue154
  t53 := Tryz.underlying23
  a53 := Tryz.isAgg23
  z53 := Tryz.sizeOf23
  v53 := Tryz.zeroValue23
  t131 := Tryz.underlying151
  a131 := Tryz.isAgg151
  z131 := Tryz.sizeOf151
  v131 := Tryz.zeroValue151
  t182 := Tryz.underlying146
  a182 := Tryz.isAgg146
  z182 := Tryz.sizeOf146
  v182 := Tryz.zeroValue146
  t183 := Tryz.underlying147
  a183 := Tryz.isAgg147
  z183 := Tryz.sizeOf147
  v183 := Tryz.zeroValue147
  t218 := Tryz.underlying173
  a218 := Tryz.isAgg173
  z218 := Tryz.sizeOf173
  v218 := Tryz.zeroValue173
  t222 := Tryz.underlying177
  a222 := Tryz.isAgg177
  z222 := Tryz.sizeOf177
  v222 := Tryz.zeroValue177
  t228 := Tryz.underlying188
  a228 := Tryz.isAgg188
  z228 := Tryz.sizeOf188
  v228 := Tryz.zeroValue188
  t229 := Tryz.underlying189
  a229 := Tryz.isAgg189
  z229 := Tryz.sizeOf189
  v229 := Tryz.zeroValue189 }
open Go.Sort Go.RowKit in
theorem Tryz.slices_Sort_string (blk off cap : Nat) (ss : List (List UInt8)) (w : World) (hH : Holds encStr w blk off ss.toArray) (hblk : blk < w.heap.size) (hsz : ss.length < 4611686018427387904) :
    Calls Tryz.prog 69 #[.slice (some ⟨blk, off, none⟩) ss.length cap] w fun e w' =>
      e = .returned (.tuple #[]) ∧ ∃ n os, w' = grow (putRow encStr (Sort.ahead w n) blk off (ss.mergeSort fun x y => decide (x ≤ y)).toArray) os := Any.slices_Sort_string Tryz.lays190 blk off cap ss w hH hblk hsz
theorem Tryz.slices_Sort_string_none (p : Option Addr) (cap : Nat) (w : World) :
    Calls Tryz.prog 69 #[.slice p 0 cap] w fun e w' => e = .returned (.tuple #[]) ∧ w' = w := Any.slices_Sort_string_none Tryz.lays190 p cap w
def Tryz.laysSlF06_f42_ren : Go.Shelf.Ren := ⟨fun | 6 => 42 | 15 => 75 | 14 => 74 | 28 => 110 | 29 => 111 | 20 => 102 | 21 => 103 | 22 => 104 | 23 => 105 | 24 => 106 | 25 => 107 | 26 => 108 | 27 => 109 | 46 => 136 | 47 => 137 | 48 => 138 | 49 => 139 | 50 => 140 | 57 => 157 | n => n, fun | 22 => 22 | 24 => 39 | 25 => 95 | 3 => 3 | 39 => 127 | 0 => 0 | 53 => 154 | 55 => 23 | 4 => 4 | 46 => 147 | 45 => 146 | 50 => 151 | 5 => 5 | 9 => 9 | 66 => 173 | 70 => 177 | 76 => 188 | 77 => 189 | n => n, fun | n => n⟩
theorem Tryz.laysSlF06_f42 : Go.Proofs.SlLaysF0.n6 Tryz.prog Tryz.laysSlF06_f42_ren := {
  mixed := by kernel_rfl
  f6 := ⟨Tryz.f42.name, by decide, Tryz.func42.trans (congrArg some (by kernel_rfl))⟩
  f14 := ⟨Tryz.f74.name, by decide, Tryz.func74.trans (congrArg some (by kernel_rfl))⟩
  f15 := Tryz.func75.trans (congrArg some (by kernel_rfl))
  f20 := ⟨Tryz.f102.name, by decide, Tryz.func102.trans (congrArg some (by kernel_rfl))⟩
  f21 := ⟨Tryz.f103.name, by decide, Tryz.func103.trans (congrArg some (by kernel_rfl))⟩
  f22 := ⟨Tryz.f104.name, by decide, Tryz.func104.trans (congrArg some (by kernel_rfl))⟩
  f23 := ⟨Tryz.f105.name, by decide, Tryz.func105.trans (congrArg some (by kernel_rfl))⟩
  f24 := ⟨Tryz.f106.name, by decide, Tryz.func106.trans (congrArg some (by kernel_rfl))⟩
  f25 := ⟨Tryz.f107.name, by decide, Tryz.func107.trans (congrArg some (by kernel_rfl))⟩
  f26 := ⟨Tryz.f108.name, by decide, Tryz.func108.trans (congrArg some (by kernel_rfl))⟩
  f27 := ⟨Tryz.f109.name, by decide, Tryz.func109.trans (congrArg some (by kernel_rfl))⟩
  f28 := Tryz.func110.trans (congrArg some (by kernel_rfl))
  f29 := Tryz.func111.trans (congrArg some (by kernel_rfl))
  f46 := ⟨Tryz.f136.name, by decide, Tryz.func136.trans (congrArg some (by kernel_rfl))⟩
  f47 := Tryz.func137.trans (congrArg some (by kernel_rfl))
  f48 := Tryz.func138.trans (congrArg some (by kernel_rfl))
  f49 := ⟨Tryz.f139.name, by decide, Tryz.func139.trans (congrArg some (by kernel_rfl))⟩
  f50 := ⟨Tryz.f140.name, by decide, Tryz.func140.trans (congrArg some (by kernel_rfl))⟩
  f57 := ⟨Tryz.f157.name, by decide, Tryz.func157.trans (congrArg some (by kernel_rfl))⟩
  t0 := Tryz.underlying0
  a0 := Tryz.isAgg0
  z0 := Tryz.sizeOf0
  v0 := Tryz.zeroValue0
  t3 := Tryz.underlying3
  a3 := Tryz.isAgg3
  z3 := Tryz.sizeOf3
  v3 := Tryz.zeroValue3
  t4 := Tryz.underlying4
  a4 := Tryz.isAgg4
  z4 := Tryz.sizeOf4
  v4 := Tryz.zeroValue4
  t5 := Tryz.underlying5
  a5 := Tryz.isAgg5
  z5 := Tryz.sizeOf5
  v5 := Tryz.zeroValue5
  t9 := Tryz.underlying9
  a9 := Tryz.isAgg9
  z9 := Tryz.sizeOf9
  v9 := Tryz.zeroValue9
  t22 := Tryz.underlying22
  a22 := Tryz.isAgg22
  z22 := Tryz.sizeOf22
  v22 := Tryz.zeroValue22
  t25 := Tryz.underlying95
  a25 := Tryz.isAgg95
  z25 := Tryz.sizeOf95
  v25 := Tryz.zeroValue95
  t39 := Tryz.underlying127
  a39 := Tryz.isAgg127
  z39 := Tryz.sizeOf127
  v39 := Tryz.zeroValue127
  t45 := Tryz.underlying146
  a45 := Tryz.isAgg146
  z45 := Tryz.sizeOf146
  v45 := Tryz.zeroValue146
  t46 := Tryz.underlying147
  a46 := Tryz.isAgg147
  z46 := Tryz.sizeOf147
  v46 := Tryz.zeroValue147
  t50 := Tryz.underlying151
  a50 := Tryz.isAgg151
  z50 := Tryz.sizeOf151
  v50 := Tryz.zeroValue151
  t53 := Tryz.underlying154
  a53 := Tryz.isAgg154
  z53 := Tryz.sizeOf154
  v53 := Tryz.zeroValue154
  t55 := Tryz.underlying23
  a55 := Tryz.isAgg23
  z55 := Tryz.sizeOf23
  v55 := Tryz.zeroValue23
  t66 := Tryz.underlying173
  a66 := Tryz.isAgg173
  z66 := Tryz.sizeOf173
  v66 := Tryz.zeroValue173
  t70 := Tryz.underlying177
  a70 := Tryz.isAgg177
  z70 := Tryz.sizeOf177
  v70 := Tryz.zeroValue177
  t76 := Tryz.underlying188
  a76 := Tryz.isAgg188
  z76 := Tryz.sizeOf188
  v76 := Tryz.zeroValue188
  t77 := Tryz.underlying189
  a77 := Tryz.isAgg189
  z77 := Tryz.sizeOf189
  v77 := Tryz.zeroValue189 }
end Go.Proofs
end
section
namespace Go.Proofs.YtjkegckfncfoaaaGreat
open Go.V Go.Base
open Go.RowKit (Below)
attribute [local irreducible] Act.put Act.eval
set_option linter.unusedVariables false
set_option linter.unusedSimpArgs false
open Go.RowKit Go.Sort
section
variable {w : World} {base g c : Nat} {l : List ByteArray}
theorem holds_own (h : OwR Rp.str NoZ w base 9 (.slice (some ⟨g, 0, none⟩) l.length c) l) : Holds encStr w g 0 (l.map toL).toArray := by
  obtain ⟨cur, hB, hcl, hn, hnc, hcm, hg, htk⟩ := h.openS
  intro j hj
  have hj' : j < l.length := by simpa using hj
  refine ⟨?_, hB.frozen _⟩
  rw [Nat.zero_add, hB.cell]
  have h1 : (cur.take l.length)[j]? = (l.map Value.string)[j]? := by rw [htk]
  rw [List.getElem?_take_of_lt hj'] at h1
  rw [h1, List.getElem?_map, List.getElem?_eq_getElem hj', getElem!_pos _ j hj]
  simp
theorem put_own (h : OwR Rp.str NoZ w base 9 (.slice (some ⟨g, 0, none⟩) l.length c) l) (n : Nat) (d : List (List UInt8)) (hd : d.length = l.length) (os : Array Obj) (l' : List ByteArray) (m : Nat) (hm : m ≤ d.length) (hl' : l'.map toL = d.take m) :
    OwR Rp.str NoZ (grow (putRow encStr (Sort.ahead w n) g 0 d.toArray) os) base 9 (.slice (some ⟨g, 0, none⟩) l'.length c) l' ∧ Fr [g] w (grow (putRow encStr (Sort.ahead w n) g 0 d.toArray) os) := by
  obtain ⟨cur, hB, hcl, hn, hnc, hcm, hg, htk⟩ := h.openS
  have hlt := hB.lt
  have hlen' : l'.length = m := by
    have := congrArg List.length hl'
    rw [List.length_map, List.length_take] at this
    omega
  have hblk : (grow (putRow encStr (Sort.ahead w n) g 0 d.toArray) os).heap[g]? = some (.cells (putCells encStr 0 d.toArray cur.toArray) 9 (0, 0)) := by
    rw [heap_grow_old _ _ (by simp [putRow, mapBlock]; exact hlt)]
    simp only [putRow, mapBlock, Sort.ahead, Array.getElem?_modify, if_true]
    have : w.heap[g]? = some (.cells cur.toArray 9 (0, 0)) := hB
    rw [this]
    rfl
  refine ⟨OwR.mkS (cur := (putCells encStr 0 d.toArray cur.toArray).toList) (by unfold Blk; rw [hblk]) (by simp [putCells, hcl]) (by omega) hcm hg ?_, ?_⟩
  · apply List.ext_getElem?
    intro j
    rw [List.getElem?_take]
    split
    · rename_i hj
      have hjd : j < d.length := by omega
      have hjc : j < cur.length := by omega
      have hdj : d[j] = toL l'[j] := by
        have h3 : (d.take m)[j]? = (l'.map toL)[j]? := by rw [hl']
        rw [List.getElem?_take_of_lt (by omega), List.getElem?_map, List.getElem?_eq_getElem hjd, List.getElem?_eq_getElem hj] at h3
        injection h3
      have hd0 : d.toArray[j - 0]! = d[j] := by rw [Nat.sub_zero, getElem!_pos _ j (by simpa using hjd)]; simp
      simp only [putCells, Array.getElem?_toList, Array.getElem?_mapIdx, List.getElem?_toArray, List.getElem?_map, List.getElem?_eq_getElem hj, List.getElem?_eq_getElem hjc, Option.map_some]
      rw [if_pos ⟨Nat.zero_le _, by simpa using hjd⟩, hd0, hdj]
    · rename_i hj
      rw [List.getElem?_eq_none (by simp; omega)]
  · refine ⟨rfl, rfl, rfl, ?_, fun k hk hne => ?_⟩
    · simp [putRow, mapBlock, Sort.ahead]
    · rw [heap_grow_old _ _ (by simp [putRow, mapBlock, Sort.ahead]; exact hk)]
      simp only [putRow, mapBlock, Sort.ahead, Array.getElem?_modify]
      rw [if_neg (fun e => hne (by simp [e]))]
theorem sort_any (h : OwR Rp.str NoZ w base 9 (.slice (some ⟨g, 0, none⟩) l.length c) l) (hl : l.length ≤ 1099511627776) :
    Calls Tryz.prog 69 #[.slice (some ⟨g, 0, none⟩) l.length c] w (fun e w' => e = .returned (.tuple #[]) ∧ OwR Rp.str NoZ w' base 9 (.slice (some ⟨g, 0, none⟩) l.length c) ((sortS l).map ofL) ∧ Fr [g] w w') := by
  obtain ⟨cur, hB, _⟩ := h.openS
  have hc := Tryz.slices_Sort_string g 0 c (l.map toL) w (holds_own h) hB.lt (by rw [List.length_map]; omega)
  rw [List.length_map] at hc
  refine hc.mono ?_
  rintro e w' ⟨rfl, n, os, rfl⟩
  have hq := put_own h n (sortS l) (sort_len l) os ((sortS l).map ofL) (sortS l).length (Nat.le_refl _) (by rw [List.map_map, List.take_of_length_le (Nat.le_refl _)]; simp [Function.comp_def])
  rw [List.length_map, sort_len] at hq
  exact ⟨rfl, hq⟩
theorem sort_none (p : Option Addr) (c n : Nat) (hn : n = 0) : Calls Tryz.prog 69 #[.slice p n c] w (fun e w' => e = .returned (.tuple #[]) ∧ Fr [] w w') := by
  subst hn
  refine (Tryz.slices_Sort_string_none p c w).mono ?_
  rintro e w' ⟨rfl, rfl⟩
  exact ⟨rfl, Fr.refl _ _⟩
end
end Go.Proofs.YtjkegckfncfoaaaGreat
end
section
namespace Go.V
open Go.Plan (wpL)
open Go.RowKit Go.Base
set_option linter.unusedVariables false
set_option linter.unusedSimpArgs false
section
variable {P : Program} {ro : Option Nat} {Q : Exit → Act → World → Prop} {a : Act} {w : World} {ops : Array Oper} {rest : List Oper} {d : Option Tmp} {ty : TypeId} {pos : String} {aft : Array Edge} {g : Option (Nat × Bool)}
/-- append(nothing, make(n)...). -/
theorem appZ {α : Type} {R : Rp α} {t tn e : TypeId} {s x : Operand} {z : Value} {bytes n : Nat} {k kn : IntKind} (hs : a.eval s = .slice none 0 0) (hx : a.eval x = .int k (n : Int)) (ht : P.underlying t = some (.slice e)) (htn : P.underlying tn = some (.int kn))
    (hinfo : (P.info? e).map (fun i => (i.zero, i.size, i.bytes)) = some (some z, R.sz, bytes)) (hzs : z.cells.size = R.sz) (hsz : 0 < R.sz) (h0 : 0 < n) (hb0 : 0 < bytes) (hb : n * bytes ≤ 140737488355328)
    (kk : ∀ g' c w1, OwR R NoZ w1 w.heap.size e (.slice (some ⟨g', 0, none⟩) 0 c) [] → Fr [] w w1 → L ro P ops Q rest (a.put d (.slice (some ⟨g', 0, none⟩) n c)) w1) : St ro P ops Q rest ⟨d, .call ⟨.builtin .append, #[s, x], #[t, tn]⟩, ty, pos, aft, g⟩ a w := by
  obtain ⟨i, hi, hzz⟩ := Option.map_eq_some_iff.1 hinfo
  simp only [Prod.mk.injEq] at hzz
  obtain ⟨hz0, hz1, hz2⟩ := hzz
  have hle : n ≤ 140737488355328 := Nat.le_trans (Nat.le_mul_of_pos_right _ hb0) hb
  have hr := Lib.run_append_nil_zeros (P := P) w t tn ty e i z k kn ht htn hi hz0 n h0 (by omega) (by omega) (by rw [hz2]; omega)
  have hcap := grownCap_ge w n 0 e
  have hmax := grownCap_le_maxLen w n 0 e (by unfold maxLen; omega)
  generalize grownCap w n 0 e = c at hr hcap hmax
  generalize hZ : Builtin.zeroCells z.cells n ++ Builtin.zeroCells z.cells (c - n) = Z at hr
  have hZs : Z.size = c * R.sz := by
    rw [← hZ]; simp only [Array.size_append, size_zeroCells, hzs]; rw [← Nat.add_mul]; congr 1; omega
  have hrun : (execOp a.eval ⟨d, .call ⟨.builtin .append, #[s, x], #[t, tn]⟩, ty, pos, aft, g⟩).run P w = .ok (.value (.slice (some ⟨w.heap.size, 0, none⟩) n c)) (w.drew.alloc (.cells Z e)) := by
    simp only [execOp, resolve, invoke, builtin, Sem.run_bind, Sem.run_pure, Result.andThen_ok, List.map_toArray, List.map_cons, List.map_nil, hs, hx, hr]
  have hf : Fr [] w (w.drew.alloc (.cells Z e)) := (Fr.drew [] w).new (Fr.alloc [] _ _)
  refine St.val hrun (kk _ c _ ⟨[], ⟨by simp, .inr ⟨w.heap.size, c, Z, rfl, Nat.le_refl _, ?_, Nat.zero_le _, hmax, hZs, by simp⟩⟩, rfl, fun b hb hz => hz⟩ hf)
  exact World.alloc_heap_new w.drew _
end
end Go.V
end
