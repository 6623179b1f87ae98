/- Walks: alive. -/
import Derived.Test.YtalhmegjomfbaaaProg
import Derived.Test.YtalhmegjomfbaaaTf
namespace Go.Proofs.Ytalhmegjomfbaaa
open Go.V Go.Base
open Go.RowKit (Below)
attribute [local irreducible] Act.put Act.eval
set_option linter.unusedVariables false
set_option linter.unusedSimpArgs false
def al0 : Tb Int := newT 7
def al1 : Tb Int := putT al0 ⟨#[97]⟩ 0
def al2 : Tb Int := putT al1 ⟨#[98]⟩ 1
def al3 : Tb Int := putT al2 ⟨#[99]⟩ 2
def al4 : Tb Int := putT al3 ⟨#[100]⟩ 3
def al5 : Tb Int := putT al4 ⟨#[101]⟩ 4
def al6 : Tb Int := delT al5 ⟨#[97]⟩
theorem aln0 : al0.n < 1099511627776 := by decide +kernel
theorem aln1 : al1.n < 1099511627776 := by decide +kernel
theorem aln2 : al2.n < 1099511627776 := by decide +kernel
theorem aln3 : al3.n < 1099511627776 := by decide +kernel
theorem aln4 : al4.n < 1099511627776 := by decide +kernel
theorem alm0 : al0.Ok ∧ al0.Mv := newT_ok (by decide)
theorem alm1 : al1.Ok ∧ al1.Mv := putT_ok alm0.1 alm0.2 aln0 _ (by decide) _
theorem alm2 : al2.Ok ∧ al2.Mv := putT_ok alm1.1 alm1.2 aln1 _ (by decide) _
theorem alm3 : al3.Ok ∧ al3.Mv := putT_ok alm2.1 alm2.2 aln2 _ (by decide) _
theorem alm4 : al4.Ok ∧ al4.Mv := putT_ok alm3.1 alm3.2 aln3 _ (by decide) _
theorem alm5 : al5.Ok ∧ al5.Mv := putT_ok alm4.1 alm4.2 aln4 _ (by decide) _
theorem al5_a : al5.a.length = 4 := by decide +kernel
theorem al5_b : al5.b.length = 8 := by decide +kernel
theorem al5_m : al5.moved = 0 := by decide +kernel
theorem al5_l : lookT 0 al5 ⟨#[99]⟩ = (2, true) := by decide +kernel
theorem al5_n : al5.n = 5 := by decide +kernel
theorem al5_f : (findT (tbStep al5) ⟨#[97]⟩).2 = true := by decide +kernel
theorem al6_n : al6.n = 4 := by decide +kernel
set_option maxHeartbeats 4000000 in
set_option maxRecDepth 20000 in
theorem alive_any (w : World)  : Calls Try.prog 13 #[] w (fun e w' => e = .returned (.bool true) ∧ Fr [] w w') := by
 have hF := Fr.refl [] w
 refine V.en 66 Try.func13 fun a h1 => ?_
 refine V.sr h1 [] 0 0 [] fun a h4 => ?_
 refine V.sg fun K5 k6 => ?_
 refine V.cl h4 (Go.Proofs.enters_of Try.func14 (by kernel_rfl) rfl) (new_any w [] (by simp) 7 (by omega)) ?_
 rintro _ w10 ⟨t7, rfl, hT8, hF9⟩
 refine ⟨_, rfl, fun a h11 => ?_⟩
 have hsw10 := hF9.size
 have hF_12 := hF.new hF9
 refine V.re h11 [] 1 0 [(1, .pointer (some ⟨t7, 0, none⟩))] fun a h13 => k6 _ _ ?_
 refine V.seq fun K14 k15 => ?_
 refine V.sr h13 [] 10 10 [(11, .bool false)] fun a h18 => ?_
 refine V.cf h18 ?_
 refine V.skip ?_
 refine V.then_n (k15 _ _ ?_)
 refine V.seq fun K19 k20 => ?_
 refine V.sg fun K21 k22 => ?_
 refine V.go (V.mk [] trivial (by kernel_rfl) [.string ⟨#[97]⟩, .string ⟨#[98]⟩, .string ⟨#[99]⟩, .string ⟨#[100]⟩, .string ⟨#[101]⟩] 9 (fun b => .slice (some ⟨b, 0, none⟩) 5 5) (by kernel_rfl) ?_)
 intro w24 b23 heb23 hB25 hF26 hsb23
 have hF_27 := hF_12.new hF26
 have hT8_28 := hT8.alloc hF26 heb23 (by omega)
 refine V.pt h18 fun a h29 => ?_
 refine V.re h29 [] 1 0 [(13, .int .i64 5), (14, .int .i64 0)] fun a h30 => k22 _ _ ?_
 refine V.block ?_
 refine V.loopR 6 ?_
 refine V.rnd ?_
 refine V.sr h30 [] 1 0 [(15, .bool true)] fun a h33 => ?_
 refine V.seq fun K34 k35 => ?_
 refine V.ct h33 ?_
 refine V.skip ?_
 refine V.then_n (k35 _ _ ?_)
 refine V.seq fun K36 k37 => ?_
 refine V.block ?_
 refine V.sr h33 [(1, .ix b23 0 5 5 .i64 0 1 rfl), (0, .b hB25 0)] 16 18 [(2, .int .i64 0), (3, .string ⟨#[97]⟩)] fun a h40 => ?_
 refine V.rg ?_
 refine V.run h40 [] 3 1 0 [(19, .pointer (some ⟨t7, 0, none⟩)), (20, .string ⟨#[97]⟩), (21, .int .i64 0)] fun a h41 => ?_
 refine V.cl h41 (Go.Proofs.enters_of Try.func38 (by kernel_rfl) rfl) (put_any w24 (gr (fun _ => False) w w10) (b23 :: []) t7 al0 hT8_28 alm0.2 ⟨#[97]⟩ (by decide) 0 (by omega) aln0) ?_
 rintro _ w44 ⟨rfl, hT42, hfp43⟩
 refine ⟨_, rfl, fun a h45 => ?_⟩
 have hsw44 := hfp43.size
 have hF_46 := hF_27.trP hfp43 (fun k hk => .inr (hk.1.elim (fun q => q.elim) (fun q => by have := q.1; omega)))
 have hB25_47 := hB25.frP hfp43 (by exact fun hp => hp.2 (by simp))
 have hT42q : TabX 67 87 86 itI w44 (gr (fun _ => False) w w44) (b23 :: []) t7 al1 := hT42.gr4 (by omega)
 refine V.nil ?_
 refine V.blk_n ?_
 refine V.then_n (k37 _ _ ?_)
 refine V.rr h45 [] 23 23 [(14, .int .i64 1)] fun a h48 => ?_
 refine V.then_n ?_
 refine V.rnd ?_
 refine V.sr h48 [] 1 0 [(15, .bool true)] fun a h51 => ?_
 refine V.seq fun K52 k53 => ?_
 refine V.ct h51 ?_
 refine V.skip ?_
 refine V.then_n (k53 _ _ ?_)
 refine V.seq fun K54 k55 => ?_
 refine V.block ?_
 refine V.sr h51 [(1, .ix b23 0 5 5 .i64 1 1 rfl), (0, .b hB25_47 1)] 16 18 [(2, .int .i64 1), (3, .string ⟨#[98]⟩)] fun a h58 => ?_
 refine V.rg ?_
 refine V.run h58 [] 3 1 0 [(19, .pointer (some ⟨t7, 0, none⟩)), (20, .string ⟨#[98]⟩), (21, .int .i64 1)] fun a h59 => ?_
 refine V.cl h59 (Go.Proofs.enters_of Try.func38 (by kernel_rfl) rfl) (put_any w44 (gr (fun _ => False) w w44) (b23 :: []) t7 al1 hT42q alm1.2 ⟨#[98]⟩ (by decide) 1 (by omega) aln1) ?_
 rintro _ w62 ⟨rfl, hT60, hfp61⟩
 refine ⟨_, rfl, fun a h63 => ?_⟩
 have hsw62 := hfp61.size
 have hF_64 := hF_46.trP hfp61 (fun k hk => .inr (hk.1.elim (fun q => q.elim) (fun q => by have := q.1; omega)))
 have hB25_65 := hB25_47.frP hfp61 (by exact fun hp => hp.2 (by simp))
 have hT60q : TabX 67 87 86 itI w62 (gr (fun _ => False) w w62) (b23 :: []) t7 al2 := hT60.gr4 (by omega)
 refine V.nil ?_
 refine V.blk_n ?_
 refine V.then_n (k55 _ _ ?_)
 refine V.rr h63 [] 23 23 [(14, .int .i64 2)] fun a h66 => ?_
 refine V.then_n ?_
 refine V.rnd ?_
 have h67 := h66.only [(1, .pointer (some ⟨t7, 0, none⟩)), (12, .slice (some ⟨b23, 0, none⟩) 5 5), (13, .int .i64 5), (14, .int .i64 2)]
 refine V.sr h67 [] 1 0 [(15, .bool true)] fun a h70 => ?_
 refine V.seq fun K71 k72 => ?_
 refine V.ct h70 ?_
 refine V.skip ?_
 refine V.then_n (k72 _ _ ?_)
 refine V.seq fun K73 k74 => ?_
 refine V.block ?_
 refine V.sr h70 [(1, .ix b23 0 5 5 .i64 2 1 rfl), (0, .b hB25_65 2)] 16 18 [(2, .int .i64 2), (3, .string ⟨#[99]⟩)] fun a h77 => ?_
 refine V.rg ?_
 refine V.run h77 [] 3 1 0 [(19, .pointer (some ⟨t7, 0, none⟩)), (20, .string ⟨#[99]⟩), (21, .int .i64 2)] fun a h78 => ?_
 refine V.cl h78 (Go.Proofs.enters_of Try.func38 (by kernel_rfl) rfl) (put_any w62 (gr (fun _ => False) w w62) (b23 :: []) t7 al2 hT60q alm2.2 ⟨#[99]⟩ (by decide) 2 (by omega) aln2) ?_
 rintro _ w81 ⟨rfl, hT79, hfp80⟩
 refine ⟨_, rfl, fun a h82 => ?_⟩
 have hsw81 := hfp80.size
 have hF_83 := hF_64.trP hfp80 (fun k hk => .inr (hk.1.elim (fun q => q.elim) (fun q => by have := q.1; omega)))
 have hB25_84 := hB25_65.frP hfp80 (by exact fun hp => hp.2 (by simp))
 have hT79q : TabX 67 87 86 itI w81 (gr (fun _ => False) w w81) (b23 :: []) t7 al3 := hT79.gr4 (by omega)
 refine V.nil ?_
 refine V.blk_n ?_
 refine V.then_n (k74 _ _ ?_)
 refine V.rr h82 [] 23 23 [(14, .int .i64 3)] fun a h85 => ?_
 refine V.then_n ?_
 refine V.rnd ?_
 refine V.sr h85 [] 1 0 [(15, .bool true)] fun a h88 => ?_
 refine V.seq fun K89 k90 => ?_
 refine V.ct h88 ?_
 refine V.skip ?_
 refine V.then_n (k90 _ _ ?_)
 refine V.seq fun K91 k92 => ?_
 refine V.block ?_
 refine V.sr h88 [(1, .ix b23 0 5 5 .i64 3 1 rfl), (0, .b hB25_84 3)] 16 18 [(2, .int .i64 3), (3, .string ⟨#[100]⟩)] fun a h95 => ?_
 refine V.rg ?_
 refine V.run h95 [] 3 1 0 [(19, .pointer (some ⟨t7, 0, none⟩)), (20, .string ⟨#[100]⟩), (21, .int .i64 3)] fun a h96 => ?_
 refine V.cl h96 (Go.Proofs.enters_of Try.func38 (by kernel_rfl) rfl) (put_any w81 (gr (fun _ => False) w w81) (b23 :: []) t7 al3 hT79q alm3.2 ⟨#[100]⟩ (by decide) 3 (by omega) aln3) ?_
 rintro _ w99 ⟨rfl, hT97, hfp98⟩
 refine ⟨_, rfl, fun a h100 => ?_⟩
 have hsw99 := hfp98.size
 have hF_101 := hF_83.trP hfp98 (fun k hk => .inr (hk.1.elim (fun q => q.elim) (fun q => by have := q.1; omega)))
 have hB25_102 := hB25_84.frP hfp98 (by exact fun hp => hp.2 (by simp))
 have hT97q : TabX 67 87 86 itI w99 (gr (fun _ => False) w w99) (b23 :: []) t7 al4 := hT97.gr4 (by omega)
 refine V.nil ?_
 refine V.blk_n ?_
 refine V.then_n (k92 _ _ ?_)
 refine V.rr h100 [] 23 23 [(14, .int .i64 4)] fun a h103 => ?_
 refine V.then_n ?_
 refine V.rnd ?_
 refine V.sr h103 [] 1 0 [(15, .bool true)] fun a h106 => ?_
 refine V.seq fun K107 k108 => ?_
 refine V.ct h106 ?_
 refine V.skip ?_
 refine V.then_n (k108 _ _ ?_)
 refine V.seq fun K109 k110 => ?_
 refine V.block ?_
 refine V.sr h106 [(1, .ix b23 0 5 5 .i64 4 1 rfl), (0, .b hB25_102 4)] 16 18 [(2, .int .i64 4), (3, .string ⟨#[101]⟩)] fun a h113 => ?_
 refine V.rg ?_
 refine V.run h113 [] 3 1 0 [(19, .pointer (some ⟨t7, 0, none⟩)), (20, .string ⟨#[101]⟩), (21, .int .i64 4)] fun a h114 => ?_
 refine V.cl h114 (Go.Proofs.enters_of Try.func38 (by kernel_rfl) rfl) (put_any w99 (gr (fun _ => False) w w99) (b23 :: []) t7 al4 hT97q alm4.2 ⟨#[101]⟩ (by decide) 4 (by omega) aln4) ?_
 rintro _ w117 ⟨rfl, hT115, hfp116⟩
 refine ⟨_, rfl, fun a h118 => ?_⟩
 have hsw117 := hfp116.size
 have hF_119 := hF_101.trP hfp116 (fun k hk => .inr (hk.1.elim (fun q => q.elim) (fun q => by have := q.1; omega)))
 have hB25_120 := hB25_102.frP hfp116 (by exact fun hp => hp.2 (by simp))
 have hT115q : TabX 67 87 86 itI w117 (gr (fun _ => False) w w117) (b23 :: []) t7 al5 := hT115.gr4 (by omega)
 refine V.nil ?_
 refine V.blk_n ?_
 refine V.then_n (k110 _ _ ?_)
 refine V.rr h118 [] 23 23 [(14, .int .i64 5)] fun a h121 => ?_
 refine V.then_n ?_
 refine V.rnd ?_
 have h122 := h121.only [(1, .pointer (some ⟨t7, 0, none⟩)), (12, .slice (some ⟨b23, 0, none⟩) 5 5), (13, .int .i64 5), (14, .int .i64 5)]
 refine V.sr h122 [] 1 0 [(15, .bool false)] fun a h125 => ?_
 refine V.seq fun K126 k127 => ?_
 refine V.cf h125 ?_
 refine V.exit ?_
 refine V.then_e ?_
 refine V.then_e ?_
 refine V.blk_hit ?_
 refine V.then_n (k20 _ _ ?_)
 refine V.sg fun K128 k129 => ?_
 refine V.run h125 [] 1 1 0 [(25, .pointer (some ⟨t7, 0, none⟩))] fun a h130 => ?_
 refine V.cl (av := #[.pointer (some ⟨t7, 0, none⟩)]) h130 (Go.Proofs.enters_of Try.func17 (by kernel_rfl) rfl) (by (have h := sizes_any w117 (gr (fun _ => False) w w117) (b23 :: []) t7 al5 hT115q; rw [al5_a, al5_b, al5_m] at h; exact h)) ?_
 rintro _ w132 ⟨rfl, hF131⟩
 refine ⟨_, rfl, fun a h133 => ?_⟩
 have hsw132 := hF131.size
 have hF_134 := hF_119.new hF131
 have hB25_135 := hB25_120.fr0 hF131
 have hT115q_136 := hT115q.fr0 hF131
 refine V.re h133 [] 24 29 [(4, .int .i64 4), (5, .int .i64 8), (6, .int .i64 0)] fun a h137 => k129 _ _ ?_
 refine V.sg fun K138 k139 => ?_
 refine V.run h137 [] 1 1 0 [(31, .pointer (some ⟨t7, 0, none⟩))] fun a h140 => ?_
 refine V.cl (av := #[.pointer (some ⟨t7, 0, none⟩), .string ⟨#[99]⟩]) h140 (Go.Proofs.enters_of Try.func22 (by kernel_rfl) rfl) (by (have h := look_any w132 (gr (fun _ => False) w w117) (b23 :: []) t7 al5 hT115q_136 ⟨#[99]⟩ (by decide); rw [al5_l] at h; exact h)) ?_
 rintro _ w142 ⟨rfl, hF141⟩
 refine ⟨_, rfl, fun a h143 => ?_⟩
 have hsw142 := hF141.size
 have hF_144 := hF_134.new hF141
 have hB25_145 := hB25_135.fr0 hF141
 have hT115q_146 := hT115q_136.fr0 hF141
 refine V.re h143 [] 30 34 [(7, .int .i64 2), (8, .bool true)] fun a h147 => k139 _ _ ?_
 refine V.sg fun K148 k149 => ?_
 refine V.run h147 [] 1 1 0 [(35, .pointer (some ⟨t7, 0, none⟩))] fun a h150 => ?_
 refine V.cl (av := #[.pointer (some ⟨t7, 0, none⟩)]) h150 (Go.Proofs.enters_of Try.func18 (by kernel_rfl) rfl) (by (have h := len_any w142 (gr (fun _ => False) w w117) (b23 :: []) t7 al5 hT115q_146; rw [al5_n] at h; exact h)) ?_
 rintro _ w152 ⟨rfl, hF151⟩
 refine ⟨_, rfl, fun a h153 => ?_⟩
 have hsw152 := hF151.size
 have hF_154 := hF_144.new hF151
 have hB25_155 := hB25_145.fr0 hF151
 have hT115q_156 := hT115q_146.fr0 hF151
 refine V.run h153 [] 22 37 56 [(57, .bool true), (58, .pointer (some ⟨t7, 0, none⟩))] fun a h157 => ?_
 refine V.clg h157 (Go.Proofs.enters_of Try.func39 (by kernel_rfl) rfl) (del_any w152 (gr (fun _ => False) w w117) (b23 :: []) t7 al5 hT115q_156 alm5.2 ⟨#[97]⟩ (by decide)) ?_
 rintro _ w160 ⟨rfl, hT158, hfp159⟩
 refine ⟨_, rfl, fun a h161 => ?_⟩
 have hsw160 := hfp159.size
 have hF_162 := hF_154.trP hfp159 (fun k hk => .inr (hk.1.elim (fun q => q.elim) (fun q => by have := q.1; omega)))
 have hB25_163 := hB25_155.frP hfp159 (by exact fun hp => hp.2 (by simp))
 have hT158q : TabX 67 87 86 itI w160 (gr (fun _ => False) w w160) (b23 :: []) t7 al6 := hT158.gr4 (by omega)
 refine V.run h161 [] 3 60 60 [(61, .bool true), (62, .pointer (some ⟨t7, 0, none⟩))] fun a h164 => ?_
 refine V.clg (av := #[.pointer (some ⟨t7, 0, none⟩)]) h164 (Go.Proofs.enters_of Try.func18 (by kernel_rfl) rfl) (by (have h := len_any w160 (gr (fun _ => False) w w160) (b23 :: []) t7 al6 hT158q; rw [al6_n] at h; exact h)) ?_
 rintro _ w166 ⟨rfl, hF165⟩
 refine ⟨_, rfl, fun a h167 => ?_⟩
 have hsw166 := hF165.size
 have hF_168 := hF_162.new hF165
 have hB25_169 := hB25_163.fr0 hF165
 have hT158q_170 := hT158q.fr0 hF165
 refine V.re h167 [] 64 65 [(0, .bool true)] fun a h171 => k149 _ _ ?_
 have h172 := h171.only [(0, .bool true)]
 refine V.ret ?_
 refine V.r1 h172 (.bool true) ?_
 exact ⟨rfl, hF_168⟩
end Go.Proofs.Ytalhmegjomfbaaa
