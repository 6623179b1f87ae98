/- Walks: alive. -/
import Derived.Test.YtalhmegjomfbaaaProg
import Derived.Test.YtalhmegjomfbaaaTf
namespace Go.Proofs.Ytalhmegjomfbaaa
open Go.V Go.Base
open Go.RowKit (Below)
attribute [local irreducible] Act.put Act.eval
set_option linter.unusedVariables false
set_option linter.unusedSimpArgs false
def al0 : Tb Int := newT 7
def al1 : Tb Int := putT al0 ⟨#[97]⟩ 0
def al2 : Tb Int := putT al1 ⟨#[98]⟩ 1
def al3 : Tb Int := putT al2 ⟨#[99]⟩ 2
def al4 : Tb Int := putT al3 ⟨#[100]⟩ 3
def al5 : Tb Int := putT al4 ⟨#[101]⟩ 4
def al6 : Tb Int := delT al5 ⟨#[97]⟩
theorem aln0 : al0.n < 1099511627776 := by decide +kernel
theorem aln1 : al1.n < 1099511627776 := by decide +kernel
theorem aln2 : al2.n < 1099511627776 := by decide +kernel
theorem aln3 : al3.n < 1099511627776 := by decide +kernel
theorem aln4 : al4.n < 1099511627776 := by decide +kernel
theorem alm0 : al0.Ok ∧ al0.Mv := newT_ok (by decide)
theorem alm1 : al1.Ok ∧ al1.Mv := putT_ok alm0.1 alm0.2 aln0 _ (by decide) _
theorem alm2 : al2.Ok ∧ al2.Mv := putT_ok alm1.1 alm1.2 aln1 _ (by decide) _
theorem alm3 : al3.Ok ∧ al3.Mv := putT_ok alm2.1 alm2.2 aln2 _ (by decide) _
theorem alm4 : al4.Ok ∧ al4.Mv := putT_ok alm3.1 alm3.2 aln3 _ (by decide) _
theorem alm5 : al5.Ok ∧ al5.Mv := putT_ok alm4.1 alm4.2 aln4 _ (by decide) _
theorem al5_a : al5.a.length = 4 := by decide +kernel
theorem al5_b : al5.b.length = 8 := by decide +kernel
theorem al5_m : al5.moved = 0 := by decide +kernel
theorem al5_l : lookT 0 al5 ⟨#[99]⟩ = (2, true) := by decide +kernel
theorem al5_n : al5.n = 5 := by decide +kernel
theorem al5_f : (findT (tbStep al5) ⟨#[97]⟩).2 = true := by decide +kernel
theorem al6_n : al6.n = 4 := by decide +kernel
set_option maxHeartbeats 4000000 in
set_option maxRecDepth 20000 in
theorem alive_any (w : World)  : Calls Try.prog 13 #[] w (fun e w' => e = .returned (.bool true) ∧ Fr [] w w') := by
 have hF := Fr.refl [] w
 refine V.enter 66 Try.func13 rfl rfl ?_
 intro a hz ha
 clear ha
 refine V.seq (fun K1 hK2 => ?_)
 refine V.rg ?_
 refine V.ga evc ?_
 refine V.nil ?_
 refine V.then_n (hK2 _ _ ?_)
 refine V.seq (fun K3 hK4 => ?_)
 refine V.rg ?_
 refine V.go (V.call 14 #[] #[.int .u64 7] evf (args1 evc) (Go.Proofs.enters_of Try.func14 (by kernel_rfl) rfl) (new_any w [] (by simp) 7 (by omega)) ?_)
 rintro _ w8 ⟨t5, rfl, hT6, hF7⟩
 refine ⟨_, rfl, ?_⟩
 have hsw8 := hF7.size
 have hF_9 := hF.new hF7
 refine V.ga (v := (.pointer (some ⟨t5, 0, none⟩))) (sm hz.p1 rfl) ?_
 refine V.nil ?_
 refine V.then_n (hK4 _ _ ?_)
 refine V.seq (fun K10 hK11 => ?_)
 refine V.seq (fun K12 hK13 => ?_)
 refine V.rg ?_
 refine V.gm (v := (.pointer (some ⟨t5, 0, none⟩))) (sm hz.p2 rfl) ?_
 refine V.ge_ [(10, .pointer (some ⟨t5, 0, none⟩))] ⟨(sm hz.p2.p1 rfl), trivial⟩ (.bool false) ?_
 refine V.nil ?_
 refine V.then_n (hK13 _ _ ?_)
 refine V.flushW hz.p4.p1 (fun a14 hz15 up16 => ?_)
 have s1_17 : a14.eval (.tmp 1) = (.pointer (some ⟨t5, 0, none⟩)) := up16 _ _ (o2 rfl (sm hz.p2 rfl))
 have s11_18 := up16 11 _ (sm hz.p4 rfl)
 clear up16
 refine V.cond_f (s11_18) ?_
 refine V.skip ?_
 refine V.then_n (hK11 _ _ ?_)
 refine V.seq (fun K19 hK20 => ?_)
 refine V.seq (fun K21 hK22 => ?_)
 refine V.rg ?_
 refine V.go (V.mk [] trivial (by kernel_rfl) [.string ⟨#[97]⟩, .string ⟨#[98]⟩, .string ⟨#[99]⟩, .string ⟨#[100]⟩, .string ⟨#[101]⟩] 9 (fun b => .slice (some ⟨b, 0, none⟩) 5 5) (by kernel_rfl) ?_)
 intro w24 b23 heb23 hB25 hF26 hsb23
 have hF_27 := hF_9.new hF26
 have hT6_28 := hT6.alloc hF26 heb23 (by omega)
 refine V.ge_ [(12, .slice (some ⟨b23, 0, none⟩) 5 5)] ⟨(sm hz15 rfl), trivial⟩ (.int .i64 5) ?_
 refine V.gm evc ?_
 refine V.nil ?_
 refine V.then_n (hK22 _ _ ?_)
 refine V.block ?_
 refine V.loopR 6 ?_
 refine V.rnd ?_
 refine V.seq (fun K29 hK30 => ?_)
 refine V.rg ?_
 refine V.ge_ [(14, .int .i64 0), (13, .int .i64 5)] ⟨(sm hz15.p2 rfl), (o1 rfl (sm hz15.p1 rfl)), trivial⟩ (.bool true) ?_
 refine V.nil ?_
 refine V.then_n (hK30 _ _ ?_)
 refine V.flushW hz15.p4 (fun a31 hz32 up33 => ?_)
 have s1_34 : a31.eval (.tmp 1) = (.pointer (some ⟨t5, 0, none⟩)) := up33 _ _ (o4 rfl s1_17)
 have s12_35 := up33 12 _ (o2 rfl (o1 rfl (sm hz15 rfl)))
 have s13_36 := up33 13 _ (o2 rfl (sm hz15.p1 rfl))
 have s14_37 := up33 14 _ (o1 rfl (sm hz15.p2 rfl))
 have s15_38 := up33 15 _ (sm hz15.p2.p1 rfl)
 clear up33
 refine V.seq (fun K39 hK40 => ?_)
 refine V.cond_t (s15_38) ?_
 refine V.skip ?_
 refine V.then_n (hK40 _ _ ?_)
 refine V.seq (fun K41 hK42 => ?_)
 refine V.block ?_
 refine V.seq (fun K43 hK44 => ?_)
 refine V.rg ?_
 refine V.gm (s14_37) ?_
 refine V.go (V.ixa b23 0 5 5 .i64 0 1 (o1 rfl s12_35) (o1 rfl s14_37) (by omega) (by omega) (by kernel_rfl) ?_)
 refine V.go (V.ld ⟨b23, 0, none⟩ (.string ⟨#[97]⟩) (sm hz32.p1 rfl) (by kernel_rfl) (hB25.at 0 rfl) ?_)
 refine V.ga (o2 rfl (sm hz32 rfl)) ?_
 refine V.ga (o1 rfl (sm hz32.p2 rfl)) ?_
 refine V.nil ?_
 refine V.then_n (hK44 _ _ ?_)
 refine V.flushW hz32.p4.p1 (fun a45 hz46 up47 => ?_)
 have s1_48 : a45.eval (.tmp 1) = (.pointer (some ⟨t5, 0, none⟩)) := up47 _ _ (o4 rfl (o1 rfl s1_34))
 have s2_49 := up47 2 _ (o1 rfl (sm hz32.p2.p1 rfl))
 have s3_50 := up47 3 _ (sm hz32.p4 rfl)
 have s12_51 := up47 12 _ (o4 rfl (o1 rfl s12_35))
 have s13_52 := up47 13 _ (o4 rfl (o1 rfl s13_36))
 have s14_53 := up47 14 _ (o4 rfl (o1 rfl s14_37))
 clear up47
 refine V.rg ?_
 refine V.gm (v := (.pointer (some ⟨t5, 0, none⟩))) (s1_48) ?_
 refine V.gm (o1 rfl s3_50) ?_
 refine V.gm (o2 rfl s2_49) ?_
 refine V.go (V.call 38 #[] #[.pointer (some ⟨t5, 0, none⟩), .string ⟨#[97]⟩, .int .i64 0] evf (args3 (o2 rfl (sm hz46 rfl)) (o1 rfl (sm hz46.p1 rfl)) (sm hz46.p2 rfl)) (Go.Proofs.enters_of Try.func38 (by kernel_rfl) rfl) (put_any w24 (gr (fun _ => False) w w8) (b23 :: []) t5 al0 hT6_28 alm0.2 ⟨#[97]⟩ (by decide) 0 (by omega) aln0) ?_)
 rintro _ w56 ⟨rfl, hT54, hfp55⟩
 refine ⟨_, rfl, ?_⟩
 have hsw56 := hfp55.size
 have hF_57 := hF_27.trP hfp55 (fun k hk => .inr (hk.1.elim (fun q => q.elim) (fun q => by have := q.1; omega)))
 have hB25_58 := hB25.frP hfp55 (by exact fun hp => hp.2 (by simp))
 have hT54q : TabX 67 87 86 itI w56 (gr (fun _ => False) w w56) (b23 :: []) t5 al1 := hT54.gr4 (by omega)
 refine V.nil ?_
 refine V.blk_n ?_
 refine V.then_n (hK42 _ _ ?_)
 refine V.flushW hz46.p4 (fun a59 hz60 up61 => ?_)
 have s1_62 : a59.eval (.tmp 1) = (.pointer (some ⟨t5, 0, none⟩)) := up61 _ _ (o4 rfl s1_48)
 have s12_63 := up61 12 _ (o4 rfl s12_51)
 have s13_64 := up61 13 _ (o4 rfl s13_52)
 have s14_65 := up61 14 _ (o4 rfl s14_53)
 clear up61
 refine V.rg ?_
 refine V.ge_ [(14, .int .i64 0)] ⟨(s14_65), trivial⟩ (.int .i64 1) ?_
 refine V.gm (sm hz60 rfl) ?_
 refine V.nil ?_
 refine V.then_n ?_
 refine V.rnd ?_
 refine V.seq (fun K66 hK67 => ?_)
 refine V.rg ?_
 refine V.ge_ [(14, .int .i64 1), (13, .int .i64 5)] ⟨(sm hz60.p1 rfl), (o2 rfl s13_64), trivial⟩ (.bool true) ?_
 refine V.nil ?_
 refine V.then_n (hK67 _ _ ?_)
 refine V.seq (fun K68 hK69 => ?_)
 refine V.cond_t (sm hz60.p2 rfl) ?_
 refine V.skip ?_
 refine V.then_n (hK69 _ _ ?_)
 refine V.seq (fun K70 hK71 => ?_)
 refine V.block ?_
 refine V.seq (fun K72 hK73 => ?_)
 refine V.rg ?_
 refine V.gm (o1 rfl (sm hz60.p1 rfl)) ?_
 refine V.go (V.ixa b23 0 5 5 .i64 1 1 (o4 rfl s12_63) (o2 rfl (sm hz60.p1 rfl)) (by omega) (by omega) (by kernel_rfl) ?_)
 refine V.go (V.ld ⟨b23, 1, none⟩ (.string ⟨#[98]⟩) (sm hz60.p4 rfl) (by kernel_rfl) (hB25_58.at 1 rfl) ?_)
 refine V.ga (o2 rfl (sm hz60.p2.p1 rfl)) ?_
 refine V.ga (o1 rfl (sm hz60.p4.p1 rfl)) ?_
 refine V.nil ?_
 refine V.then_n (hK73 _ _ ?_)
 refine V.flushW hz60.p8 (fun a74 hz75 up76 => ?_)
 have s1_77 : a74.eval (.tmp 1) = (.pointer (some ⟨t5, 0, none⟩)) := up76 _ _ (o8 rfl s1_62)
 have s2_78 := up76 2 _ (o1 rfl (sm hz60.p4.p2 rfl))
 have s3_79 := up76 3 _ (sm hz60.p4.p2.p1 rfl)
 have s12_80 := up76 12 _ (o8 rfl s12_63)
 have s13_81 := up76 13 _ (o8 rfl s13_64)
 have s14_82 := up76 14 _ (o4 rfl (o2 rfl (sm hz60.p1 rfl)))
 clear up76
 refine V.rg ?_
 refine V.gm (v := (.pointer (some ⟨t5, 0, none⟩))) (s1_77) ?_
 refine V.gm (o1 rfl s3_79) ?_
 refine V.gm (o2 rfl s2_78) ?_
 refine V.go (V.call 38 #[] #[.pointer (some ⟨t5, 0, none⟩), .string ⟨#[98]⟩, .int .i64 1] evf (args3 (o2 rfl (sm hz75 rfl)) (o1 rfl (sm hz75.p1 rfl)) (sm hz75.p2 rfl)) (Go.Proofs.enters_of Try.func38 (by kernel_rfl) rfl) (put_any w56 (gr (fun _ => False) w w56) (b23 :: []) t5 al1 hT54q alm1.2 ⟨#[98]⟩ (by decide) 1 (by omega) aln1) ?_)
 rintro _ w85 ⟨rfl, hT83, hfp84⟩
 refine ⟨_, rfl, ?_⟩
 have hsw85 := hfp84.size
 have hF_86 := hF_57.trP hfp84 (fun k hk => .inr (hk.1.elim (fun q => q.elim) (fun q => by have := q.1; omega)))
 have hB25_87 := hB25_58.frP hfp84 (by exact fun hp => hp.2 (by simp))
 have hT83q : TabX 67 87 86 itI w85 (gr (fun _ => False) w w85) (b23 :: []) t5 al2 := hT83.gr4 (by omega)
 refine V.nil ?_
 refine V.blk_n ?_
 refine V.then_n (hK71 _ _ ?_)
 refine V.flushW hz75.p4 (fun a88 hz89 up90 => ?_)
 have s1_91 : a88.eval (.tmp 1) = (.pointer (some ⟨t5, 0, none⟩)) := up90 _ _ (o4 rfl s1_77)
 have s12_92 := up90 12 _ (o4 rfl s12_80)
 have s13_93 := up90 13 _ (o4 rfl s13_81)
 have s14_94 := up90 14 _ (o4 rfl s14_82)
 clear up90
 refine V.rg ?_
 refine V.ge_ [(14, .int .i64 1)] ⟨(s14_94), trivial⟩ (.int .i64 2) ?_
 refine V.gm (sm hz89 rfl) ?_
 refine V.nil ?_
 refine V.then_n ?_
 refine V.rnd ?_
 refine V.seq (fun K95 hK96 => ?_)
 refine V.rg ?_
 refine V.ge_ [(14, .int .i64 2), (13, .int .i64 5)] ⟨(sm hz89.p1 rfl), (o2 rfl s13_93), trivial⟩ (.bool true) ?_
 refine V.nil ?_
 refine V.then_n (hK96 _ _ ?_)
 refine V.seq (fun K97 hK98 => ?_)
 refine V.cond_t (sm hz89.p2 rfl) ?_
 refine V.skip ?_
 refine V.then_n (hK98 _ _ ?_)
 refine V.seq (fun K99 hK100 => ?_)
 refine V.block ?_
 refine V.seq (fun K101 hK102 => ?_)
 refine V.rg ?_
 refine V.gm (o1 rfl (sm hz89.p1 rfl)) ?_
 refine V.go (V.ixa b23 0 5 5 .i64 2 1 (o4 rfl s12_92) (o2 rfl (sm hz89.p1 rfl)) (by omega) (by omega) (by kernel_rfl) ?_)
 refine V.go (V.ld ⟨b23, 2, none⟩ (.string ⟨#[99]⟩) (sm hz89.p4 rfl) (by kernel_rfl) (hB25_87.at 2 rfl) ?_)
 refine V.ga (o2 rfl (sm hz89.p2.p1 rfl)) ?_
 refine V.ga (o1 rfl (sm hz89.p4.p1 rfl)) ?_
 refine V.nil ?_
 refine V.then_n (hK102 _ _ ?_)
 refine V.flushW hz89.p8 (fun a103 hz104 up105 => ?_)
 have s1_106 : a103.eval (.tmp 1) = (.pointer (some ⟨t5, 0, none⟩)) := up105 _ _ (o8 rfl s1_91)
 have s2_107 := up105 2 _ (o1 rfl (sm hz89.p4.p2 rfl))
 have s3_108 := up105 3 _ (sm hz89.p4.p2.p1 rfl)
 have s12_109 := up105 12 _ (o8 rfl s12_92)
 have s13_110 := up105 13 _ (o8 rfl s13_93)
 have s14_111 := up105 14 _ (o4 rfl (o2 rfl (sm hz89.p1 rfl)))
 clear up105
 refine V.rg ?_
 refine V.gm (v := (.pointer (some ⟨t5, 0, none⟩))) (s1_106) ?_
 refine V.gm (o1 rfl s3_108) ?_
 refine V.gm (o2 rfl s2_107) ?_
 refine V.go (V.call 38 #[] #[.pointer (some ⟨t5, 0, none⟩), .string ⟨#[99]⟩, .int .i64 2] evf (args3 (o2 rfl (sm hz104 rfl)) (o1 rfl (sm hz104.p1 rfl)) (sm hz104.p2 rfl)) (Go.Proofs.enters_of Try.func38 (by kernel_rfl) rfl) (put_any w85 (gr (fun _ => False) w w85) (b23 :: []) t5 al2 hT83q alm2.2 ⟨#[99]⟩ (by decide) 2 (by omega) aln2) ?_)
 rintro _ w114 ⟨rfl, hT112, hfp113⟩
 refine ⟨_, rfl, ?_⟩
 have hsw114 := hfp113.size
 have hF_115 := hF_86.trP hfp113 (fun k hk => .inr (hk.1.elim (fun q => q.elim) (fun q => by have := q.1; omega)))
 have hB25_116 := hB25_87.frP hfp113 (by exact fun hp => hp.2 (by simp))
 have hT112q : TabX 67 87 86 itI w114 (gr (fun _ => False) w w114) (b23 :: []) t5 al3 := hT112.gr4 (by omega)
 refine V.nil ?_
 refine V.blk_n ?_
 refine V.then_n (hK100 _ _ ?_)
 refine V.flushW hz104.p4 (fun a117 hz118 up119 => ?_)
 have s1_120 : a117.eval (.tmp 1) = (.pointer (some ⟨t5, 0, none⟩)) := up119 _ _ (o4 rfl s1_106)
 have s12_121 := up119 12 _ (o4 rfl s12_109)
 have s13_122 := up119 13 _ (o4 rfl s13_110)
 have s14_123 := up119 14 _ (o4 rfl s14_111)
 clear up119
 refine V.rg ?_
 refine V.ge_ [(14, .int .i64 2)] ⟨(s14_123), trivial⟩ (.int .i64 3) ?_
 refine V.gm (sm hz118 rfl) ?_
 refine V.nil ?_
 refine V.then_n ?_
 refine V.rnd ?_
 refine V.seq (fun K124 hK125 => ?_)
 refine V.rg ?_
 refine V.ge_ [(14, .int .i64 3), (13, .int .i64 5)] ⟨(sm hz118.p1 rfl), (o2 rfl s13_122), trivial⟩ (.bool true) ?_
 refine V.nil ?_
 refine V.then_n (hK125 _ _ ?_)
 refine V.seq (fun K126 hK127 => ?_)
 refine V.cond_t (sm hz118.p2 rfl) ?_
 refine V.skip ?_
 refine V.then_n (hK127 _ _ ?_)
 refine V.seq (fun K128 hK129 => ?_)
 refine V.block ?_
 refine V.seq (fun K130 hK131 => ?_)
 refine V.rg ?_
 refine V.gm (o1 rfl (sm hz118.p1 rfl)) ?_
 refine V.go (V.ixa b23 0 5 5 .i64 3 1 (o4 rfl s12_121) (o2 rfl (sm hz118.p1 rfl)) (by omega) (by omega) (by kernel_rfl) ?_)
 refine V.go (V.ld ⟨b23, 3, none⟩ (.string ⟨#[100]⟩) (sm hz118.p4 rfl) (by kernel_rfl) (hB25_116.at 3 rfl) ?_)
 refine V.ga (o2 rfl (sm hz118.p2.p1 rfl)) ?_
 refine V.ga (o1 rfl (sm hz118.p4.p1 rfl)) ?_
 refine V.nil ?_
 refine V.then_n (hK131 _ _ ?_)
 refine V.flushW hz118.p8 (fun a132 hz133 up134 => ?_)
 have s1_135 : a132.eval (.tmp 1) = (.pointer (some ⟨t5, 0, none⟩)) := up134 _ _ (o8 rfl s1_120)
 have s2_136 := up134 2 _ (o1 rfl (sm hz118.p4.p2 rfl))
 have s3_137 := up134 3 _ (sm hz118.p4.p2.p1 rfl)
 have s12_138 := up134 12 _ (o8 rfl s12_121)
 have s13_139 := up134 13 _ (o8 rfl s13_122)
 have s14_140 := up134 14 _ (o4 rfl (o2 rfl (sm hz118.p1 rfl)))
 clear up134
 refine V.rg ?_
 refine V.gm (v := (.pointer (some ⟨t5, 0, none⟩))) (s1_135) ?_
 refine V.gm (o1 rfl s3_137) ?_
 refine V.gm (o2 rfl s2_136) ?_
 refine V.go (V.call 38 #[] #[.pointer (some ⟨t5, 0, none⟩), .string ⟨#[100]⟩, .int .i64 3] evf (args3 (o2 rfl (sm hz133 rfl)) (o1 rfl (sm hz133.p1 rfl)) (sm hz133.p2 rfl)) (Go.Proofs.enters_of Try.func38 (by kernel_rfl) rfl) (put_any w114 (gr (fun _ => False) w w114) (b23 :: []) t5 al3 hT112q alm3.2 ⟨#[100]⟩ (by decide) 3 (by omega) aln3) ?_)
 rintro _ w143 ⟨rfl, hT141, hfp142⟩
 refine ⟨_, rfl, ?_⟩
 have hsw143 := hfp142.size
 have hF_144 := hF_115.trP hfp142 (fun k hk => .inr (hk.1.elim (fun q => q.elim) (fun q => by have := q.1; omega)))
 have hB25_145 := hB25_116.frP hfp142 (by exact fun hp => hp.2 (by simp))
 have hT141q : TabX 67 87 86 itI w143 (gr (fun _ => False) w w143) (b23 :: []) t5 al4 := hT141.gr4 (by omega)
 refine V.nil ?_
 refine V.blk_n ?_
 refine V.then_n (hK129 _ _ ?_)
 refine V.flushW hz133.p4 (fun a146 hz147 up148 => ?_)
 have s1_149 : a146.eval (.tmp 1) = (.pointer (some ⟨t5, 0, none⟩)) := up148 _ _ (o4 rfl s1_135)
 have s12_150 := up148 12 _ (o4 rfl s12_138)
 have s13_151 := up148 13 _ (o4 rfl s13_139)
 have s14_152 := up148 14 _ (o4 rfl s14_140)
 clear up148
 refine V.rg ?_
 refine V.ge_ [(14, .int .i64 3)] ⟨(s14_152), trivial⟩ (.int .i64 4) ?_
 refine V.gm (sm hz147 rfl) ?_
 refine V.nil ?_
 refine V.then_n ?_
 refine V.rnd ?_
 refine V.seq (fun K153 hK154 => ?_)
 refine V.rg ?_
 refine V.ge_ [(14, .int .i64 4), (13, .int .i64 5)] ⟨(sm hz147.p1 rfl), (o2 rfl s13_151), trivial⟩ (.bool true) ?_
 refine V.nil ?_
 refine V.then_n (hK154 _ _ ?_)
 refine V.seq (fun K155 hK156 => ?_)
 refine V.cond_t (sm hz147.p2 rfl) ?_
 refine V.skip ?_
 refine V.then_n (hK156 _ _ ?_)
 refine V.seq (fun K157 hK158 => ?_)
 refine V.block ?_
 refine V.seq (fun K159 hK160 => ?_)
 refine V.rg ?_
 refine V.gm (o1 rfl (sm hz147.p1 rfl)) ?_
 refine V.go (V.ixa b23 0 5 5 .i64 4 1 (o4 rfl s12_150) (o2 rfl (sm hz147.p1 rfl)) (by omega) (by omega) (by kernel_rfl) ?_)
 refine V.go (V.ld ⟨b23, 4, none⟩ (.string ⟨#[101]⟩) (sm hz147.p4 rfl) (by kernel_rfl) (hB25_145.at 4 rfl) ?_)
 refine V.ga (o2 rfl (sm hz147.p2.p1 rfl)) ?_
 refine V.ga (o1 rfl (sm hz147.p4.p1 rfl)) ?_
 refine V.nil ?_
 refine V.then_n (hK160 _ _ ?_)
 refine V.flushW hz147.p8 (fun a161 hz162 up163 => ?_)
 have s1_164 : a161.eval (.tmp 1) = (.pointer (some ⟨t5, 0, none⟩)) := up163 _ _ (o8 rfl s1_149)
 have s2_165 := up163 2 _ (o1 rfl (sm hz147.p4.p2 rfl))
 have s3_166 := up163 3 _ (sm hz147.p4.p2.p1 rfl)
 have s12_167 := up163 12 _ (o8 rfl s12_150)
 have s13_168 := up163 13 _ (o8 rfl s13_151)
 have s14_169 := up163 14 _ (o4 rfl (o2 rfl (sm hz147.p1 rfl)))
 clear up163
 refine V.rg ?_
 refine V.gm (v := (.pointer (some ⟨t5, 0, none⟩))) (s1_164) ?_
 refine V.gm (o1 rfl s3_166) ?_
 refine V.gm (o2 rfl s2_165) ?_
 refine V.go (V.call 38 #[] #[.pointer (some ⟨t5, 0, none⟩), .string ⟨#[101]⟩, .int .i64 4] evf (args3 (o2 rfl (sm hz162 rfl)) (o1 rfl (sm hz162.p1 rfl)) (sm hz162.p2 rfl)) (Go.Proofs.enters_of Try.func38 (by kernel_rfl) rfl) (put_any w143 (gr (fun _ => False) w w143) (b23 :: []) t5 al4 hT141q alm4.2 ⟨#[101]⟩ (by decide) 4 (by omega) aln4) ?_)
 rintro _ w172 ⟨rfl, hT170, hfp171⟩
 refine ⟨_, rfl, ?_⟩
 have hsw172 := hfp171.size
 have hF_173 := hF_144.trP hfp171 (fun k hk => .inr (hk.1.elim (fun q => q.elim) (fun q => by have := q.1; omega)))
 have hB25_174 := hB25_145.frP hfp171 (by exact fun hp => hp.2 (by simp))
 have hT170q : TabX 67 87 86 itI w172 (gr (fun _ => False) w w172) (b23 :: []) t5 al5 := hT170.gr4 (by omega)
 refine V.nil ?_
 refine V.blk_n ?_
 refine V.then_n (hK158 _ _ ?_)
 refine V.flushW hz162.p4 (fun a175 hz176 up177 => ?_)
 have s1_178 : a175.eval (.tmp 1) = (.pointer (some ⟨t5, 0, none⟩)) := up177 _ _ (o4 rfl s1_164)
 have s12_179 := up177 12 _ (o4 rfl s12_167)
 have s13_180 := up177 13 _ (o4 rfl s13_168)
 have s14_181 := up177 14 _ (o4 rfl s14_169)
 clear up177
 refine V.rg ?_
 refine V.ge_ [(14, .int .i64 4)] ⟨(s14_181), trivial⟩ (.int .i64 5) ?_
 refine V.gm (sm hz176 rfl) ?_
 refine V.nil ?_
 refine V.then_n ?_
 refine V.rnd ?_
 refine V.seq (fun K182 hK183 => ?_)
 refine V.rg ?_
 refine V.ge_ [(14, .int .i64 5), (13, .int .i64 5)] ⟨(sm hz176.p1 rfl), (o2 rfl s13_180), trivial⟩ (.bool false) ?_
 refine V.nil ?_
 refine V.then_n (hK183 _ _ ?_)
 refine V.seq (fun K184 hK185 => ?_)
 refine V.cond_f (sm hz176.p2 rfl) ?_
 refine V.exit ?_
 refine V.then_e ?_
 refine V.then_e ?_
 refine V.blk_hit ?_
 refine V.then_n (hK20 _ _ ?_)
 refine V.seq (fun K186 hK187 => ?_)
 refine V.rg ?_
 refine V.gm (v := (.pointer (some ⟨t5, 0, none⟩))) (o2 rfl (o1 rfl s1_178)) ?_
 refine V.go (V.call 17 #[] #[.pointer (some ⟨t5, 0, none⟩)] evf (args1 (sm hz176.p2.p1 rfl)) (Go.Proofs.enters_of Try.func17 (by kernel_rfl) rfl) (by (have h := sizes_any w172 (gr (fun _ => False) w w172) (b23 :: []) t5 al5 hT170q; rw [al5_a, al5_b, al5_m] at h; exact h)) ?_)
 rintro _ w189 ⟨rfl, hF188⟩
 refine ⟨_, rfl, ?_⟩
 have hsw189 := hF188.size
 have hF_190 := hF_173.new hF188
 have hB25_191 := hB25_174.fr0 hF188
 have hT170q_192 := hT170q.fr0 hF188
 refine V.gm (v := (.tuple #[.int .i64 4, .int .i64 8, .int .i64 0])) (sm hz176.p4 rfl) ?_
 refine V.ge_ [(24, .tuple #[.int .i64 4, .int .i64 8, .int .i64 0])] ⟨(sm hz176.p4.p1 rfl), trivial⟩ (.int .i64 4) ?_
 refine V.ge_ [(24, .tuple #[.int .i64 4, .int .i64 8, .int .i64 0])] ⟨(o1 rfl (sm hz176.p4.p1 rfl)), trivial⟩ (.int .i64 8) ?_
 refine V.ge_ [(24, .tuple #[.int .i64 4, .int .i64 8, .int .i64 0])] ⟨(o2 rfl (sm hz176.p4.p1 rfl)), trivial⟩ (.int .i64 0) ?_
 refine V.ga (o2 rfl (sm hz176.p4.p2 rfl)) ?_
 refine V.ga (o2 rfl (sm hz176.p4.p2.p1 rfl)) ?_
 refine V.ga (o2 rfl (sm hz176.p8 rfl)) ?_
 refine V.nil ?_
 refine V.then_n (hK187 _ _ ?_)
 refine V.flushW hz176.p8.p4 (fun a193 hz194 up195 => ?_)
 have s1_196 : a193.eval (.tmp 1) = (.pointer (some ⟨t5, 0, none⟩)) := up195 _ _ (o8 rfl (o4 rfl s1_178))
 have s4_197 := up195 4 _ (o2 rfl (sm hz176.p8.p1 rfl))
 have s5_198 := up195 5 _ (o1 rfl (sm hz176.p8.p2 rfl))
 have s6_199 := up195 6 _ (sm hz176.p8.p2.p1 rfl)
 clear up195
 refine V.seq (fun K200 hK201 => ?_)
 refine V.rg ?_
 refine V.gm (v := (.pointer (some ⟨t5, 0, none⟩))) (s1_196) ?_
 refine V.go (V.call 22 #[] #[.pointer (some ⟨t5, 0, none⟩), .string ⟨#[99]⟩] evf (args2 (sm hz194 rfl) evc) (Go.Proofs.enters_of Try.func22 (by kernel_rfl) rfl) (by (have h := look_any w189 (gr (fun _ => False) w w172) (b23 :: []) t5 al5 hT170q_192 ⟨#[99]⟩ (by decide); rw [al5_l] at h; exact h)) ?_)
 rintro _ w203 ⟨rfl, hF202⟩
 refine ⟨_, rfl, ?_⟩
 have hsw203 := hF202.size
 have hF_204 := hF_190.new hF202
 have hB25_205 := hB25_191.fr0 hF202
 have hT170q_206 := hT170q_192.fr0 hF202
 refine V.gm (v := (.tuple #[.int .i64 2, .bool true])) (sm hz194.p1 rfl) ?_
 refine V.ge_ [(30, .tuple #[.int .i64 2, .bool true])] ⟨(sm hz194.p2 rfl), trivial⟩ (.int .i64 2) ?_
 refine V.ge_ [(30, .tuple #[.int .i64 2, .bool true])] ⟨(o1 rfl (sm hz194.p2 rfl)), trivial⟩ (.bool true) ?_
 refine V.ga (o1 rfl (sm hz194.p2.p1 rfl)) ?_
 refine V.ga (o1 rfl (sm hz194.p4 rfl)) ?_
 refine V.nil ?_
 refine V.then_n (hK201 _ _ ?_)
 refine V.flushW hz194.p4.p2.p1 (fun a207 hz208 up209 => ?_)
 have s1_210 : a207.eval (.tmp 1) = (.pointer (some ⟨t5, 0, none⟩)) := up209 _ _ (o4 rfl (o2 rfl (o1 rfl s1_196)))
 have s4_211 := up209 4 _ (o4 rfl (o2 rfl (o1 rfl s4_197)))
 have s5_212 := up209 5 _ (o4 rfl (o2 rfl (o1 rfl s5_198)))
 have s6_213 := up209 6 _ (o4 rfl (o2 rfl (o1 rfl s6_199)))
 have s7_214 := up209 7 _ (o1 rfl (sm hz194.p4.p1 rfl))
 have s8_215 := up209 8 _ (sm hz194.p4.p2 rfl)
 clear up209
 refine V.seq (fun K216 hK217 => ?_)
 refine V.rg ?_
 refine V.gm (v := (.pointer (some ⟨t5, 0, none⟩))) (s1_210) ?_
 refine V.go (V.call 18 #[] #[.pointer (some ⟨t5, 0, none⟩)] evf (args1 (sm hz208 rfl)) (Go.Proofs.enters_of Try.func18 (by kernel_rfl) rfl) (by (have h := len_any w203 (gr (fun _ => False) w w172) (b23 :: []) t5 al5 hT170q_206; rw [al5_n] at h; exact h)) ?_)
 rintro _ w219 ⟨rfl, hF218⟩
 refine ⟨_, rfl, ?_⟩
 have hsw219 := hF218.size
 have hF_220 := hF_204.new hF218
 have hB25_221 := hB25_205.fr0 hF218
 have hT170q_222 := hT170q_206.fr0 hF218
 refine V.ge_ [(36, .int .i64 5)] ⟨(sm hz208.p1 rfl), trivial⟩ (.bool true) ?_
 refine V.gm (sm hz208.p2 rfl) ?_
 refine V.go_on 38 (by kernel_rfl) (sm hz208.p2.p1 rfl) (V.mv (o4 rfl s4_211) ?_)
 refine V.go_on 38 (by kernel_rfl) (o1 rfl (sm hz208.p2.p1 rfl)) (V.pv [(39, .int .i64 4)] ⟨(sm hz208.p4 rfl), trivial⟩ (by kernel_rfl) (.bool true) (by kernel_rfl) ?_)
 refine V.go (V.pk_t (o2 rfl (sm hz208.p2.p1 rfl)) (v := (.bool true)) (sm hz208.p4.p1 rfl) ?_)
 refine V.gm (sm hz208.p4.p2 rfl) ?_
 refine V.go_on 42 (by kernel_rfl) (sm hz208.p4.p2.p1 rfl) (V.mv (o8 rfl s5_212) ?_)
 refine V.go_on 42 (by kernel_rfl) (o1 rfl (sm hz208.p4.p2.p1 rfl)) (V.pv [(43, .int .i64 8)] ⟨(sm hz208.p8 rfl), trivial⟩ (by kernel_rfl) (.bool true) (by kernel_rfl) ?_)
 refine V.go (V.pk_t (o2 rfl (sm hz208.p4.p2.p1 rfl)) (v := (.bool true)) (sm hz208.p8.p1 rfl) ?_)
 refine V.gm (sm hz208.p8.p2 rfl) ?_
 refine V.go_on 46 (by kernel_rfl) (sm hz208.p8.p2.p1 rfl) (V.mv (o8 rfl (o4 rfl s6_213)) ?_)
 refine V.go_on 46 (by kernel_rfl) (o1 rfl (sm hz208.p8.p2.p1 rfl)) (V.pv [(47, .int .i64 0)] ⟨(sm hz208.p8.p4 rfl), trivial⟩ (by kernel_rfl) (.bool true) (by kernel_rfl) ?_)
 refine V.go (V.pk_t (o2 rfl (sm hz208.p8.p2.p1 rfl)) (v := (.bool true)) (sm hz208.p8.p4.p1 rfl) ?_)
 refine V.gm (sm hz208.p8.p4.p2 rfl) ?_
 refine V.go_on 50 (by kernel_rfl) (sm hz208.p8.p4.p2.p1 rfl) (V.mv (o16 rfl s8_215) ?_)
 refine V.go (V.pk_t (o1 rfl (sm hz208.p8.p4.p2.p1 rfl)) (v := (.bool true)) (sm hz208.p16 rfl) ?_)
 refine V.gm (sm hz208.p16.p1 rfl) ?_
 refine V.go_on 53 (by kernel_rfl) (sm hz208.p16.p2 rfl) (V.mv (o16 rfl (o2 rfl (o1 rfl s7_214))) ?_)
 refine V.go_on 53 (by kernel_rfl) (o1 rfl (sm hz208.p16.p2 rfl)) (V.pv [(54, .int .i64 2)] ⟨(sm hz208.p16.p2.p1 rfl), trivial⟩ (by kernel_rfl) (.bool true) (by kernel_rfl) ?_)
 refine V.go (V.pk_t (o2 rfl (sm hz208.p16.p2 rfl)) (v := (.bool true)) (sm hz208.p16.p4 rfl) ?_)
 refine V.gm (sm hz208.p16.p4.p1 rfl) ?_
 refine V.go_on 57 (by kernel_rfl) (sm hz208.p16.p4.p2 rfl) (V.mv (v := (.pointer (some ⟨t5, 0, none⟩))) (o16 rfl (o4 rfl (o2 rfl (o1 rfl s1_210)))) ?_)
 refine V.go_on 57 (by kernel_rfl) (o1 rfl (sm hz208.p16.p4.p2 rfl)) (V.call 39 #[] #[.pointer (some ⟨t5, 0, none⟩), .string ⟨#[97]⟩] evf (args2 (sm hz208.p16.p4.p2.p1 rfl) evc) (Go.Proofs.enters_of Try.func39 (by kernel_rfl) rfl) (del_any w219 (gr (fun _ => False) w w172) (b23 :: []) t5 al5 hT170q_222 alm5.2 ⟨#[97]⟩ (by decide)) ?_)
 rintro _ w225 ⟨rfl, hT223, hfp224⟩
 refine ⟨_, rfl, ?_⟩
 have hsw225 := hfp224.size
 have hF_226 := hF_220.trP hfp224 (fun k hk => .inr (hk.1.elim (fun q => q.elim) (fun q => by have := q.1; omega)))
 have hB25_227 := hB25_221.frP hfp224 (by exact fun hp => hp.2 (by simp))
 have hT223q : TabX 67 87 86 itI w225 (gr (fun _ => False) w w225) (b23 :: []) t5 al6 := hT223.gr4 (by omega)
 refine V.flushL hz208.p16.p8.p1 (fun a228 hz229 up230 => ?_)
 have s1_231 : a228.eval (.tmp 1) = (.pointer (some ⟨t5, 0, none⟩)) := up230 _ _ (o16 rfl (o8 rfl (o1 rfl s1_210)))
 have s57_232 := up230 57 _ (o2 rfl (sm hz208.p16.p4.p2 rfl))
 have s59_233 : a228.eval (.tmp 59) = (.bool true) := up230 _ _ (sm hz208.p16.p8 rfl)
 clear up230
 refine V.go (V.pk_t (s57_232) (v := (.bool true)) (s59_233) ?_)
 refine V.gm (v := (.bool true)) (sm hz229 rfl) ?_
 refine V.go_on 61 (by kernel_rfl) (sm hz229.p1 rfl) (V.mv (v := (.pointer (some ⟨t5, 0, none⟩))) (o2 rfl s1_231) ?_)
 refine V.go_on 61 (by kernel_rfl) (o1 rfl (sm hz229.p1 rfl)) (V.call 18 #[] #[.pointer (some ⟨t5, 0, none⟩)] evf (args1 (sm hz229.p2 rfl)) (Go.Proofs.enters_of Try.func18 (by kernel_rfl) rfl) (by (have h := len_any w225 (gr (fun _ => False) w w225) (b23 :: []) t5 al6 hT223q; rw [al6_n] at h; exact h)) ?_)
 rintro _ w235 ⟨rfl, hF234⟩
 refine ⟨_, rfl, ?_⟩
 have hsw235 := hF234.size
 have hF_236 := hF_226.new hF234
 have hB25_237 := hB25_227.fr0 hF234
 have hT223q_238 := hT223q.fr0 hF234
 refine V.go_on 61 (by kernel_rfl) (o2 rfl (sm hz229.p1 rfl)) (V.pv [(63, .int .i64 4)] ⟨(sm hz229.p2.p1 rfl), trivial⟩ (by kernel_rfl) (.bool true) (by kernel_rfl) ?_)
 refine V.go (V.pk_t (o2 rfl (o1 rfl (sm hz229.p1 rfl))) (v := (.bool true)) (sm hz229.p4 rfl) ?_)
 refine V.ga (sm hz229.p4.p1 rfl) ?_
 refine V.nil ?_
 refine V.then_n (hK217 _ _ ?_)
 refine V.flushW hz229.p4.p2.p1 (fun a239 hz240 up241 => ?_)
 have s0_242 := up241 0 _ (sm hz229.p4.p2 rfl)
 clear up241
 refine V.ret ?_
 refine V.ret1 hz240 rfl (s0_242) ?_
 exact ⟨rfl, hF_236⟩
end Go.Proofs.Ytalhmegjomfbaaa
