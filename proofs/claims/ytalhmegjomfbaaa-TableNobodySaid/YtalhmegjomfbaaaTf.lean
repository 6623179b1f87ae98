/- Walks: Look, Get, Step, Sizes, Len, New. -/
import Derived.Test.YtalhmegjomfbaaaProg
import Derived.Test.YtalhmegjomfbaaaTe
namespace Go.Proofs.Ytalhmegjomfbaaa
open Go.V Go.Base
open Go.RowKit (Below)
attribute [local irreducible] Act.put Act.eval
set_option linter.unusedVariables false
set_option linter.unusedSimpArgs false
set_option maxHeartbeats 4000000 in
set_option maxRecDepth 20000 in
theorem look_any (w : World) (H : Nat → Prop) (av : List Nat) (t : Nat) (T1 : Tb Int) (hT : TabX 67 87 86 itI w H av t T1) (k : ByteArray) (hkz : k.size ≤ 9223372036854775807) : Calls Try.prog 22 #[.pointer (some ⟨t, 0, none⟩), .string k] w (fun e w' => e = .returned (.tuple #[.int .i64 (lookT 0 T1 k).1, .bool (lookT 0 T1 k).2]) ∧ Fr [] w w') := by
 have hFP := FrP.refl (gp H av) w
 have hF := Fr.refl [] w
 refine V.enter 38 Try.func22 rfl rfl ?_
 intro a hz ha
 have s0 : a.eval (.tmp 0) = (.pointer (some ⟨t, 0, none⟩)) := ha 0 _ rfl
 have s1 : a.eval (.tmp 1) = (.string k) := ha 1 _ rfl
 clear ha
 refine V.seq (fun K1 hK2 => ?_)
 refine V.rg ?_
 refine V.ga evc ?_
 refine V.ga evc ?_
 refine V.nil ?_
 refine V.then_n (hK2 _ _ ?_)
 refine V.seq (fun K3 hK4 => ?_)
 refine V.rg ?_
 refine V.ga evc ?_
 refine V.nil ?_
 refine V.then_n (hK4 _ _ ?_)
 refine V.seq (fun K5 hK6 => ?_)
 refine V.seq (fun K7 hK8 => ?_)
 refine V.rg ?_
 refine V.gm (o2 rfl (o1 rfl s0)) ?_
 refine V.go (V.call 51 #[] #[.pointer (some ⟨t, 0, none⟩)] evf (args1 (sm hz.p2.p1 rfl)) (Go.Proofs.enters_of Try.func51 (by kernel_rfl) rfl) (made_any w (H) (av) t (T1) hT) ?_)
 rintro _ w10 ⟨rfl, hF9⟩
 refine ⟨_, rfl, ?_⟩
 have hsw10 := hF9.size
 have hT_11 := hT.fr0 hF9
 have hFP_12 := hFP.tr0 hF9
 have hF_13 := hF.new hF9
 refine V.ge_ [(10, .bool true)] ⟨(sm hz.p4 rfl), trivial⟩ (.bool false) ?_
 refine V.nil ?_
 refine V.then_n (hK8 _ _ ?_)
 refine V.flushW hz.p4.p2 (fun a14 hz15 up16 => ?_)
 have s0_17 := up16 0 _ (o4 rfl (o2 rfl s0))
 have s1_18 := up16 1 _ (o4 rfl (o2 rfl s1))
 have s6_19 := up16 6 _ (o2 rfl (o1 rfl (sm hz.p2 rfl)))
 have s11_20 := up16 11 _ (sm hz.p4.p1 rfl)
 clear up16
 refine V.cond_f (s11_20) ?_
 refine V.skip ?_
 refine V.then_n (hK6 _ _ ?_)
 refine V.seq (fun K21 hK22 => ?_)
 refine V.rg ?_
 refine V.gm (s0_17) ?_
 refine V.gm (o1 rfl s1_18) ?_
 have hok1 := hT_11.1
 rcases findT_cases hok1 k with hf | ⟨j, hf, hj⟩ | ⟨hbn, j, hf, hj⟩
 ·
  rcases hT_11.2 with ⟨hb0, gA, vsA, hN⟩ | ⟨hb0, gA, gB, vsA, vsB, hN⟩
  ·
   have hb1 : T1.b.length = 0 := by rw [hb0]; rfl
   obtain ⟨hB, hRA, hlA, hK, hne, hpt, hpg⟩ := hN
   replace hK := hK.toH
   have hltt := hB.lt
   have hltg := hRA.lt
   have hE : FrP (gp (H) av) w10 w10 := FrP.refl _ _
   have hK0 : ∀ k ∈ av, k < w10.heap.size := fun k hk => hK.avl k (by simp [hk])
   obtain ⟨hsd, hpa, hla, hlb, hmv, hmz, hnn, hcn, hks⟩ := (show T1.Ok from hok1)
   have hbl := hok1.bl
   have hFPE := hFP_12
   refine V.go (V.call 53 #[] #[.pointer (some ⟨t, 0, none⟩), .string k] evf (args2 (o1 rfl (sm hz15 rfl)) (sm hz15.p1 rfl)) (Go.Proofs.enters_of Try.func53 (by kernel_rfl) rfl) (by have h := find_any w10 (H) (av) t T1 hT_11 k hkz; rw [hf] at h; exact h) ?_)
   rintro _ w24 ⟨rfl, hF23⟩
   refine ⟨_, rfl, ?_⟩
   have hsw24 := hF23.size
   have hF_25 := hF_13.new hF23
   have hB_26 := hB.fr0 hF23
   have hRA_27 := hRA.fr0 hF23
   have hK_28 := hK.fr0 hF23
   have hE_29 := hE.tr0 hF23
   refine V.gm (sm hz15.p2 rfl) ?_
   refine V.ge_ [(13, .tuple #[.agg #[.int .i64 0, .int .i64 0, .int .i64 0], .bool false])] ⟨(sm hz15.p2.p1 rfl), trivial⟩ (.agg #[.int .i64 0, .int .i64 0, .int .i64 0]) ?_
   refine V.ge_ [(13, .tuple #[.agg #[.int .i64 0, .int .i64 0, .int .i64 0], .bool false])] ⟨(o1 rfl (sm hz15.p2.p1 rfl)), trivial⟩ (.bool false) ?_
   refine V.go (V.mk [] trivial (by kernel_rfl) [.int .i64 0, .int .i64 0, .int .i64 0] 82 (fun b => .pointer (some ⟨b, 0, none⟩)) (by kernel_rfl) ?_)
   intro w31 b30 heb30 hB32 hF33 hsb30
   have hF_34 := hF_25.new hF33
   have hB_35 := hB_26.fr0 hF33
   have hRA_36 := hRA_27.fr0 hF33
   have hK_37 := hK_28.alloc hF33 heb30 (by omega)
   have hE_38 := hE_29.tr0 hF33
   refine V.go (V.stn b30 0 (.agg #[.int .i64 0, .int .i64 0, .int .i64 0]) [.int .i64 0, .int .i64 0, .int .i64 0] (sm hz15.p4.p2 rfl) (o2 rfl (sm hz15.p4 rfl)) rfl rfl (by kernel_rfl) hB32 (by simp) [.int .i64 0, .int .i64 0, .int .i64 0] rfl ?_)
   intro w39 hB40 hF41 hsw39
   have hF_42 := hF_34.own hF41 (by simp <;> omega)
   have hB_43 := hB_35.fr1 hF41 (by omega)
   have hRA_44 := hRA_36.fr1 hF41 (by omega)
   have hK_45 := hK_37.fr hF41 (by simp)
   have hE_46 := hE_38.tr1 hF41 (by first | exact .inl (by assumption) | exact .inr (by omega) | exact .inl (.inl rfl))
   refine V.ga (o1 rfl (sm hz15.p4.p1 rfl)) ?_
   refine V.nil ?_
   refine V.then_n (hK22 _ _ ?_)
   refine V.flushW hz15.p8 (fun a47 hz48 up49 => ?_)
   have s0_50 := up49 0 _ (o8 rfl s0_17)
   have s6_51 := up49 6 _ (o8 rfl s6_19)
   have s7_52 := up49 7 _ (o1 rfl (sm hz15.p4.p2 rfl))
   have s8_53 := up49 8 _ (sm hz15.p4.p2.p1 rfl)
   clear up49
   refine V.seq (fun K54 hK55 => ?_)
   refine V.seq (fun K56 hK57 => ?_)
   refine V.rg ?_
   refine V.gm (s8_53) ?_
   refine V.ge_ [(19, .bool false)] ⟨(sm hz48 rfl), trivial⟩ (.bool true) ?_
   refine V.nil ?_
   refine V.then_n (hK57 _ _ ?_)
   refine V.cond_t (sm hz48.p1 rfl) ?_
   refine V.seq (fun K58 hK59 => ?_)
   refine V.rg ?_
   refine V.gm (o2 rfl s6_51) ?_
   refine V.ga (sm hz48.p2 rfl) ?_
   refine V.ga evc ?_
   refine V.nil ?_
   refine V.then_n (hK59 _ _ ?_)
   refine V.flushW hz48.p4.p1 (fun a60 hz61 up62 => ?_)
   have s0_63 := up62 0 _ (o4 rfl (o1 rfl s0_50))
   have s4_64 := up62 4 _ (o1 rfl (sm hz48.p2.p1 rfl))
   have s5_65 := up62 5 _ (sm hz48.p4 rfl)
   have s7_66 := up62 7 _ (o4 rfl (o1 rfl s7_52))
   clear up62
   refine V.ret ?_
   refine V.then_r ?_
   refine V.ret2 hz61 rfl (s4_64) (s5_65) ?_
   refine ⟨?_, hF_42⟩
   unfold lookT; rw [hf]
   rfl
  ·
   have hb1 : T1.b.length ≠ 0 := fun h => hb0 (List.eq_nil_of_length_eq_zero h)
   obtain ⟨hB, hRA, hRB, hlA, hlB, hK, hne, hne2, hne3, hpt, hpg, hph⟩ := hN
   replace hK := hK.toH
   have hltt := hB.lt
   have hltg := hRA.lt
   have hltg2 := hRB.lt
   have hE : FrP (gp (H) av) w10 w10 := FrP.refl _ _
   have hK0 : ∀ k ∈ av, k < w10.heap.size := fun k hk => hK.avl k (by simp [hk])
   obtain ⟨hsd, hpa, hla, hlb, hmv, hmz, hnn, hcn, hks⟩ := (show T1.Ok from hok1)
   have hbl := hok1.bl
   have hFPE := hFP_12
   refine V.go (V.call 53 #[] #[.pointer (some ⟨t, 0, none⟩), .string k] evf (args2 (o1 rfl (sm hz15 rfl)) (sm hz15.p1 rfl)) (Go.Proofs.enters_of Try.func53 (by kernel_rfl) rfl) (by have h := find_any w10 (H) (av) t T1 hT_11 k hkz; rw [hf] at h; exact h) ?_)
   rintro _ w68 ⟨rfl, hF67⟩
   refine ⟨_, rfl, ?_⟩
   have hsw68 := hF67.size
   have hF_69 := hF_13.new hF67
   have hB_70 := hB.fr0 hF67
   have hRA_71 := hRA.fr0 hF67
   have hRB_72 := hRB.fr0 hF67
   have hK_73 := hK.fr0 hF67
   have hE_74 := hE.tr0 hF67
   refine V.gm (sm hz15.p2 rfl) ?_
   refine V.ge_ [(13, .tuple #[.agg #[.int .i64 0, .int .i64 0, .int .i64 0], .bool false])] ⟨(sm hz15.p2.p1 rfl), trivial⟩ (.agg #[.int .i64 0, .int .i64 0, .int .i64 0]) ?_
   refine V.ge_ [(13, .tuple #[.agg #[.int .i64 0, .int .i64 0, .int .i64 0], .bool false])] ⟨(o1 rfl (sm hz15.p2.p1 rfl)), trivial⟩ (.bool false) ?_
   refine V.go (V.mk [] trivial (by kernel_rfl) [.int .i64 0, .int .i64 0, .int .i64 0] 82 (fun b => .pointer (some ⟨b, 0, none⟩)) (by kernel_rfl) ?_)
   intro w76 b75 heb75 hB77 hF78 hsb75
   have hF_79 := hF_69.new hF78
   have hB_80 := hB_70.fr0 hF78
   have hRA_81 := hRA_71.fr0 hF78
   have hRB_82 := hRB_72.fr0 hF78
   have hK_83 := hK_73.alloc hF78 heb75 (by omega)
   have hE_84 := hE_74.tr0 hF78
   refine V.go (V.stn b75 0 (.agg #[.int .i64 0, .int .i64 0, .int .i64 0]) [.int .i64 0, .int .i64 0, .int .i64 0] (sm hz15.p4.p2 rfl) (o2 rfl (sm hz15.p4 rfl)) rfl rfl (by kernel_rfl) hB77 (by simp) [.int .i64 0, .int .i64 0, .int .i64 0] rfl ?_)
   intro w85 hB86 hF87 hsw85
   have hF_88 := hF_79.own hF87 (by simp <;> omega)
   have hB_89 := hB_80.fr1 hF87 (by omega)
   have hRA_90 := hRA_81.fr1 hF87 (by omega)
   have hRB_91 := hRB_82.fr1 hF87 (by omega)
   have hK_92 := hK_83.fr hF87 (by simp)
   have hE_93 := hE_84.tr1 hF87 (by first | exact .inl (by assumption) | exact .inr (by omega) | exact .inl (.inl rfl))
   refine V.ga (o1 rfl (sm hz15.p4.p1 rfl)) ?_
   refine V.nil ?_
   refine V.then_n (hK22 _ _ ?_)
   refine V.flushW hz15.p8 (fun a94 hz95 up96 => ?_)
   have s0_97 := up96 0 _ (o8 rfl s0_17)
   have s6_98 := up96 6 _ (o8 rfl s6_19)
   have s7_99 := up96 7 _ (o1 rfl (sm hz15.p4.p2 rfl))
   have s8_100 := up96 8 _ (sm hz15.p4.p2.p1 rfl)
   clear up96
   refine V.seq (fun K101 hK102 => ?_)
   refine V.seq (fun K103 hK104 => ?_)
   refine V.rg ?_
   refine V.gm (s8_100) ?_
   refine V.ge_ [(19, .bool false)] ⟨(sm hz95 rfl), trivial⟩ (.bool true) ?_
   refine V.nil ?_
   refine V.then_n (hK104 _ _ ?_)
   refine V.cond_t (sm hz95.p1 rfl) ?_
   refine V.seq (fun K105 hK106 => ?_)
   refine V.rg ?_
   refine V.gm (o2 rfl s6_98) ?_
   refine V.ga (sm hz95.p2 rfl) ?_
   refine V.ga evc ?_
   refine V.nil ?_
   refine V.then_n (hK106 _ _ ?_)
   refine V.flushW hz95.p4.p1 (fun a107 hz108 up109 => ?_)
   have s0_110 := up109 0 _ (o4 rfl (o1 rfl s0_97))
   have s4_111 := up109 4 _ (o1 rfl (sm hz95.p2.p1 rfl))
   have s5_112 := up109 5 _ (sm hz95.p4 rfl)
   have s7_113 := up109 7 _ (o4 rfl (o1 rfl s7_99))
   clear up109
   refine V.ret ?_
   refine V.then_r ?_
   refine V.ret2 hz108 rfl (s4_111) (s5_112) ?_
   refine ⟨?_, hF_88⟩
   unfold lookT; rw [hf]
   rfl
 ·
  rcases hT_11.2 with ⟨hb0, gA, vsA, hN⟩ | ⟨hb0, gA, gB, vsA, vsB, hN⟩
  ·
   have hb1 : T1.b.length = 0 := by rw [hb0]; rfl
   obtain ⟨hB, hRA, hlA, hK, hne, hpt, hpg⟩ := hN
   replace hK := hK.toH
   have hltt := hB.lt
   have hltg := hRA.lt
   have hE : FrP (gp (H) av) w10 w10 := FrP.refl _ _
   have hK0 : ∀ k ∈ av, k < w10.heap.size := fun k hk => hK.avl k (by simp [hk])
   obtain ⟨hsd, hpa, hla, hlb, hmv, hmz, hnn, hcn, hks⟩ := (show T1.Ok from hok1)
   have hbl := hok1.bl
   have hFPE := hFP_12
   refine V.go (V.call 53 #[] #[.pointer (some ⟨t, 0, none⟩), .string k] evf (args2 (o1 rfl (sm hz15 rfl)) (sm hz15.p1 rfl)) (Go.Proofs.enters_of Try.func53 (by kernel_rfl) rfl) (by have h := find_any w10 (H) (av) t T1 hT_11 k hkz; rw [hf] at h; exact h) ?_)
   rintro _ w115 ⟨rfl, hF114⟩
   refine ⟨_, rfl, ?_⟩
   have hsw115 := hF114.size
   have hF_116 := hF_13.new hF114
   have hB_117 := hB.fr0 hF114
   have hRA_118 := hRA.fr0 hF114
   have hK_119 := hK.fr0 hF114
   have hE_120 := hE.tr0 hF114
   have hbkl := bkt_lt T1.seed k (n := T1.a.length) (by omega)
   refine V.gm (sm hz15.p2 rfl) ?_
   refine V.ge_ [(13, .tuple #[.agg #[.int .i64 0, .int .i64 ((bkt T1.seed T1.a.length k : Nat) : Int), .int .i64 (j : Int)], .bool true])] ⟨(sm hz15.p2.p1 rfl), trivial⟩ (.agg #[.int .i64 0, .int .i64 ((bkt T1.seed T1.a.length k : Nat) : Int), .int .i64 (j : Int)]) ?_
   refine V.ge_ [(13, .tuple #[.agg #[.int .i64 0, .int .i64 ((bkt T1.seed T1.a.length k : Nat) : Int), .int .i64 (j : Int)], .bool true])] ⟨(o1 rfl (sm hz15.p2.p1 rfl)), trivial⟩ (.bool true) ?_
   refine V.go (V.mk [] trivial (by kernel_rfl) [.int .i64 0, .int .i64 0, .int .i64 0] 82 (fun b => .pointer (some ⟨b, 0, none⟩)) (by kernel_rfl) ?_)
   intro w122 b121 heb121 hB123 hF124 hsb121
   have hF_125 := hF_116.new hF124
   have hB_126 := hB_117.fr0 hF124
   have hRA_127 := hRA_118.fr0 hF124
   have hK_128 := hK_119.alloc hF124 heb121 (by omega)
   have hE_129 := hE_120.tr0 hF124
   refine V.go (V.stn b121 0 (.agg #[.int .i64 0, .int .i64 ((bkt T1.seed T1.a.length k : Nat) : Int), .int .i64 (j : Int)]) [.int .i64 0, .int .i64 ((bkt T1.seed T1.a.length k : Nat) : Int), .int .i64 (j : Int)] (sm hz15.p4.p2 rfl) (o2 rfl (sm hz15.p4 rfl)) rfl rfl (by kernel_rfl) hB123 (by simp) [.int .i64 0, .int .i64 ((bkt T1.seed T1.a.length k : Nat) : Int), .int .i64 (j : Int)] rfl ?_)
   intro w130 hB131 hF132 hsw130
   have hF_133 := hF_125.own hF132 (by simp <;> omega)
   have hB_134 := hB_126.fr1 hF132 (by omega)
   have hRA_135 := hRA_127.fr1 hF132 (by omega)
   have hK_136 := hK_128.fr hF132 (by simp)
   have hE_137 := hE_129.tr1 hF132 (by first | exact .inl (by assumption) | exact .inr (by omega) | exact .inl (.inl rfl))
   refine V.ga (o1 rfl (sm hz15.p4.p1 rfl)) ?_
   refine V.nil ?_
   refine V.then_n (hK22 _ _ ?_)
   refine V.flushW hz15.p8 (fun a138 hz139 up140 => ?_)
   have s0_141 := up140 0 _ (o8 rfl s0_17)
   have s6_142 := up140 6 _ (o8 rfl s6_19)
   have s7_143 := up140 7 _ (o1 rfl (sm hz15.p4.p2 rfl))
   have s8_144 := up140 8 _ (sm hz15.p4.p2.p1 rfl)
   clear up140
   refine V.seq (fun K145 hK146 => ?_)
   refine V.seq (fun K147 hK148 => ?_)
   refine V.rg ?_
   refine V.gm (s8_144) ?_
   refine V.ge_ [(19, .bool true)] ⟨(sm hz139 rfl), trivial⟩ (.bool false) ?_
   refine V.nil ?_
   refine V.then_n (hK148 _ _ ?_)
   refine V.cond_f (sm hz139.p1 rfl) ?_
   refine V.skip ?_
   refine V.then_n (hK146 _ _ ?_)
   refine V.seq (fun K149 hK150 => ?_)
   refine V.plan [[], [], [1], [0], [0, 3], [0, 1, 2, 3, 4], [0, 1, 2, 3, 4, 5], [], [7], [0, 1, 2, 3, 4, 5, 6, 7, 8], [0, 1, 2, 3, 4, 5, 6, 7, 8, 9], [], [11], [0, 1, 2, 3, 4, 5, 6, 7, 8, 9, 10, 11, 12], [0, 1, 2, 3, 4, 5, 6, 7, 8, 9, 10, 11, 12, 13], [0, 1, 2, 3, 4, 5, 6, 7, 8, 9, 10, 11, 12, 13, 14], [0, 1, 2, 3, 4, 5, 6, 7, 8, 9, 10, 11, 12, 13, 14, 15], [0, 1, 2, 3, 4, 5, 6, 7, 8, 9, 10, 11, 12, 13, 14, 15, 16]] [([0, 1, 2, 3, 4, 5, 6, 7, 8, 9, 10, 11, 12, 13, 14, 15, 16, 17], none)] (by kernel_rfl) (by kernel_rfl) (by exact fun _ _ _ _ h => h) ?_
   simp only [Plan.wpSegs, Plan.pickAll, Plan.nth, V.L_eq]
   obtain ⟨w151, hF152e⟩ : ∃ w1, w1 = w130.drew := ⟨_, rfl⟩
   rw [← hF152e]
   have hF152 : Fr [] w130 w151 := by rw [hF152e]; exact Fr.drew _ _
   have hsw151 : w151.heap.size = w130.heap.size := by rw [hF152e]; rfl
   clear hF152e
   have hF_153 := hF_133.new hF152
   have hB_154 := hB_134.fr0 hF152
   have hRA_155 := hRA_135.fr0 hF152
   have hK_156 := hK_136.fr0 hF152
   have hE_157 := hE_137.tr0 hF152
   have hB131_158 := hB131.fr0 hF152
   refine V.gm (o2 rfl s0_141) ?_
   refine V.ge_ [(7, .pointer (some ⟨b121, 0, none⟩))] ⟨(o2 rfl (o1 rfl s7_143)), trivial⟩ (.pointer (some ⟨b121, 0, none⟩)) ?_
   refine V.go (V.ld ⟨b121, 0, none⟩ (.int .i64 0) (sm hz139.p2.p1 rfl) (by kernel_rfl) (hB131_158.at 0 rfl) ?_)
   refine V.ge_ [(22, .pointer (some ⟨t, 0, none⟩))] ⟨(o2 rfl (sm hz139.p2 rfl)), trivial⟩ (.pointer (some ⟨t, 0, none⟩)) ?_
   refine V.ge_ [(25, .pointer (some ⟨t, 0, none⟩))] ⟨(sm hz139.p4.p1 rfl), trivial⟩ (.pointer (some ⟨t, 1, none⟩)) ?_
   refine V.ge_ [(26, .pointer (some ⟨t, 1, none⟩)), (24, .int .i64 0)] ⟨(sm hz139.p4.p2 rfl), (o2 rfl (sm hz139.p4 rfl)), trivial⟩ (.pointer (some ⟨t, 1, none⟩)) ?_
   refine V.go (V.ld ⟨t, 1, none⟩ (.slice (some ⟨gA, 0, none⟩) T1.a.length T1.a.length) (sm hz139.p4.p2.p1 rfl) (by kernel_rfl) (hB_154.at 1 rfl) ?_)
   refine V.ge_ [(7, .pointer (some ⟨b121, 0, none⟩))] ⟨(o8 rfl (o1 rfl s7_143)), trivial⟩ (.pointer (some ⟨b121, 1, none⟩)) ?_
   refine V.go (V.ld ⟨b121, 1, none⟩ (.int .i64 ((bkt T1.seed T1.a.length k : Nat) : Int)) (sm hz139.p8.p1 rfl) (by kernel_rfl) (hB131_158.at 1 rfl) ?_)
   refine V.go (V.ixa gA 0 T1.a.length T1.a.length .i64 ((bkt T1.seed T1.a.length k : Nat) : Int) 1 (o2 rfl (sm hz139.p8 rfl)) (sm hz139.p8.p2 rfl) (by omega) (by omega) (by kernel_rfl) ?_)
   obtain ⟨A159, c160, hv161⟩ := hK_156.getA hlA (i := (bkt T1.seed T1.a.length k)) (by omega) nilS
   refine V.go (V.ld ⟨gA, 0 + ((bkt T1.seed T1.a.length k : Nat) : Int).toNat * 1, none⟩ (.slice A159 ((T1.a.getD (bkt T1.seed T1.a.length k) []).length) c160) (sm hz139.p8.p2.p1 rfl) (by kernel_rfl) ((hRA_155.at (bkt T1.seed T1.a.length k) nilS (by omega)).trans (congrArg some hv161)) ?_)
   have hS162 := hK_156.slA hlA (i := (bkt T1.seed T1.a.length k)) (by omega) hv161
   refine V.ge_ [(7, .pointer (some ⟨b121, 0, none⟩))] ⟨(o8 rfl (o4 rfl (o1 rfl s7_143))), trivial⟩ (.pointer (some ⟨b121, 2, none⟩)) ?_
   refine V.go (V.ld ⟨b121, 2, none⟩ (.int .i64 (j : Int)) (sm hz139.p8.p4.p1 rfl) (by kernel_rfl) (hB131_158.at 2 rfl) ?_)
   obtain ⟨g163, o164, hA165, hA165l, hA165z⟩ := hS162.addr (by omega)
   refine V.go (V.ixa g163 o164 ((T1.a.getD (bkt T1.seed T1.a.length k) []).length) c160 .i64 (j : Int) 2 ((o2 rfl (sm hz139.p8.p4 rfl)).trans (by rw [hA165])) (sm hz139.p8.p4.p2 rfl) (by omega) (by omega) (by kernel_rfl) ?_)
   refine V.go (V.fa (sm hz139.p8.p4.p2.p1 rfl) 1 (fun _ _ => by kernel_rfl) ?_)
   obtain ⟨cs166, hok167, hE168⟩ := hS162.els hA165 (j : Int) (by omega) (by omega)
   obtain rfl : cs166 = [.string (at_ itI (T1.a.getD (bkt T1.seed T1.a.length k) []) (j : Int)).1, .int .i64 (at_ itI (T1.a.getD (bkt T1.seed T1.a.length k) []) (j : Int)).2] := hok167
   refine V.go (V.ld ⟨g163, (o164 + (j : Int).toNat * 2) + 1, none⟩ (.int .i64 ((at_ itI (T1.a.getD (bkt T1.seed T1.a.length k) []) (j : Int)).2)) (sm hz139.p16 rfl) (by kernel_rfl) (hE168.at 1 rfl) ?_)
   refine V.ga (sm hz139.p16.p1 rfl) ?_
   refine V.ga evc ?_
   refine V.nil ?_
   refine ⟨chk [(22, .pointer (some ⟨t, 0, none⟩))] ⟨(o16 rfl (o1 rfl (sm hz139.p2 rfl))), trivial⟩ (by kernel_rfl), ?_⟩
   refine V.then_n (hK150 _ _ ?_)
   refine V.flushW hz139.p16.p4 (fun a169 hz170 up171 => ?_)
   have s4_172 := up171 4 _ (o1 rfl (sm hz139.p16.p2 rfl))
   have s5_173 := up171 5 _ (sm hz139.p16.p2.p1 rfl)
   clear up171
   refine V.ret ?_
   refine V.ret2 hz170 rfl (s4_172) (s5_173) ?_
   refine ⟨?_, hF_153⟩
   unfold lookT; rw [hf]
   rfl
  ·
   have hb1 : T1.b.length ≠ 0 := fun h => hb0 (List.eq_nil_of_length_eq_zero h)
   obtain ⟨hB, hRA, hRB, hlA, hlB, hK, hne, hne2, hne3, hpt, hpg, hph⟩ := hN
   replace hK := hK.toH
   have hltt := hB.lt
   have hltg := hRA.lt
   have hltg2 := hRB.lt
   have hE : FrP (gp (H) av) w10 w10 := FrP.refl _ _
   have hK0 : ∀ k ∈ av, k < w10.heap.size := fun k hk => hK.avl k (by simp [hk])
   obtain ⟨hsd, hpa, hla, hlb, hmv, hmz, hnn, hcn, hks⟩ := (show T1.Ok from hok1)
   have hbl := hok1.bl
   have hFPE := hFP_12
   refine V.go (V.call 53 #[] #[.pointer (some ⟨t, 0, none⟩), .string k] evf (args2 (o1 rfl (sm hz15 rfl)) (sm hz15.p1 rfl)) (Go.Proofs.enters_of Try.func53 (by kernel_rfl) rfl) (by have h := find_any w10 (H) (av) t T1 hT_11 k hkz; rw [hf] at h; exact h) ?_)
   rintro _ w175 ⟨rfl, hF174⟩
   refine ⟨_, rfl, ?_⟩
   have hsw175 := hF174.size
   have hF_176 := hF_13.new hF174
   have hB_177 := hB.fr0 hF174
   have hRA_178 := hRA.fr0 hF174
   have hRB_179 := hRB.fr0 hF174
   have hK_180 := hK.fr0 hF174
   have hE_181 := hE.tr0 hF174
   have hbkl := bkt_lt T1.seed k (n := T1.a.length) (by omega)
   refine V.gm (sm hz15.p2 rfl) ?_
   refine V.ge_ [(13, .tuple #[.agg #[.int .i64 0, .int .i64 ((bkt T1.seed T1.a.length k : Nat) : Int), .int .i64 (j : Int)], .bool true])] ⟨(sm hz15.p2.p1 rfl), trivial⟩ (.agg #[.int .i64 0, .int .i64 ((bkt T1.seed T1.a.length k : Nat) : Int), .int .i64 (j : Int)]) ?_
   refine V.ge_ [(13, .tuple #[.agg #[.int .i64 0, .int .i64 ((bkt T1.seed T1.a.length k : Nat) : Int), .int .i64 (j : Int)], .bool true])] ⟨(o1 rfl (sm hz15.p2.p1 rfl)), trivial⟩ (.bool true) ?_
   refine V.go (V.mk [] trivial (by kernel_rfl) [.int .i64 0, .int .i64 0, .int .i64 0] 82 (fun b => .pointer (some ⟨b, 0, none⟩)) (by kernel_rfl) ?_)
   intro w183 b182 heb182 hB184 hF185 hsb182
   have hF_186 := hF_176.new hF185
   have hB_187 := hB_177.fr0 hF185
   have hRA_188 := hRA_178.fr0 hF185
   have hRB_189 := hRB_179.fr0 hF185
   have hK_190 := hK_180.alloc hF185 heb182 (by omega)
   have hE_191 := hE_181.tr0 hF185
   refine V.go (V.stn b182 0 (.agg #[.int .i64 0, .int .i64 ((bkt T1.seed T1.a.length k : Nat) : Int), .int .i64 (j : Int)]) [.int .i64 0, .int .i64 ((bkt T1.seed T1.a.length k : Nat) : Int), .int .i64 (j : Int)] (sm hz15.p4.p2 rfl) (o2 rfl (sm hz15.p4 rfl)) rfl rfl (by kernel_rfl) hB184 (by simp) [.int .i64 0, .int .i64 ((bkt T1.seed T1.a.length k : Nat) : Int), .int .i64 (j : Int)] rfl ?_)
   intro w192 hB193 hF194 hsw192
   have hF_195 := hF_186.own hF194 (by simp <;> omega)
   have hB_196 := hB_187.fr1 hF194 (by omega)
   have hRA_197 := hRA_188.fr1 hF194 (by omega)
   have hRB_198 := hRB_189.fr1 hF194 (by omega)
   have hK_199 := hK_190.fr hF194 (by simp)
   have hE_200 := hE_191.tr1 hF194 (by first | exact .inl (by assumption) | exact .inr (by omega) | exact .inl (.inl rfl))
   refine V.ga (o1 rfl (sm hz15.p4.p1 rfl)) ?_
   refine V.nil ?_
   refine V.then_n (hK22 _ _ ?_)
   refine V.flushW hz15.p8 (fun a201 hz202 up203 => ?_)
   have s0_204 := up203 0 _ (o8 rfl s0_17)
   have s6_205 := up203 6 _ (o8 rfl s6_19)
   have s7_206 := up203 7 _ (o1 rfl (sm hz15.p4.p2 rfl))
   have s8_207 := up203 8 _ (sm hz15.p4.p2.p1 rfl)
   clear up203
   refine V.seq (fun K208 hK209 => ?_)
   refine V.seq (fun K210 hK211 => ?_)
   refine V.rg ?_
   refine V.gm (s8_207) ?_
   refine V.ge_ [(19, .bool true)] ⟨(sm hz202 rfl), trivial⟩ (.bool false) ?_
   refine V.nil ?_
   refine V.then_n (hK211 _ _ ?_)
   refine V.cond_f (sm hz202.p1 rfl) ?_
   refine V.skip ?_
   refine V.then_n (hK209 _ _ ?_)
   refine V.seq (fun K212 hK213 => ?_)
   refine V.plan [[], [], [1], [0], [0, 3], [0, 1, 2, 3, 4], [0, 1, 2, 3, 4, 5], [], [7], [0, 1, 2, 3, 4, 5, 6, 7, 8], [0, 1, 2, 3, 4, 5, 6, 7, 8, 9], [], [11], [0, 1, 2, 3, 4, 5, 6, 7, 8, 9, 10, 11, 12], [0, 1, 2, 3, 4, 5, 6, 7, 8, 9, 10, 11, 12, 13], [0, 1, 2, 3, 4, 5, 6, 7, 8, 9, 10, 11, 12, 13, 14], [0, 1, 2, 3, 4, 5, 6, 7, 8, 9, 10, 11, 12, 13, 14, 15], [0, 1, 2, 3, 4, 5, 6, 7, 8, 9, 10, 11, 12, 13, 14, 15, 16]] [([0, 1, 2, 3, 4, 5, 6, 7, 8, 9, 10, 11, 12, 13, 14, 15, 16, 17], none)] (by kernel_rfl) (by kernel_rfl) (by exact fun _ _ _ _ h => h) ?_
   simp only [Plan.wpSegs, Plan.pickAll, Plan.nth, V.L_eq]
   obtain ⟨w214, hF215e⟩ : ∃ w1, w1 = w192.drew := ⟨_, rfl⟩
   rw [← hF215e]
   have hF215 : Fr [] w192 w214 := by rw [hF215e]; exact Fr.drew _ _
   have hsw214 : w214.heap.size = w192.heap.size := by rw [hF215e]; rfl
   clear hF215e
   have hF_216 := hF_195.new hF215
   have hB_217 := hB_196.fr0 hF215
   have hRA_218 := hRA_197.fr0 hF215
   have hRB_219 := hRB_198.fr0 hF215
   have hK_220 := hK_199.fr0 hF215
   have hE_221 := hE_200.tr0 hF215
   have hB193_222 := hB193.fr0 hF215
   refine V.gm (o2 rfl s0_204) ?_
   refine V.ge_ [(7, .pointer (some ⟨b182, 0, none⟩))] ⟨(o2 rfl (o1 rfl s7_206)), trivial⟩ (.pointer (some ⟨b182, 0, none⟩)) ?_
   refine V.go (V.ld ⟨b182, 0, none⟩ (.int .i64 0) (sm hz202.p2.p1 rfl) (by kernel_rfl) (hB193_222.at 0 rfl) ?_)
   refine V.ge_ [(22, .pointer (some ⟨t, 0, none⟩))] ⟨(o2 rfl (sm hz202.p2 rfl)), trivial⟩ (.pointer (some ⟨t, 0, none⟩)) ?_
   refine V.ge_ [(25, .pointer (some ⟨t, 0, none⟩))] ⟨(sm hz202.p4.p1 rfl), trivial⟩ (.pointer (some ⟨t, 1, none⟩)) ?_
   refine V.ge_ [(26, .pointer (some ⟨t, 1, none⟩)), (24, .int .i64 0)] ⟨(sm hz202.p4.p2 rfl), (o2 rfl (sm hz202.p4 rfl)), trivial⟩ (.pointer (some ⟨t, 1, none⟩)) ?_
   refine V.go (V.ld ⟨t, 1, none⟩ (.slice (some ⟨gA, 0, none⟩) T1.a.length T1.a.length) (sm hz202.p4.p2.p1 rfl) (by kernel_rfl) (hB_217.at 1 rfl) ?_)
   refine V.ge_ [(7, .pointer (some ⟨b182, 0, none⟩))] ⟨(o8 rfl (o1 rfl s7_206)), trivial⟩ (.pointer (some ⟨b182, 1, none⟩)) ?_
   refine V.go (V.ld ⟨b182, 1, none⟩ (.int .i64 ((bkt T1.seed T1.a.length k : Nat) : Int)) (sm hz202.p8.p1 rfl) (by kernel_rfl) (hB193_222.at 1 rfl) ?_)
   refine V.go (V.ixa gA 0 T1.a.length T1.a.length .i64 ((bkt T1.seed T1.a.length k : Nat) : Int) 1 (o2 rfl (sm hz202.p8 rfl)) (sm hz202.p8.p2 rfl) (by omega) (by omega) (by kernel_rfl) ?_)
   obtain ⟨A223, c224, hv225⟩ := hK_220.getA hlA (i := (bkt T1.seed T1.a.length k)) (by omega) nilS
   refine V.go (V.ld ⟨gA, 0 + ((bkt T1.seed T1.a.length k : Nat) : Int).toNat * 1, none⟩ (.slice A223 ((T1.a.getD (bkt T1.seed T1.a.length k) []).length) c224) (sm hz202.p8.p2.p1 rfl) (by kernel_rfl) ((hRA_218.at (bkt T1.seed T1.a.length k) nilS (by omega)).trans (congrArg some hv225)) ?_)
   have hS226 := hK_220.slA hlA (i := (bkt T1.seed T1.a.length k)) (by omega) hv225
   refine V.ge_ [(7, .pointer (some ⟨b182, 0, none⟩))] ⟨(o8 rfl (o4 rfl (o1 rfl s7_206))), trivial⟩ (.pointer (some ⟨b182, 2, none⟩)) ?_
   refine V.go (V.ld ⟨b182, 2, none⟩ (.int .i64 (j : Int)) (sm hz202.p8.p4.p1 rfl) (by kernel_rfl) (hB193_222.at 2 rfl) ?_)
   obtain ⟨g227, o228, hA229, hA229l, hA229z⟩ := hS226.addr (by omega)
   refine V.go (V.ixa g227 o228 ((T1.a.getD (bkt T1.seed T1.a.length k) []).length) c224 .i64 (j : Int) 2 ((o2 rfl (sm hz202.p8.p4 rfl)).trans (by rw [hA229])) (sm hz202.p8.p4.p2 rfl) (by omega) (by omega) (by kernel_rfl) ?_)
   refine V.go (V.fa (sm hz202.p8.p4.p2.p1 rfl) 1 (fun _ _ => by kernel_rfl) ?_)
   obtain ⟨cs230, hok231, hE232⟩ := hS226.els hA229 (j : Int) (by omega) (by omega)
   obtain rfl : cs230 = [.string (at_ itI (T1.a.getD (bkt T1.seed T1.a.length k) []) (j : Int)).1, .int .i64 (at_ itI (T1.a.getD (bkt T1.seed T1.a.length k) []) (j : Int)).2] := hok231
   refine V.go (V.ld ⟨g227, (o228 + (j : Int).toNat * 2) + 1, none⟩ (.int .i64 ((at_ itI (T1.a.getD (bkt T1.seed T1.a.length k) []) (j : Int)).2)) (sm hz202.p16 rfl) (by kernel_rfl) (hE232.at 1 rfl) ?_)
   refine V.ga (sm hz202.p16.p1 rfl) ?_
   refine V.ga evc ?_
   refine V.nil ?_
   refine ⟨chk [(22, .pointer (some ⟨t, 0, none⟩))] ⟨(o16 rfl (o1 rfl (sm hz202.p2 rfl))), trivial⟩ (by kernel_rfl), ?_⟩
   refine V.then_n (hK213 _ _ ?_)
   refine V.flushW hz202.p16.p4 (fun a233 hz234 up235 => ?_)
   have s4_236 := up235 4 _ (o1 rfl (sm hz202.p16.p2 rfl))
   have s5_237 := up235 5 _ (sm hz202.p16.p2.p1 rfl)
   clear up235
   refine V.ret ?_
   refine V.ret2 hz234 rfl (s4_236) (s5_237) ?_
   refine ⟨?_, hF_216⟩
   unfold lookT; rw [hf]
   rfl
 ·
  rcases hT_11.2 with ⟨hb0, gA, vsA, hN⟩ | ⟨hb0, gA, gB, vsA, vsB, hN⟩
  ·
   exact absurd (by rw [hb0]; rfl) hbn
  ·
   have hb1 : T1.b.length ≠ 0 := fun h => hb0 (List.eq_nil_of_length_eq_zero h)
   obtain ⟨hB, hRA, hRB, hlA, hlB, hK, hne, hne2, hne3, hpt, hpg, hph⟩ := hN
   replace hK := hK.toH
   have hltt := hB.lt
   have hltg := hRA.lt
   have hltg2 := hRB.lt
   have hE : FrP (gp (H) av) w10 w10 := FrP.refl _ _
   have hK0 : ∀ k ∈ av, k < w10.heap.size := fun k hk => hK.avl k (by simp [hk])
   obtain ⟨hsd, hpa, hla, hlb, hmv, hmz, hnn, hcn, hks⟩ := (show T1.Ok from hok1)
   have hbl := hok1.bl
   have hFPE := hFP_12
   refine V.go (V.call 53 #[] #[.pointer (some ⟨t, 0, none⟩), .string k] evf (args2 (o1 rfl (sm hz15 rfl)) (sm hz15.p1 rfl)) (Go.Proofs.enters_of Try.func53 (by kernel_rfl) rfl) (by have h := find_any w10 (H) (av) t T1 hT_11 k hkz; rw [hf] at h; exact h) ?_)
   rintro _ w239 ⟨rfl, hF238⟩
   refine ⟨_, rfl, ?_⟩
   have hsw239 := hF238.size
   have hF_240 := hF_13.new hF238
   have hB_241 := hB.fr0 hF238
   have hRA_242 := hRA.fr0 hF238
   have hRB_243 := hRB.fr0 hF238
   have hK_244 := hK.fr0 hF238
   have hE_245 := hE.tr0 hF238
   have hbkl := bkt_lt T1.seed k (n := T1.b.length) (by omega)
   refine V.gm (sm hz15.p2 rfl) ?_
   refine V.ge_ [(13, .tuple #[.agg #[.int .i64 1, .int .i64 ((bkt T1.seed T1.b.length k : Nat) : Int), .int .i64 (j : Int)], .bool true])] ⟨(sm hz15.p2.p1 rfl), trivial⟩ (.agg #[.int .i64 1, .int .i64 ((bkt T1.seed T1.b.length k : Nat) : Int), .int .i64 (j : Int)]) ?_
   refine V.ge_ [(13, .tuple #[.agg #[.int .i64 1, .int .i64 ((bkt T1.seed T1.b.length k : Nat) : Int), .int .i64 (j : Int)], .bool true])] ⟨(o1 rfl (sm hz15.p2.p1 rfl)), trivial⟩ (.bool true) ?_
   refine V.go (V.mk [] trivial (by kernel_rfl) [.int .i64 0, .int .i64 0, .int .i64 0] 82 (fun b => .pointer (some ⟨b, 0, none⟩)) (by kernel_rfl) ?_)
   intro w247 b246 heb246 hB248 hF249 hsb246
   have hF_250 := hF_240.new hF249
   have hB_251 := hB_241.fr0 hF249
   have hRA_252 := hRA_242.fr0 hF249
   have hRB_253 := hRB_243.fr0 hF249
   have hK_254 := hK_244.alloc hF249 heb246 (by omega)
   have hE_255 := hE_245.tr0 hF249
   refine V.go (V.stn b246 0 (.agg #[.int .i64 1, .int .i64 ((bkt T1.seed T1.b.length k : Nat) : Int), .int .i64 (j : Int)]) [.int .i64 1, .int .i64 ((bkt T1.seed T1.b.length k : Nat) : Int), .int .i64 (j : Int)] (sm hz15.p4.p2 rfl) (o2 rfl (sm hz15.p4 rfl)) rfl rfl (by kernel_rfl) hB248 (by simp) [.int .i64 1, .int .i64 ((bkt T1.seed T1.b.length k : Nat) : Int), .int .i64 (j : Int)] rfl ?_)
   intro w256 hB257 hF258 hsw256
   have hF_259 := hF_250.own hF258 (by simp <;> omega)
   have hB_260 := hB_251.fr1 hF258 (by omega)
   have hRA_261 := hRA_252.fr1 hF258 (by omega)
   have hRB_262 := hRB_253.fr1 hF258 (by omega)
   have hK_263 := hK_254.fr hF258 (by simp)
   have hE_264 := hE_255.tr1 hF258 (by first | exact .inl (by assumption) | exact .inr (by omega) | exact .inl (.inl rfl))
   refine V.ga (o1 rfl (sm hz15.p4.p1 rfl)) ?_
   refine V.nil ?_
   refine V.then_n (hK22 _ _ ?_)
   refine V.flushW hz15.p8 (fun a265 hz266 up267 => ?_)
   have s0_268 := up267 0 _ (o8 rfl s0_17)
   have s6_269 := up267 6 _ (o8 rfl s6_19)
   have s7_270 := up267 7 _ (o1 rfl (sm hz15.p4.p2 rfl))
   have s8_271 := up267 8 _ (sm hz15.p4.p2.p1 rfl)
   clear up267
   refine V.seq (fun K272 hK273 => ?_)
   refine V.seq (fun K274 hK275 => ?_)
   refine V.rg ?_
   refine V.gm (s8_271) ?_
   refine V.ge_ [(19, .bool true)] ⟨(sm hz266 rfl), trivial⟩ (.bool false) ?_
   refine V.nil ?_
   refine V.then_n (hK275 _ _ ?_)
   refine V.cond_f (sm hz266.p1 rfl) ?_
   refine V.skip ?_
   refine V.then_n (hK273 _ _ ?_)
   refine V.seq (fun K276 hK277 => ?_)
   refine V.plan [[], [], [1], [0], [0, 3], [0, 1, 2, 3, 4], [0, 1, 2, 3, 4, 5], [], [7], [0, 1, 2, 3, 4, 5, 6, 7, 8], [0, 1, 2, 3, 4, 5, 6, 7, 8, 9], [], [11], [0, 1, 2, 3, 4, 5, 6, 7, 8, 9, 10, 11, 12], [0, 1, 2, 3, 4, 5, 6, 7, 8, 9, 10, 11, 12, 13], [0, 1, 2, 3, 4, 5, 6, 7, 8, 9, 10, 11, 12, 13, 14], [0, 1, 2, 3, 4, 5, 6, 7, 8, 9, 10, 11, 12, 13, 14, 15], [0, 1, 2, 3, 4, 5, 6, 7, 8, 9, 10, 11, 12, 13, 14, 15, 16]] [([0, 1, 2, 3, 4, 5, 6, 7, 8, 9, 10, 11, 12, 13, 14, 15, 16, 17], none)] (by kernel_rfl) (by kernel_rfl) (by exact fun _ _ _ _ h => h) ?_
   simp only [Plan.wpSegs, Plan.pickAll, Plan.nth, V.L_eq]
   obtain ⟨w278, hF279e⟩ : ∃ w1, w1 = w256.drew := ⟨_, rfl⟩
   rw [← hF279e]
   have hF279 : Fr [] w256 w278 := by rw [hF279e]; exact Fr.drew _ _
   have hsw278 : w278.heap.size = w256.heap.size := by rw [hF279e]; rfl
   clear hF279e
   have hF_280 := hF_259.new hF279
   have hB_281 := hB_260.fr0 hF279
   have hRA_282 := hRA_261.fr0 hF279
   have hRB_283 := hRB_262.fr0 hF279
   have hK_284 := hK_263.fr0 hF279
   have hE_285 := hE_264.tr0 hF279
   have hB257_286 := hB257.fr0 hF279
   refine V.gm (o2 rfl s0_268) ?_
   refine V.ge_ [(7, .pointer (some ⟨b246, 0, none⟩))] ⟨(o2 rfl (o1 rfl s7_270)), trivial⟩ (.pointer (some ⟨b246, 0, none⟩)) ?_
   refine V.go (V.ld ⟨b246, 0, none⟩ (.int .i64 1) (sm hz266.p2.p1 rfl) (by kernel_rfl) (hB257_286.at 0 rfl) ?_)
   refine V.ge_ [(22, .pointer (some ⟨t, 0, none⟩))] ⟨(o2 rfl (sm hz266.p2 rfl)), trivial⟩ (.pointer (some ⟨t, 0, none⟩)) ?_
   refine V.ge_ [(25, .pointer (some ⟨t, 0, none⟩))] ⟨(sm hz266.p4.p1 rfl), trivial⟩ (.pointer (some ⟨t, 1, none⟩)) ?_
   refine V.ge_ [(26, .pointer (some ⟨t, 1, none⟩)), (24, .int .i64 1)] ⟨(sm hz266.p4.p2 rfl), (o2 rfl (sm hz266.p4 rfl)), trivial⟩ (.pointer (some ⟨t, 2, none⟩)) ?_
   refine V.go (V.ld ⟨t, 2, none⟩ (.slice (some ⟨gB, 0, none⟩) T1.b.length T1.b.length) (sm hz266.p4.p2.p1 rfl) (by kernel_rfl) (hB_281.at 2 rfl) ?_)
   refine V.ge_ [(7, .pointer (some ⟨b246, 0, none⟩))] ⟨(o8 rfl (o1 rfl s7_270)), trivial⟩ (.pointer (some ⟨b246, 1, none⟩)) ?_
   refine V.go (V.ld ⟨b246, 1, none⟩ (.int .i64 ((bkt T1.seed T1.b.length k : Nat) : Int)) (sm hz266.p8.p1 rfl) (by kernel_rfl) (hB257_286.at 1 rfl) ?_)
   refine V.go (V.ixa gB 0 T1.b.length T1.b.length .i64 ((bkt T1.seed T1.b.length k : Nat) : Int) 1 (o2 rfl (sm hz266.p8 rfl)) (sm hz266.p8.p2 rfl) (by omega) (by omega) (by kernel_rfl) ?_)
   obtain ⟨A287, c288, hv289⟩ := hK_284.getB hlA (i := (bkt T1.seed T1.b.length k)) (by omega) nilS
   refine V.go (V.ld ⟨gB, 0 + ((bkt T1.seed T1.b.length k : Nat) : Int).toNat * 1, none⟩ (.slice A287 ((T1.b.getD (bkt T1.seed T1.b.length k) []).length) c288) (sm hz266.p8.p2.p1 rfl) (by kernel_rfl) ((hRB_283.at (bkt T1.seed T1.b.length k) nilS (by omega)).trans (congrArg some hv289)) ?_)
   have hS290 := hK_284.slB hlA (i := (bkt T1.seed T1.b.length k)) (by omega) hv289
   refine V.ge_ [(7, .pointer (some ⟨b246, 0, none⟩))] ⟨(o8 rfl (o4 rfl (o1 rfl s7_270))), trivial⟩ (.pointer (some ⟨b246, 2, none⟩)) ?_
   refine V.go (V.ld ⟨b246, 2, none⟩ (.int .i64 (j : Int)) (sm hz266.p8.p4.p1 rfl) (by kernel_rfl) (hB257_286.at 2 rfl) ?_)
   obtain ⟨g291, o292, hA293, hA293l, hA293z⟩ := hS290.addr (by omega)
   refine V.go (V.ixa g291 o292 ((T1.b.getD (bkt T1.seed T1.b.length k) []).length) c288 .i64 (j : Int) 2 ((o2 rfl (sm hz266.p8.p4 rfl)).trans (by rw [hA293])) (sm hz266.p8.p4.p2 rfl) (by omega) (by omega) (by kernel_rfl) ?_)
   refine V.go (V.fa (sm hz266.p8.p4.p2.p1 rfl) 1 (fun _ _ => by kernel_rfl) ?_)
   obtain ⟨cs294, hok295, hE296⟩ := hS290.els hA293 (j : Int) (by omega) (by omega)
   obtain rfl : cs294 = [.string (at_ itI (T1.b.getD (bkt T1.seed T1.b.length k) []) (j : Int)).1, .int .i64 (at_ itI (T1.b.getD (bkt T1.seed T1.b.length k) []) (j : Int)).2] := hok295
   refine V.go (V.ld ⟨g291, (o292 + (j : Int).toNat * 2) + 1, none⟩ (.int .i64 ((at_ itI (T1.b.getD (bkt T1.seed T1.b.length k) []) (j : Int)).2)) (sm hz266.p16 rfl) (by kernel_rfl) (hE296.at 1 rfl) ?_)
   refine V.ga (sm hz266.p16.p1 rfl) ?_
   refine V.ga evc ?_
   refine V.nil ?_
   refine ⟨chk [(22, .pointer (some ⟨t, 0, none⟩))] ⟨(o16 rfl (o1 rfl (sm hz266.p2 rfl))), trivial⟩ (by kernel_rfl), ?_⟩
   refine V.then_n (hK277 _ _ ?_)
   refine V.flushW hz266.p16.p4 (fun a297 hz298 up299 => ?_)
   have s4_300 := up299 4 _ (o1 rfl (sm hz266.p16.p2 rfl))
   have s5_301 := up299 5 _ (sm hz266.p16.p2.p1 rfl)
   clear up299
   refine V.ret ?_
   refine V.ret2 hz298 rfl (s4_300) (s5_301) ?_
   refine ⟨?_, hF_280⟩
   unfold lookT; rw [hf]
   rfl
set_option maxHeartbeats 4000000 in
set_option maxRecDepth 20000 in
theorem get_any (w : World) (H : Nat → Prop) (av : List Nat) (t : Nat) (T : Tb Int) (hT : TabX 67 87 86 itI w H av t T) (hm : T.Mv) (k : ByteArray) (hkz : k.size ≤ 9223372036854775807) : Calls Try.prog 36 #[.pointer (some ⟨t, 0, none⟩), .string k] w (fun e w' => e = .returned (.tuple #[.int .i64 (lookT 0 (tbStep T) k).1, .bool (lookT 0 (tbStep T) k).2]) ∧ TabX 67 87 86 itI w' (gr H w w') av t (tbStep T) ∧ FrP (gp H av) w w') := by
 have hFP := FrP.refl (gp H av) w
 obtain ⟨hok0, hm1⟩ := tbStep_ok hT.1 hm
 obtain ⟨T1, hT1⟩ : ∃ T1, T1 = tbStep T := ⟨_, rfl⟩
 rw [← hT1] at hok0 hm1 ⊢
 refine V.enter 15 Try.func36 rfl rfl ?_
 intro a hz ha
 have s0 : a.eval (.tmp 0) = (.pointer (some ⟨t, 0, none⟩)) := ha 0 _ rfl
 have s1 : a.eval (.tmp 1) = (.string k) := ha 1 _ rfl
 clear ha
 refine V.seq (fun K1 hK2 => ?_)
 refine V.rg ?_
 refine V.ga evc ?_
 refine V.ga evc ?_
 refine V.nil ?_
 refine V.then_n (hK2 _ _ ?_)
 refine V.seq (fun K3 hK4 => ?_)
 refine V.seq (fun K5 hK6 => ?_)
 refine V.rg ?_
 refine V.gm (o2 rfl s0) ?_
 refine V.go (V.call 51 #[] #[.pointer (some ⟨t, 0, none⟩)] evf (args1 (sm hz.p2 rfl)) (Go.Proofs.enters_of Try.func51 (by kernel_rfl) rfl) (made_any w (H) (av) t (T) hT) ?_)
 rintro _ w8 ⟨rfl, hF7⟩
 refine ⟨_, rfl, ?_⟩
 have hsw8 := hF7.size
 have hT_9 := hT.fr0 hF7
 have hFP_10 := hFP.tr0 hF7
 refine V.nil ?_
 refine V.then_n (hK6 _ _ ?_)
 refine V.flushW hz.p4 (fun a11 hz12 up13 => ?_)
 have s0_14 := up13 0 _ (o4 rfl s0)
 have s1_15 := up13 1 _ (o4 rfl s1)
 have s7_16 : a11.eval (.tmp 7) = (.bool true) := up13 _ _ (sm hz.p2.p1 rfl)
 clear up13
 refine V.cond_t (s7_16) ?_
 refine V.rg ?_
 refine V.gm (s0_14) ?_
 refine V.go (V.call 64 #[] #[.pointer (some ⟨t, 0, none⟩)] evf (args1 (sm hz12 rfl)) (Go.Proofs.enters_of Try.func64 (by kernel_rfl) rfl) (step_any w8 (H) (av) t (T) hT_9 hm) ?_)
 rintro _ w19 ⟨rfl, hT17, hfp18⟩
 refine ⟨_, rfl, ?_⟩
 have hsw19 := hfp18.size
 have hFP_20 := hFP_10.trP hfp18 (fun k hk => .inl hk)
 have hT17q := hT17.grm (w := w) (by omega)
 rw [← hT1] at hT17q
 refine V.nil ?_
 refine V.then_n (hK4 _ _ ?_)
 refine V.seq (fun K21 hK22 => ?_)
 refine V.rg ?_
 refine V.gm (o2 rfl s0_14) ?_
 refine V.gm (o2 rfl (o1 rfl s1_15)) ?_
 refine V.go (V.call 22 #[] #[.pointer (some ⟨t, 0, none⟩), .string k] evf (args2 (o1 rfl (sm hz12.p2 rfl)) (sm hz12.p2.p1 rfl)) (Go.Proofs.enters_of Try.func22 (by kernel_rfl) rfl) (look_any w19 (gr H w w19) (av) t (T1) hT17q k (by first | exact hkz | decide | omega)) ?_)
 rintro _ w24 ⟨rfl, hF23⟩
 refine ⟨_, rfl, ?_⟩
 have hsw24 := hF23.size
 have hFP_25 := hFP_20.tr0 hF23
 have hT17q_26 := hT17q.fr0 hF23
 refine V.ge_ [(12, .tuple #[.int .i64 ((lookT 0 (T1) k).1), .bool ((lookT 0 (T1) k).2)])] ⟨(sm hz12.p4 rfl), trivial⟩ (.int .i64 ((lookT 0 (T1) k).1)) ?_
 refine V.ge_ [(12, .tuple #[.int .i64 ((lookT 0 (T1) k).1), .bool ((lookT 0 (T1) k).2)])] ⟨(o1 rfl (sm hz12.p4 rfl)), trivial⟩ (.bool ((lookT 0 (T1) k).2)) ?_
 refine V.ga (o1 rfl (sm hz12.p4.p1 rfl)) ?_
 refine V.ga (o1 rfl (sm hz12.p4.p2 rfl)) ?_
 refine V.nil ?_
 refine V.then_n (hK22 _ _ ?_)
 refine V.flushW hz12.p8.p1 (fun a27 hz28 up29 => ?_)
 have s4_30 := up29 4 _ (o1 rfl (sm hz12.p4.p2.p1 rfl))
 have s5_31 := up29 5 _ (sm hz12.p8 rfl)
 clear up29
 refine V.ret ?_
 refine V.ret2 hz28 rfl (s4_30) (s5_31) ?_
 exact ⟨rfl, hT17q_26.grl (by omega), hFP_25⟩
set_option maxHeartbeats 4000000 in
set_option maxRecDepth 20000 in
theorem stepx_any (w : World) (H : Nat → Prop) (av : List Nat) (t : Nat) (T : Tb Int) (hT : TabX 67 87 86 itI w H av t T) (hm : T.Mv) : Calls Try.prog 40 #[.pointer (some ⟨t, 0, none⟩)] w (fun e w' => e = .returned (.bool (decide ((tbStep T).b.length ≠ 0))) ∧ TabX 67 87 86 itI w' (gr H w w') av t (tbStep T) ∧ FrP (gp H av) w w') := by
 have hFP := FrP.refl (gp H av) w
 obtain ⟨hok0, hm1⟩ := tbStep_ok hT.1 hm
 obtain ⟨T1, hT1⟩ : ∃ T1, T1 = tbStep T := ⟨_, rfl⟩
 rw [← hT1] at hok0 hm1 ⊢
 refine V.enter 10 Try.func40 rfl rfl ?_
 intro a hz ha
 have s0 : a.eval (.tmp 0) = (.pointer (some ⟨t, 0, none⟩)) := ha 0 _ rfl
 clear ha
 refine V.seq (fun K1 hK2 => ?_)
 refine V.rg ?_
 refine V.ga evc ?_
 refine V.nil ?_
 refine V.then_n (hK2 _ _ ?_)
 refine V.seq (fun K3 hK4 => ?_)
 refine V.seq (fun K5 hK6 => ?_)
 refine V.rg ?_
 refine V.gm (o1 rfl s0) ?_
 refine V.go (V.call 51 #[] #[.pointer (some ⟨t, 0, none⟩)] evf (args1 (sm hz.p1 rfl)) (Go.Proofs.enters_of Try.func51 (by kernel_rfl) rfl) (made_any w (H) (av) t (T) hT) ?_)
 rintro _ w8 ⟨rfl, hF7⟩
 refine ⟨_, rfl, ?_⟩
 have hsw8 := hF7.size
 have hT_9 := hT.fr0 hF7
 have hFP_10 := hFP.tr0 hF7
 refine V.ge_ [(4, .bool true)] ⟨(sm hz.p2 rfl), trivial⟩ (.bool false) ?_
 refine V.nil ?_
 refine V.then_n (hK6 _ _ ?_)
 refine V.flushW hz.p4 (fun a11 hz12 up13 => ?_)
 have s0_14 := up13 0 _ (o4 rfl s0)
 have s5_15 := up13 5 _ (sm hz.p2.p1 rfl)
 clear up13
 refine V.cond_f (s5_15) ?_
 refine V.skip ?_
 refine V.then_n (hK4 _ _ ?_)
 refine V.seq (fun K16 hK17 => ?_)
 refine V.rg ?_
 refine V.gm (s0_14) ?_
 refine V.go (V.call 64 #[] #[.pointer (some ⟨t, 0, none⟩)] evf (args1 (sm hz12 rfl)) (Go.Proofs.enters_of Try.func64 (by kernel_rfl) rfl) (step_any w8 (H) (av) t (T) hT_9 hm) ?_)
 rintro _ w20 ⟨rfl, hT18, hfp19⟩
 refine ⟨_, rfl, ?_⟩
 have hsw20 := hfp19.size
 have hFP_21 := hFP_10.trP hfp19 (fun k hk => .inl hk)
 have hT18q := hT18.grm (w := w) (by omega)
 rw [← hT1] at hT18q
 refine V.nil ?_
 refine V.then_n (hK17 _ _ ?_)
 refine V.seq (fun K22 hK23 => ?_)
 refine V.rg ?_
 refine V.gm (o2 rfl s0_14) ?_
 refine V.go (V.call 65 #[] #[.pointer (some ⟨t, 0, none⟩)] evf (args1 (sm hz12.p2 rfl)) (Go.Proofs.enters_of Try.func65 (by kernel_rfl) rfl) (moves_any w20 (gr H w w20) (av) t (T1) hT18q) ?_)
 rintro _ w25 ⟨rfl, hF24⟩
 refine ⟨_, rfl, ?_⟩
 have hsw25 := hF24.size
 have hFP_26 := hFP_21.tr0 hF24
 have hT18q_27 := hT18q.fr0 hF24
 refine V.ga (v := (.bool (decide ((T1).b.length ≠ 0)))) (sm hz12.p2.p1 rfl) ?_
 refine V.nil ?_
 refine V.then_n (hK23 _ _ ?_)
 refine V.flushW hz12.p4.p1 (fun a28 hz29 up30 => ?_)
 have s2_31 : a28.eval (.tmp 2) = (.bool (decide ((T1).b.length ≠ 0))) := up30 _ _ (sm hz12.p4 rfl)
 clear up30
 refine V.ret ?_
 refine V.ret1 hz29 rfl (s2_31) ?_
 exact ⟨rfl, hT18q_27.grl (by omega), hFP_26⟩
set_option maxHeartbeats 4000000 in
set_option maxRecDepth 20000 in
theorem sizes_N (w : World) (t : Nat) (seed n0 n1 c1 gA gB : Nat) (m1 m2 : Value) (hB : Blk w t [.int .u64 (seed : Int), .slice (some ⟨gA, 0, none⟩) n0 n0, .slice none 0 0, m1, m2] 67) : Calls Try.prog 17 #[.pointer (some ⟨t, 0, none⟩)] w (fun e w' => e = .returned (.tuple #[.int .i64 ((n0 : Nat) : Int), .int .i64 0, m1]) ∧ Fr [] w w') := by
 have hF := Fr.refl [] w
 refine V.enter 24 Try.func17 rfl rfl ?_
 intro a hz ha
 have s0 : a.eval (.tmp 0) = (.pointer (some ⟨t, 0, none⟩)) := ha 0 _ rfl
 clear ha
 refine V.seq (fun K1 hK2 => ?_)
 refine V.rg ?_
 refine V.ga evc ?_
 refine V.ga evc ?_
 refine V.ga evc ?_
 refine V.nil ?_
 refine V.then_n (hK2 _ _ ?_)
 refine V.seq (fun K3 hK4 => ?_)
 refine V.seq (fun K5 hK6 => ?_)
 refine V.rg ?_
 refine V.gm (o2 rfl (o1 rfl s0)) ?_
 refine V.go (V.call 51 #[] #[.pointer (some ⟨t, 0, none⟩)] evf (args1 (sm hz.p2.p1 rfl)) (Go.Proofs.enters_of Try.func51 (by kernel_rfl) rfl) (made_N w t seed n0 0 0 gA 0 m1 m2 hB) ?_)
 rintro _ w8 ⟨rfl, hF7⟩
 refine ⟨_, rfl, ?_⟩
 have hsw8 := hF7.size
 have hF_9 := hF.new hF7
 have hB_10 := hB.fr0 hF7
 refine V.ge_ [(6, .bool true)] ⟨(sm hz.p4 rfl), trivial⟩ (.bool false) ?_
 refine V.nil ?_
 refine V.then_n (hK6 _ _ ?_)
 refine V.flushW hz.p4.p2 (fun a11 hz12 up13 => ?_)
 have s0_14 := up13 0 _ (o4 rfl (o2 rfl s0))
 have s7_15 := up13 7 _ (sm hz.p4.p1 rfl)
 clear up13
 refine V.cond_f (s7_15) ?_
 refine V.skip ?_
 refine V.then_n (hK4 _ _ ?_)
 refine V.seq (fun K16 hK17 => ?_)
 refine V.plan [[], [0], [0, 1], [0, 1, 2], [0, 1, 2, 3], [0, 1, 2, 3, 4], [], [6], [6, 7], [6, 7, 8], [6, 7, 8, 9], [6, 7, 8, 9, 10], [], [12], [12, 13], [12, 13, 14], [0, 1, 2, 3, 4, 5], [0, 1, 2, 3, 4, 5, 6, 7, 8, 9, 10, 11, 16], [0, 1, 2, 3, 4, 5, 6, 7, 8, 9, 10, 11, 12, 13, 14, 15, 16, 17]] [([0, 1, 2, 3, 4, 5, 6, 7, 8, 9, 10, 11, 12, 13, 14, 15, 16, 17, 18], none)] (by kernel_rfl) (by kernel_rfl) (by exact fun _ _ _ _ h => h) ?_
 simp only [Plan.wpSegs, Plan.pickAll, Plan.nth, V.L_eq]
 obtain ⟨w18, hF19e⟩ : ∃ w1, w1 = w8.drew := ⟨_, rfl⟩
 rw [← hF19e]
 have hF19 : Fr [] w8 w18 := by rw [hF19e]; exact Fr.drew _ _
 have hsw18 : w18.heap.size = w8.heap.size := by rw [hF19e]; rfl
 clear hF19e
 have hF_20 := hF_9.new hF19
 have hB_21 := hB_10.fr0 hF19
 refine V.gm (s0_14) ?_
 refine V.ge_ [(8, .pointer (some ⟨t, 0, none⟩))] ⟨(sm hz12 rfl), trivial⟩ (.pointer (some ⟨t, 0, none⟩)) ?_
 refine V.ge_ [(9, .pointer (some ⟨t, 0, none⟩))] ⟨(sm hz12.p1 rfl), trivial⟩ (.pointer (some ⟨t, 1, none⟩)) ?_
 refine V.ge_ [(10, .pointer (some ⟨t, 1, none⟩))] ⟨(sm hz12.p2 rfl), trivial⟩ (.pointer (some ⟨t, 1, none⟩)) ?_
 refine V.go (V.ld ⟨t, 1, none⟩ (.slice (some ⟨gA, 0, none⟩) n0 n0) (sm hz12.p2.p1 rfl) (by kernel_rfl) (hB_21.at 1 rfl) ?_)
 refine V.ge_ [(12, .slice (some ⟨gA, 0, none⟩) n0 n0)] ⟨(sm hz12.p4 rfl), trivial⟩ (.int .i64 ((n0 : Nat) : Int)) ?_
 refine V.gm (o4 rfl (o2 rfl s0_14)) ?_
 refine V.ge_ [(14, .pointer (some ⟨t, 0, none⟩))] ⟨(sm hz12.p4.p2 rfl), trivial⟩ (.pointer (some ⟨t, 0, none⟩)) ?_
 refine V.ge_ [(15, .pointer (some ⟨t, 0, none⟩))] ⟨(sm hz12.p4.p2.p1 rfl), trivial⟩ (.pointer (some ⟨t, 1, none⟩)) ?_
 refine V.ge_ [(16, .pointer (some ⟨t, 1, none⟩))] ⟨(sm hz12.p8 rfl), trivial⟩ (.pointer (some ⟨t, 2, none⟩)) ?_
 refine V.go (V.ld ⟨t, 2, none⟩ (.slice none 0 0) (sm hz12.p8.p1 rfl) (by kernel_rfl) (hB_21.at 2 rfl) ?_)
 refine V.ge_ [(18, .slice none 0 0)] ⟨(sm hz12.p8.p2 rfl), trivial⟩ (.int .i64 0) ?_
 refine V.gm (o8 rfl (o4 rfl s0_14)) ?_
 refine V.ge_ [(20, .pointer (some ⟨t, 0, none⟩))] ⟨(sm hz12.p8.p4 rfl), trivial⟩ (.pointer (some ⟨t, 0, none⟩)) ?_
 refine V.ge_ [(21, .pointer (some ⟨t, 0, none⟩))] ⟨(sm hz12.p8.p4.p1 rfl), trivial⟩ (.pointer (some ⟨t, 3, none⟩)) ?_
 refine V.go (V.ld ⟨t, 3, none⟩ (m1) (sm hz12.p8.p4.p2 rfl) (by kernel_rfl) (hB_21.at 3 rfl) ?_)
 refine V.ga (o8 rfl (o2 rfl (sm hz12.p4.p1 rfl))) ?_
 refine V.ga (o4 rfl (o1 rfl (sm hz12.p8.p2.p1 rfl))) ?_
 refine V.ga (o2 rfl (sm hz12.p8.p4.p2.p1 rfl)) ?_
 refine V.nil ?_
 refine ⟨chk [(8, .pointer (some ⟨t, 0, none⟩)), (12, .slice (some ⟨gA, 0, none⟩) n0 n0), (14, .pointer (some ⟨t, 0, none⟩)), (18, .slice none 0 0), (20, .pointer (some ⟨t, 0, none⟩))] ⟨(o16 rfl (o2 rfl (sm hz12 rfl))), (o8 rfl (o4 rfl (o2 rfl (sm hz12.p4 rfl)))), (o8 rfl (o4 rfl (sm hz12.p4.p2 rfl))), (o8 rfl (sm hz12.p8.p2 rfl)), (o4 rfl (o2 rfl (sm hz12.p8.p4 rfl))), trivial⟩ (by kernel_rfl), ?_⟩
 refine V.then_n (hK17 _ _ ?_)
 refine V.flushW hz12.p16.p2.p1 (fun a22 hz23 up24 => ?_)
 have s2_25 := up24 2 _ (o2 rfl (sm hz12.p16 rfl))
 have s3_26 := up24 3 _ (o1 rfl (sm hz12.p16.p1 rfl))
 have s4_27 := up24 4 _ (sm hz12.p16.p2 rfl)
 clear up24
 refine V.ret ?_
 refine V.ret3 hz23 rfl (s2_25) (s3_26) (s4_27) ?_
 exact ⟨rfl, hF_20⟩
set_option maxHeartbeats 4000000 in
set_option maxRecDepth 20000 in
theorem sizes_M (w : World) (t : Nat) (seed n0 n1 c1 gA gB : Nat) (m1 m2 : Value) (hB : Blk w t [.int .u64 (seed : Int), .slice (some ⟨gA, 0, none⟩) n0 n0, .slice (some ⟨gB, 0, none⟩) n1 n1, m1, m2] 67) : Calls Try.prog 17 #[.pointer (some ⟨t, 0, none⟩)] w (fun e w' => e = .returned (.tuple #[.int .i64 ((n0 : Nat) : Int), .int .i64 ((n1 : Nat) : Int), m1]) ∧ Fr [] w w') := by
 have hF := Fr.refl [] w
 refine V.enter 24 Try.func17 rfl rfl ?_
 intro a hz ha
 have s0 : a.eval (.tmp 0) = (.pointer (some ⟨t, 0, none⟩)) := ha 0 _ rfl
 clear ha
 refine V.seq (fun K1 hK2 => ?_)
 refine V.rg ?_
 refine V.ga evc ?_
 refine V.ga evc ?_
 refine V.ga evc ?_
 refine V.nil ?_
 refine V.then_n (hK2 _ _ ?_)
 refine V.seq (fun K3 hK4 => ?_)
 refine V.seq (fun K5 hK6 => ?_)
 refine V.rg ?_
 refine V.gm (o2 rfl (o1 rfl s0)) ?_
 refine V.go (V.call 51 #[] #[.pointer (some ⟨t, 0, none⟩)] evf (args1 (sm hz.p2.p1 rfl)) (Go.Proofs.enters_of Try.func51 (by kernel_rfl) rfl) (made_M w t seed n0 n1 0 gA gB m1 m2 hB) ?_)
 rintro _ w8 ⟨rfl, hF7⟩
 refine ⟨_, rfl, ?_⟩
 have hsw8 := hF7.size
 have hF_9 := hF.new hF7
 have hB_10 := hB.fr0 hF7
 refine V.ge_ [(6, .bool true)] ⟨(sm hz.p4 rfl), trivial⟩ (.bool false) ?_
 refine V.nil ?_
 refine V.then_n (hK6 _ _ ?_)
 refine V.flushW hz.p4.p2 (fun a11 hz12 up13 => ?_)
 have s0_14 := up13 0 _ (o4 rfl (o2 rfl s0))
 have s7_15 := up13 7 _ (sm hz.p4.p1 rfl)
 clear up13
 refine V.cond_f (s7_15) ?_
 refine V.skip ?_
 refine V.then_n (hK4 _ _ ?_)
 refine V.seq (fun K16 hK17 => ?_)
 refine V.plan [[], [0], [0, 1], [0, 1, 2], [0, 1, 2, 3], [0, 1, 2, 3, 4], [], [6], [6, 7], [6, 7, 8], [6, 7, 8, 9], [6, 7, 8, 9, 10], [], [12], [12, 13], [12, 13, 14], [0, 1, 2, 3, 4, 5], [0, 1, 2, 3, 4, 5, 6, 7, 8, 9, 10, 11, 16], [0, 1, 2, 3, 4, 5, 6, 7, 8, 9, 10, 11, 12, 13, 14, 15, 16, 17]] [([0, 1, 2, 3, 4, 5, 6, 7, 8, 9, 10, 11, 12, 13, 14, 15, 16, 17, 18], none)] (by kernel_rfl) (by kernel_rfl) (by exact fun _ _ _ _ h => h) ?_
 simp only [Plan.wpSegs, Plan.pickAll, Plan.nth, V.L_eq]
 obtain ⟨w18, hF19e⟩ : ∃ w1, w1 = w8.drew := ⟨_, rfl⟩
 rw [← hF19e]
 have hF19 : Fr [] w8 w18 := by rw [hF19e]; exact Fr.drew _ _
 have hsw18 : w18.heap.size = w8.heap.size := by rw [hF19e]; rfl
 clear hF19e
 have hF_20 := hF_9.new hF19
 have hB_21 := hB_10.fr0 hF19
 refine V.gm (s0_14) ?_
 refine V.ge_ [(8, .pointer (some ⟨t, 0, none⟩))] ⟨(sm hz12 rfl), trivial⟩ (.pointer (some ⟨t, 0, none⟩)) ?_
 refine V.ge_ [(9, .pointer (some ⟨t, 0, none⟩))] ⟨(sm hz12.p1 rfl), trivial⟩ (.pointer (some ⟨t, 1, none⟩)) ?_
 refine V.ge_ [(10, .pointer (some ⟨t, 1, none⟩))] ⟨(sm hz12.p2 rfl), trivial⟩ (.pointer (some ⟨t, 1, none⟩)) ?_
 refine V.go (V.ld ⟨t, 1, none⟩ (.slice (some ⟨gA, 0, none⟩) n0 n0) (sm hz12.p2.p1 rfl) (by kernel_rfl) (hB_21.at 1 rfl) ?_)
 refine V.ge_ [(12, .slice (some ⟨gA, 0, none⟩) n0 n0)] ⟨(sm hz12.p4 rfl), trivial⟩ (.int .i64 ((n0 : Nat) : Int)) ?_
 refine V.gm (o4 rfl (o2 rfl s0_14)) ?_
 refine V.ge_ [(14, .pointer (some ⟨t, 0, none⟩))] ⟨(sm hz12.p4.p2 rfl), trivial⟩ (.pointer (some ⟨t, 0, none⟩)) ?_
 refine V.ge_ [(15, .pointer (some ⟨t, 0, none⟩))] ⟨(sm hz12.p4.p2.p1 rfl), trivial⟩ (.pointer (some ⟨t, 1, none⟩)) ?_
 refine V.ge_ [(16, .pointer (some ⟨t, 1, none⟩))] ⟨(sm hz12.p8 rfl), trivial⟩ (.pointer (some ⟨t, 2, none⟩)) ?_
 refine V.go (V.ld ⟨t, 2, none⟩ (.slice (some ⟨gB, 0, none⟩) n1 n1) (sm hz12.p8.p1 rfl) (by kernel_rfl) (hB_21.at 2 rfl) ?_)
 refine V.ge_ [(18, .slice (some ⟨gB, 0, none⟩) n1 n1)] ⟨(sm hz12.p8.p2 rfl), trivial⟩ (.int .i64 ((n1 : Nat) : Int)) ?_
 refine V.gm (o8 rfl (o4 rfl s0_14)) ?_
 refine V.ge_ [(20, .pointer (some ⟨t, 0, none⟩))] ⟨(sm hz12.p8.p4 rfl), trivial⟩ (.pointer (some ⟨t, 0, none⟩)) ?_
 refine V.ge_ [(21, .pointer (some ⟨t, 0, none⟩))] ⟨(sm hz12.p8.p4.p1 rfl), trivial⟩ (.pointer (some ⟨t, 3, none⟩)) ?_
 refine V.go (V.ld ⟨t, 3, none⟩ (m1) (sm hz12.p8.p4.p2 rfl) (by kernel_rfl) (hB_21.at 3 rfl) ?_)
 refine V.ga (o8 rfl (o2 rfl (sm hz12.p4.p1 rfl))) ?_
 refine V.ga (o4 rfl (o1 rfl (sm hz12.p8.p2.p1 rfl))) ?_
 refine V.ga (o2 rfl (sm hz12.p8.p4.p2.p1 rfl)) ?_
 refine V.nil ?_
 refine ⟨chk [(8, .pointer (some ⟨t, 0, none⟩)), (12, .slice (some ⟨gA, 0, none⟩) n0 n0), (14, .pointer (some ⟨t, 0, none⟩)), (18, .slice (some ⟨gB, 0, none⟩) n1 n1), (20, .pointer (some ⟨t, 0, none⟩))] ⟨(o16 rfl (o2 rfl (sm hz12 rfl))), (o8 rfl (o4 rfl (o2 rfl (sm hz12.p4 rfl)))), (o8 rfl (o4 rfl (sm hz12.p4.p2 rfl))), (o8 rfl (sm hz12.p8.p2 rfl)), (o4 rfl (o2 rfl (sm hz12.p8.p4 rfl))), trivial⟩ (by kernel_rfl), ?_⟩
 refine V.then_n (hK17 _ _ ?_)
 refine V.flushW hz12.p16.p2.p1 (fun a22 hz23 up24 => ?_)
 have s2_25 := up24 2 _ (o2 rfl (sm hz12.p16 rfl))
 have s3_26 := up24 3 _ (o1 rfl (sm hz12.p16.p1 rfl))
 have s4_27 := up24 4 _ (sm hz12.p16.p2 rfl)
 clear up24
 refine V.ret ?_
 refine V.ret3 hz23 rfl (s2_25) (s3_26) (s4_27) ?_
 exact ⟨rfl, hF_20⟩
set_option maxHeartbeats 4000000 in
set_option maxRecDepth 20000 in
theorem len_blk (w : World) (t : Nat) (seed n0 c0 : Nat) (A0 : Option Addr) (v1 m1 m2 : Value) (hB : Blk w t [.int .u64 (seed : Int), .slice A0 n0 c0, v1, m1, m2] 67) : Calls Try.prog 18 #[.pointer (some ⟨t, 0, none⟩)] w (fun e w' => e = .returned m2 ∧ Fr [] w w') := by
 have hF := Fr.refl [] w
 refine V.enter 9 Try.func18 rfl rfl ?_
 intro a hz ha
 have s0 : a.eval (.tmp 0) = (.pointer (some ⟨t, 0, none⟩)) := ha 0 _ rfl
 clear ha
 refine V.seq (fun K1 hK2 => ?_)
 refine V.rg ?_
 refine V.ga evc ?_
 refine V.nil ?_
 refine V.then_n (hK2 _ _ ?_)
 refine V.seq (fun K3 hK4 => ?_)
 refine V.seq (fun K5 hK6 => ?_)
 refine V.rg ?_
 refine V.gm (o1 rfl s0) ?_
 refine V.ge_ [(3, .pointer (some ⟨t, 0, none⟩))] ⟨(sm hz.p1 rfl), trivial⟩ (.bool false) ?_
 refine V.nil ?_
 refine V.then_n (hK6 _ _ ?_)
 refine V.cond_f (sm hz.p2 rfl) ?_
 refine V.skip ?_
 refine V.then_n (hK4 _ _ ?_)
 refine V.seq (fun K7 hK8 => ?_)
 refine V.rg ?_
 refine V.gm (o2 rfl (o1 rfl s0)) ?_
 refine V.ge_ [(5, .pointer (some ⟨t, 0, none⟩))] ⟨(sm hz.p2.p1 rfl), trivial⟩ (.pointer (some ⟨t, 0, none⟩)) ?_
 refine V.ge_ [(6, .pointer (some ⟨t, 0, none⟩))] ⟨(sm hz.p4 rfl), trivial⟩ (.pointer (some ⟨t, 4, none⟩)) ?_
 refine V.go (V.ld ⟨t, 4, none⟩ (m2) (sm hz.p4.p1 rfl) (by kernel_rfl) (hB.at 4 rfl) ?_)
 refine V.ga (sm hz.p4.p2 rfl) ?_
 refine V.nil ?_
 refine V.then_n (hK8 _ _ ?_)
 refine V.flushW hz.p8 (fun a9 hz10 up11 => ?_)
 have s2_12 := up11 2 _ (sm hz.p4.p2.p1 rfl)
 clear up11
 refine V.ret ?_
 refine V.ret1 hz10 rfl (s2_12) ?_
 exact ⟨rfl, hF⟩
set_option maxHeartbeats 4000000 in
set_option maxRecDepth 20000 in
theorem new_any (w : World) (av : List Nat) (hav : ∀ k ∈ av, k < w.heap.size) (seed : Nat) (hsd : seed < 18446744073709551616) : Calls Try.prog 14 #[.int .u64 (seed : Int)] w (fun e w' => ∃ t, e = .returned (.pointer (some ⟨t, 0, none⟩)) ∧ TabX 67 87 86 itI w' (gr (fun _ => False) w w') av t (newT seed) ∧ Fr [] w w') := by
 have hF := Fr.refl [] w
 refine V.enter 13 Try.func14 rfl rfl ?_
 intro a hz ha
 have s0 : a.eval (.tmp 0) = (.int .u64 (seed : Int)) := ha 0 _ rfl
 clear ha
 refine V.seq (fun K1 hK2 => ?_)
 refine V.rg ?_
 refine V.ga evc ?_
 refine V.nil ?_
 refine V.then_n (hK2 _ _ ?_)
 refine V.seq (fun K3 hK4 => ?_)
 refine V.rg ?_
 refine V.gm (o1 rfl s0) ?_
 refine V.ge_ [(4, .int .u64 (seed : Int))] ⟨(sm hz.p1 rfl), trivial⟩ (.agg #[.int .u64 (seed : Int), .slice none 0 0, .slice none 0 0, .int .i64 0, .int .i64 0]) ?_
 refine V.go (V.mk [(5, .agg #[.int .u64 (seed : Int), .slice none 0 0, .slice none 0 0, .int .i64 0, .int .i64 0])] ⟨(sm hz.p2 rfl), trivial⟩ (by kernel_rfl) [.int .u64 (seed : Int), .slice none 0 0, .slice none 0 0, .int .i64 0, .int .i64 0] 67 (fun b => .pointer (some ⟨b, 0, none⟩)) (by kernel_rfl) ?_)
 intro w6 b5 heb5 hB7 hF8 hsb5
 have hF_9 := hF.new hF8
 refine V.ga (sm hz.p2.p1 rfl) ?_
 refine V.nil ?_
 refine V.then_n (hK4 _ _ ?_)
 refine V.flushW hz.p4.p1 (fun a10 hz11 up12 => ?_)
 have s3_13 := up12 3 _ (sm hz.p4 rfl)
 clear up12
 refine V.seq (fun K14 hK15 => ?_)
 refine V.plan [[], [], [0], [0, 2], [0, 1, 2, 3], [0, 1, 2, 3, 4]] [([0, 2, 3], some (1, [])), ([4], some (5, [])), ([], none)] (by kernel_rfl) (by kernel_rfl) (by exact fun _ _ _ _ h => h) ?_
 simp only [Plan.wpSegs, Plan.pickAll, Plan.nth, V.L_eq]
 obtain ⟨w16, hF17e⟩ : ∃ w1, w1 = w6.drew := ⟨_, rfl⟩
 rw [← hF17e]
 have hF17 : Fr [] w6 w16 := by rw [hF17e]; exact Fr.drew _ _
 have hsw16 : w16.heap.size = w6.heap.size := by rw [hF17e]; rfl
 clear hF17e
 have hF_18 := hF_9.new hF17
 have hB7_19 := hB7.fr0 hF17
 refine V.gm (s3_13) ?_
 refine V.ge_ [(7, .pointer (some ⟨b5, 0, none⟩))] ⟨(sm hz11 rfl), trivial⟩ (.pointer (some ⟨b5, 0, none⟩)) ?_
 refine V.ge_ [(9, .pointer (some ⟨b5, 0, none⟩))] ⟨(sm hz11.p1 rfl), trivial⟩ (.pointer (some ⟨b5, 1, none⟩)) ?_
 refine V.nil ?_
 refine ⟨chk [(7, .pointer (some ⟨b5, 0, none⟩))] ⟨(o2 rfl (sm hz11 rfl)), trivial⟩ (by kernel_rfl), ?_⟩
 refine V.go (V.mks (enc := idV) (4) (.slice none 0 0) nilS 24 (evc.trans (V.int_eq (by omega))) (evc.trans (V.int_eq (by omega))) (by kernel_rfl) info87 rfl rfl (by omega) (by omega) ?_)
 intro w21 b20 heb20 hR22 hF23
 have hsb20 := hR22.lt
 have hF_24 := hF_18.new hF23
 have hB7_25 := hB7_19.fr0 hF23
 refine V.nil ?_
 refine ⟨trivial, ?_⟩
 refine V.ge_ [(10, .pointer (some ⟨b5, 1, none⟩))] ⟨(o1 rfl (sm hz11.p2 rfl)), trivial⟩ (.pointer (some ⟨b5, 1, none⟩)) ?_
 refine V.nil ?_
 refine ⟨chk [] trivial (by kernel_rfl), ?_⟩
 refine V.go (V.stn b5 1 (.slice (some ⟨b20, 0, none⟩) 4 4) [.slice (some ⟨b20, 0, none⟩) 4 4] (sm hz11.p4 rfl) (o1 rfl (sm hz11.p2.p1 rfl)) rfl rfl (by kernel_rfl) hB7_25 (by simp) [.int .u64 (seed : Int), .slice (some ⟨b20, 0, none⟩) 4 4, .slice none 0 0, .int .i64 0, .int .i64 0] rfl ?_)
 intro w26 hB27 hF28 hsw26
 have hF_29 := hF_24.own hF28 (by simp <;> omega)
 have hR22_30 := hR22.fr1 hF28 (by omega)
 refine V.nil ?_
 refine ⟨trivial, ?_⟩
 refine V.nil ?_
 refine ⟨chk [] trivial (by kernel_rfl), ?_⟩
 refine V.then_n (hK15 _ _ ?_)
 refine V.flushW hz11.p4.p1 (fun a31 hz32 up33 => ?_)
 have s3_34 := up33 3 _ (o4 rfl (o1 rfl s3_13))
 clear up33
 refine V.seq (fun K35 hK36 => ?_)
 refine V.rg ?_
 refine V.gm (s3_34) ?_
 refine V.ga (sm hz32 rfl) ?_
 refine V.nil ?_
 refine V.then_n (hK36 _ _ ?_)
 refine V.ret ?_
 refine V.ret1 hz32.p2 rfl (sm hz32.p1 rfl) ?_
 exact ⟨b5, rfl, newT_tab hB27 hR22_30 (by omega) (by omega) (by omega) hsd hav, hF_29⟩
theorem sizes_any (w : World) (H : Nat → Prop) (av : List Nat) (t : Nat) (T : Tb Int) (hT : TabX 67 87 86 itI w H av t T) :
    Calls Try.prog 17 #[.pointer (some ⟨t, 0, none⟩)] w (fun e w' => e = .returned (.tuple #[.int .i64 (T.a.length : Int), .int .i64 (T.b.length : Int), .int .i64 (T.moved : Int)]) ∧ Fr [] w w') := by
  rcases hT.2 with ⟨hb, gA, vsA, h⟩ | ⟨hb, gA, gB, vsA, vsB, h⟩
  · rw [hb]; exact sizes_N w t T.seed T.a.length 0 0 gA 0 _ _ h.blk
  · exact sizes_M w t T.seed T.a.length T.b.length 0 gA gB _ _ h.blk
theorem len_any (w : World) (H : Nat → Prop) (av : List Nat) (t : Nat) (T : Tb Int) (hT : TabX 67 87 86 itI w H av t T) :
    Calls Try.prog 18 #[.pointer (some ⟨t, 0, none⟩)] w (fun e w' => e = .returned (.int .i64 (T.n : Int)) ∧ Fr [] w w') := by
  rcases hT.2 with ⟨hb, gA, vsA, h⟩ | ⟨hb, gA, gB, vsA, vsB, h⟩
  · exact len_blk w t T.seed T.a.length T.a.length _ _ _ _ h.blk
  · exact len_blk w t T.seed T.a.length T.a.length _ _ _ _ h.blk
end Go.Proofs.Ytalhmegjomfbaaa
