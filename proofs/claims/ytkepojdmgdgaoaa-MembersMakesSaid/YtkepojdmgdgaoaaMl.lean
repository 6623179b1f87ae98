/- Walks: MembersMakes. -/
import Derived.Test.YtkepojdmgdgaoaaProg
import Derived.Test.YtkepojdmgdgaoaaMk
import Derived.Test.YtkepojdmgdgaoaaMg
namespace Go.Proofs.Ytkepojdmgdgaoaa
open Go.V Go.Base
open Go.RowKit (Below)
attribute [local irreducible] Act.put Act.eval
set_option linter.unusedVariables false
set_option linter.unusedSimpArgs false
set_option maxHeartbeats 4000000 in
set_option maxRecDepth 20000 in
theorem membersMakes_any (w : World) (Al : Option Addr) (cl : Nat) (l : List ByteArray) (hSl : SlR Rp.str (fun k => k < w.heap.size) w (.slice Al l.length cl) l) (Am : Option Addr) (cm : Nat) (m : List ByteArray) (hSm : SlR Rp.str (fun k => k < w.heap.size) w (.slice Am m.length cm) m) (x : ByteArray) : Calls Try.prog 5 #[.slice Al l.length cl, .slice Am m.length cm, .string x] w (fun e w' => e = .returned (.bool true) ∧ Fr [] w w') := by
 have hF := Fr.refl [] w
 refine V.en 52 Try.func5 fun a h1 => ?_
 refine V.sr h1 [] 6 6 [] fun a h4 => ?_
 refine V.sg fun K5 k6 => ?_
 refine V.run h4 [] 1 1 0 [(11, .slice Al l.length cl)] fun a h7 => ?_
 refine V.cl h7 (Go.Proofs.enters_of Try.func12 (by kernel_rfl) rfl) (few_any w Al cl l hSl.old) ?_
 rintro _ w11 ⟨rfl, hF8⟩
 refine ⟨_, rfl, fun a h12 => ?_⟩
 have hsw11 := hF8.size
 have hF_13 := hF.new hF8
 have hSl_14 := hSl.fr0 hF8
 have hSm_15 := hSm.fr0 hF8
 have hS9 := (hSl.fr0 hF8).tke 200
 have hfw10 : (l.take 200).length ≤ 200 := by rw [List.length_take]; omega
 refine V.run h12 [] 1 1 0 [(13, .slice Am m.length cm)] fun a h16 => ?_
 refine V.cl h16 (Go.Proofs.enters_of Try.func12 (by kernel_rfl) rfl) (few_any w11 Am cm m hSm_15.old) ?_
 rintro _ w20 ⟨rfl, hF17⟩
 refine ⟨_, rfl, fun a h21 => ?_⟩
 have hsw20 := hF17.size
 have hF_22 := hF_13.new hF17
 have hSl_23 := hSl_14.fr0 hF17
 have hSm_24 := hSm_15.fr0 hF17
 have hS9_25 := hS9.fr0 hF17
 have hS18 := (hSm_15.fr0 hF17).tke 200
 have hfw19 : (m.take 200).length ≤ 200 := by rw [List.length_take]; omega
 refine V.re h21 [] 1 0 [(0, .slice Al ((l.take 200).length) cl), (1, .slice Am ((m.take 200).length) cm)] fun a h26 => k6 _ _ ?_
 refine V.sg fun K27 k28 => ?_
 refine V.run h26 [] 2 1 0 [(16, .slice Am ((m.take 200).length) cm), (17, .string x)] fun a h29 => ?_
 refine V.cl h29 (Go.Proofs.enters_of Try.func19 (by kernel_rfl) rfl) (has_any w20 Am cm (m.take 200) hS18.old (by omega) x) ?_
 rintro _ w31 ⟨rfl, hF30⟩
 refine ⟨_, rfl, fun a h32 => ?_⟩
 have hsw31 := hF30.size
 have hF_33 := hF_22.new hF30
 have hSl_34 := hSl_23.fr0 hF30
 have hSm_35 := hSm_24.fr0 hF30
 have hS9_36 := hS9_25.fr0 hF30
 have hS18_37 := hS18.fr0 hF30
 refine V.re h32 [] 15 20 [(7, .bool (hasB (m.take 200) x)), (8, .int .i64 (chkN (m.take 200)))] fun a h38 => k28 _ _ ?_
 refine V.sg fun K39 k40 => ?_
 refine V.run h38 [] 2 1 0 [(22, .slice Am ((m.take 200).length) cm), (23, .string x)] fun a h41 => ?_
 refine V.cl h41 (Go.Proofs.enters_of Try.func20 (by kernel_rfl) rfl) (rhas_any w31 Am cm (m.take 200) hS18_37.old (by omega) x) ?_
 rintro _ w43 ⟨rfl, hF42⟩
 refine ⟨_, rfl, fun a h44 => ?_⟩
 have hsw43 := hF42.size
 have hF_45 := hF_33.new hF42
 have hSl_46 := hSl_34.fr0 hF42
 have hSm_47 := hSm_35.fr0 hF42
 have hS9_48 := hS9_36.fr0 hF42
 have hS18_49 := hS18_37.fr0 hF42
 refine V.re h44 [] 21 26 [(9, .bool (hasB (m.take 200) x)), (10, .int .i64 (chkN (m.take 200)))] fun a h50 => k40 _ _ ?_
 refine V.sg fun K51 k52 => ?_
 refine V.run h50 [] 1 1 0 [(27, .slice Al ((l.take 200).length) cl)] fun a h53 => ?_
 refine V.cl h53 (Go.Proofs.enters_of Try.func11 (by kernel_rfl) rfl) (of_any w43 Al cl (l.take 200) hS9_48.old (by omega)) ?_
 rintro _ w58 ⟨A54, c55, rfl, hO56, hF57⟩
 refine ⟨_, rfl, fun a h59 => ?_⟩
 have hsw58 := hF57.size
 have hF_60 := hF_45.new hF57
 have hSl_61 := hSl_46.fr0 hF57
 have hSm_62 := hSm_47.fr0 hF57
 have hS9_63 := hS9_48.fr0 hF57
 have hS18_64 := hS18_49.fr0 hF57
 have hO56q := hO56.rebase (base' := w.heap.size) (by omega)
 have hsl57 := setOf_len (l.take 200)
 refine V.run h59 [] 1 1 0 [(29, .slice Al ((l.take 200).length) cl)] fun a h65 => ?_
 refine V.cl h65 (Go.Proofs.enters_of Try.func21 (by kernel_rfl) rfl) (rof_any w58 Al cl (l.take 200) hS9_63.old (by omega)) ?_
 rintro _ w70 ⟨A66, c67, rfl, hO68, hF69⟩
 refine ⟨_, rfl, fun a h71 => ?_⟩
 have hsw70 := hF69.size
 have hF_72 := hF_60.new hF69
 have hSl_73 := hSl_61.fr0 hF69
 have hSm_74 := hSm_62.fr0 hF69
 have hS9_75 := hS9_63.fr0 hF69
 have hS18_76 := hS18_64.fr0 hF69
 have hO56q_77 := hO56q.fr0 hF69
 have hO68q := hO68.rebase (base' := w.heap.size) (by omega)
 have hsl69 := setOf_len (l.take 200)
 have hS78 := hO56q_77.is
 have hS79 := hO68q.is
 refine V.cl h71 (Go.Proofs.enters_of Try.func18 (by kernel_rfl) rfl) (same_any w70 A54 c55 (setOf (l.take 200)) hS78.old A66 c67 hS79.old) ?_
 rintro _ w81 ⟨rfl, hF80⟩
 refine ⟨_, rfl, fun a h82 => ?_⟩
 have hsw81 := hF80.size
 have hF_83 := hF_72.new hF80
 have hSl_84 := hSl_73.fr0 hF80
 have hSm_85 := hSm_74.fr0 hF80
 have hS9_86 := hS9_75.fr0 hF80
 have hS18_87 := hS18_76.fr0 hF80
 have hO56q_88 := hO56q_77.fr0 hF80
 have hO68q_89 := hO68q.fr0 hF80
 have hS78_90 := hS78.fr0 hF80
 have hS79_91 := hS79.fr0 hF80
 refine V.run h82 [] 2 1 0 [(32, .bool true), (33, .slice Am ((m.take 200).length) cm)] fun a h92 => ?_
 refine V.clg h92 (Go.Proofs.enters_of Try.func22 (by kernel_rfl) rfl) (check_any w81 Am cm (m.take 200) hS18_87.old ) ?_
 rintro _ w94 ⟨rfl, hF93⟩
 refine ⟨_, rfl, fun a h95 => ?_⟩
 have hsw94 := hF93.size
 have hF_96 := hF_83.new hF93
 have hSl_97 := hSl_84.fr0 hF93
 have hSm_98 := hSm_85.fr0 hF93
 have hS9_99 := hS9_86.fr0 hF93
 have hS18_100 := hS18_87.fr0 hF93
 have hO56q_101 := hO56q_88.fr0 hF93
 have hO68q_102 := hO68q_89.fr0 hF93
 have hS78_103 := hS78_90.fr0 hF93
 have hS79_104 := hS79_91.fr0 hF93
 have hq93 := chkN_cases (m.take 200)
 refine V.run h95 [] 1 1 0 [(35, .slice Am ((m.take 200).length) cm)] fun a h105 => ?_
 refine V.clg h105 (Go.Proofs.enters_of Try.func23 (by kernel_rfl) rfl) (rcheck_any w94 Am cm (m.take 200) hS18_100.old ) ?_
 rintro _ w107 ⟨rfl, hF106⟩
 refine ⟨_, rfl, fun a h108 => ?_⟩
 have hsw107 := hF106.size
 have hF_109 := hF_96.new hF106
 have hSl_110 := hSl_97.fr0 hF106
 have hSm_111 := hSm_98.fr0 hF106
 have hS9_112 := hS9_99.fr0 hF106
 have hS18_113 := hS18_100.fr0 hF106
 have hO56q_114 := hO56q_101.fr0 hF106
 have hO68q_115 := hO68q_102.fr0 hF106
 have hS78_116 := hS78_103.fr0 hF106
 have hS79_117 := hS79_104.fr0 hF106
 have hq106 := chkN_cases (m.take 200)
 refine V.run h108 [(0, .q (.bool true) (V.t_same (chkN (m.take 200)))), (4, .q (.bool true) (V.t_bsame (hasB (m.take 200) x))), (4, .q (.bool true) (V.t_same (chkN (m.take 200))))] 13 37 48 [(49, .bool true)] fun a h118 => ?_
 refine V.clg h118 (Go.Proofs.enters_of Try.func10 (by kernel_rfl) rfl) (awake_any w107) ?_
 rintro _ w120 ⟨rfl, hF119⟩
 refine ⟨_, rfl, fun a h121 => ?_⟩
 have hsw120 := hF119.size
 have hF_122 := hF_109.new hF119
 have hSl_123 := hSl_110.fr0 hF119
 have hSm_124 := hSm_111.fr0 hF119
 have hS9_125 := hS9_112.fr0 hF119
 have hS18_126 := hS18_113.fr0 hF119
 have hO56q_127 := hO56q_114.fr0 hF119
 have hO68q_128 := hO68q_115.fr0 hF119
 have hS78_129 := hS78_116.fr0 hF119
 have hS79_130 := hS79_117.fr0 hF119
 refine V.re h121 [] 51 51 [(6, .bool true)] fun a h131 => k52 _ _ ?_
 have h132 := h131.only [(6, .bool true)]
 refine V.ret ?_
 refine V.r1 h132 (.bool true) ?_
 exact ⟨rfl, hF_122⟩
end Go.Proofs.Ytkepojdmgdgaoaa
