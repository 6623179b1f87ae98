/- Walks: MembersChanges. -/
import Derived.Test.YtkepojdmgdgaoaaProg
import Derived.Test.YtkepojdmgdgaoaaMo
import Derived.Test.YtkepojdmgdgaoaaMp2
import Derived.Test.YtkepojdmgdgaoaaMg
namespace Go.Proofs.Ytkepojdmgdgaoaa
open Go.V Go.Base
open Go.RowKit (Below)
attribute [local irreducible] Act.put Act.eval
set_option linter.unusedVariables false
set_option linter.unusedSimpArgs false
set_option maxHeartbeats 4000000 in
set_option maxRecDepth 20000 in
theorem membersChanges_any (w : World) (Al : Option Addr) (cl : Nat) (l : List ByteArray) (hSl : SlR Rp.str (fun k => k < w.heap.size) w (.slice Al l.length cl) l) (Am : Option Addr) (cm : Nat) (m : List ByteArray) (hSm : SlR Rp.str (fun k => k < w.heap.size) w (.slice Am m.length cm) m) (hzl : ∀ s ∈ l, s.size ≤ maxLen) (hzm : ∀ s ∈ m, s.size ≤ maxLen) : Calls Try.prog 6 #[.slice Al l.length cl, .slice Am m.length cm] w (fun e w' => e = .returned (.bool true) ∧ Fr [] w w') := by
 have hF := Fr.refl [] w
 refine V.en 80 Try.func6 fun a h1 => ?_
 refine V.sr h1 [] 4 4 [] fun a h4 => ?_
 refine V.sg fun K5 k6 => ?_
 refine V.run h4 [] 1 1 0 [(17, .slice Al l.length cl)] fun a h7 => ?_
 refine V.cl h7 (Go.Proofs.enters_of Try.func12 (by kernel_rfl) rfl) (few_any w Al cl l hSl.old) ?_
 rintro _ w11 ⟨rfl, hF8⟩
 refine ⟨_, rfl, fun a h12 => ?_⟩
 have hsw11 := hF8.size
 have hF_13 := hF.new hF8
 have hSl_14 := hSl.fr0 hF8
 have hSm_15 := hSm.fr0 hF8
 have hS9 := (hSl.fr0 hF8).tke 200
 have hfw10 : (l.take 200).length ≤ 200 := by rw [List.length_take]; omega
 refine V.run h12 [] 1 1 0 [(19, .slice Am m.length cm)] fun a h16 => ?_
 refine V.cl h16 (Go.Proofs.enters_of Try.func12 (by kernel_rfl) rfl) (few_any w11 Am cm m hSm_15.old) ?_
 rintro _ w20 ⟨rfl, hF17⟩
 refine ⟨_, rfl, fun a h21 => ?_⟩
 have hsw20 := hF17.size
 have hF_22 := hF_13.new hF17
 have hSl_23 := hSl_14.fr0 hF17
 have hSm_24 := hSm_15.fr0 hF17
 have hS9_25 := hS9.fr0 hF17
 have hS18 := (hSm_15.fr0 hF17).tke 200
 have hfw19 : (m.take 200).length ≤ 200 := by rw [List.length_take]; omega
 refine V.re h21 [] 1 0 [(0, .slice Al ((l.take 200).length) cl), (1, .slice Am ((m.take 200).length) cm)] fun a h26 => k6 _ _ ?_
 refine V.sg fun K27 k28 => ?_
 refine V.run h26 [] 2 1 0 [(22, .slice Al ((l.take 200).length) cl), (23, .slice Am ((m.take 200).length) cm)] fun a h29 => ?_
 refine V.cl h29 (Go.Proofs.enters_of Try.func24 (by kernel_rfl) rfl) (add_any w20 Al cl (l.take 200) hS9_25.old Am cm (m.take 200) hS18.old (by simp <;> omega) (by simp <;> omega)) ?_
 rintro _ w34 ⟨A30, c31, rfl, hO32, hF33⟩
 refine ⟨_, rfl, fun a h35 => ?_⟩
 have hsw34 := hF33.size
 have hF_36 := hF_22.new hF33
 have hSl_37 := hSl_23.fr0 hF33
 have hSm_38 := hSm_24.fr0 hF33
 have hS9_39 := hS9_25.fr0 hF33
 have hS18_40 := hS18.fr0 hF33
 have hO32q := hO32.rebase (base' := w.heap.size) (by omega)
 refine V.re h35 [] 21 27 [(5, .slice A30 ((addS (l.take 200) (m.take 200)).length) c31), (6, .int .i64 (addN (l.take 200) (m.take 200))), (7, .int .i64 (chkN (l.take 200)))] fun a h41 => k28 _ _ ?_
 refine V.sg fun K42 k43 => ?_
 refine V.run h41 [] 2 1 0 [(29, .slice Al ((l.take 200).length) cl), (30, .slice Am ((m.take 200).length) cm)] fun a h44 => ?_
 refine V.cl h44 (Go.Proofs.enters_of Try.func25 (by kernel_rfl) rfl) (radd_any w34 Al cl (l.take 200) hS9_39.old Am cm (m.take 200) hS18_40.old (by simp <;> omega) (by simp <;> omega)) ?_
 rintro _ w49 ⟨A45, c46, rfl, hO47, hF48⟩
 refine ⟨_, rfl, fun a h50 => ?_⟩
 have hsw49 := hF48.size
 have hF_51 := hF_36.new hF48
 have hSl_52 := hSl_37.fr0 hF48
 have hSm_53 := hSm_38.fr0 hF48
 have hS9_54 := hS9_39.fr0 hF48
 have hS18_55 := hS18_40.fr0 hF48
 have hO32q_56 := hO32q.fr0 hF48
 have hO47q := hO47.rebase (base' := w.heap.size) (by omega)
 refine V.re h50 [] 28 34 [(8, .slice A45 ((addS (l.take 200) (m.take 200)).length) c46), (9, .int .i64 (addN (l.take 200) (m.take 200))), (10, .int .i64 (chkN (l.take 200)))] fun a h57 => k43 _ _ ?_
 refine V.sg fun K58 k59 => ?_
 refine V.run h57 [] 2 1 0 [(36, .slice Al ((l.take 200).length) cl), (37, .slice Am ((m.take 200).length) cm)] fun a h60 => ?_
 refine V.cl h60 (Go.Proofs.enters_of Try.func26 (by kernel_rfl) rfl) (del_any w49 Al cl (l.take 200) hS9_54.old Am cm (m.take 200) hS18_55.old (by simp <;> omega) (by simp <;> omega) (fun s hs => hzl s (List.mem_of_mem_take hs)) (fun s hs => hzm s (List.mem_of_mem_take hs))) ?_
 rintro _ w65 ⟨A61, c62, rfl, hO63, hF64⟩
 refine ⟨_, rfl, fun a h66 => ?_⟩
 have hsw65 := hF64.size
 have hF_67 := hF_51.new hF64
 have hSl_68 := hSl_52.fr0 hF64
 have hSm_69 := hSm_53.fr0 hF64
 have hS9_70 := hS9_54.fr0 hF64
 have hS18_71 := hS18_55.fr0 hF64
 have hO32q_72 := hO32q_56.fr0 hF64
 have hO47q_73 := hO47q.fr0 hF64
 have hO63q := hO63.rebase (base' := w.heap.size) (by omega)
 refine V.re h66 [] 35 41 [(11, .slice A61 ((delS (l.take 200) (m.take 200)).length) c62), (12, .int .i64 (delN (l.take 200) (m.take 200))), (13, .int .i64 (chkN (l.take 200)))] fun a h74 => k59 _ _ ?_
 refine V.sg fun K75 k76 => ?_
 refine V.run h74 [] 2 1 0 [(43, .slice Al ((l.take 200).length) cl), (44, .slice Am ((m.take 200).length) cm)] fun a h77 => ?_
 refine V.cl h77 (Go.Proofs.enters_of Try.func27 (by kernel_rfl) rfl) (rdel_any w65 Al cl (l.take 200) hS9_70.old Am cm (m.take 200) hS18_71.old (by simp <;> omega) (by simp <;> omega)) ?_
 rintro _ w82 ⟨A78, c79, rfl, hO80, hF81⟩
 refine ⟨_, rfl, fun a h83 => ?_⟩
 have hsw82 := hF81.size
 have hF_84 := hF_67.new hF81
 have hSl_85 := hSl_68.fr0 hF81
 have hSm_86 := hSm_69.fr0 hF81
 have hS9_87 := hS9_70.fr0 hF81
 have hS18_88 := hS18_71.fr0 hF81
 have hO32q_89 := hO32q_72.fr0 hF81
 have hO47q_90 := hO47q_73.fr0 hF81
 have hO63q_91 := hO63q.fr0 hF81
 have hO80q := hO80.rebase (base' := w.heap.size) (by omega)
 refine V.re h83 [] 42 48 [(14, .slice A78 ((delS (l.take 200) (m.take 200)).length) c79), (15, .int .i64 (delN (l.take 200) (m.take 200))), (16, .int .i64 (chkN (l.take 200)))] fun a h92 => k76 _ _ ?_
 have h93 := h92.only [(5, .slice A30 ((addS (l.take 200) (m.take 200)).length) c31), (6, .int .i64 (addN (l.take 200) (m.take 200))), (7, .int .i64 (chkN (l.take 200))), (8, .slice A45 ((addS (l.take 200) (m.take 200)).length) c46), (9, .int .i64 (addN (l.take 200) (m.take 200))), (10, .int .i64 (chkN (l.take 200))), (11, .slice A61 ((delS (l.take 200) (m.take 200)).length) c62), (12, .int .i64 (delN (l.take 200) (m.take 200))), (13, .int .i64 (chkN (l.take 200))), (14, .slice A78 ((delS (l.take 200) (m.take 200)).length) c79), (15, .int .i64 (delN (l.take 200) (m.take 200))), (16, .int .i64 (chkN (l.take 200)))]
 refine V.sg fun K94 k95 => ?_
 refine V.run h93 [] 2 1 0 [(49, .slice A30 ((addS (l.take 200) (m.take 200)).length) c31), (50, .slice A45 ((addS (l.take 200) (m.take 200)).length) c46)] fun a h96 => ?_
 have hS97 := hO32q_89.is
 have hS98 := hO47q_90.is
 refine V.cl h96 (Go.Proofs.enters_of Try.func18 (by kernel_rfl) rfl) (same_any w82 A30 c31 (addS (l.take 200) (m.take 200)) hS97.old A45 c46 hS98.old) ?_
 rintro _ w100 ⟨rfl, hF99⟩
 refine ⟨_, rfl, fun a h101 => ?_⟩
 have hsw100 := hF99.size
 have hF_102 := hF_84.new hF99
 have hSl_103 := hSl_85.fr0 hF99
 have hSm_104 := hSm_86.fr0 hF99
 have hS9_105 := hS9_87.fr0 hF99
 have hS18_106 := hS18_88.fr0 hF99
 have hO32q_107 := hO32q_89.fr0 hF99
 have hO47q_108 := hO47q_90.fr0 hF99
 have hO63q_109 := hO63q_91.fr0 hF99
 have hO80q_110 := hO80q.fr0 hF99
 have hS97_111 := hS97.fr0 hF99
 have hS98_112 := hS98.fr0 hF99
 refine V.run h101 [(3, .q (.bool true) (V.t_same (addN (l.take 200) (m.take 200)))), (4, .q (.bool true) (V.t_same (chkN (l.take 200))))] 13 52 61 [(62, .bool true), (63, .slice A61 ((delS (l.take 200) (m.take 200)).length) c62), (64, .slice A78 ((delS (l.take 200) (m.take 200)).length) c79)] fun a h113 => ?_
 have hS114 := hO63q_109.is
 have hS115 := hO80q_110.is
 refine V.clg h113 (Go.Proofs.enters_of Try.func18 (by kernel_rfl) rfl) (same_any w100 A61 c62 (delS (l.take 200) (m.take 200)) hS114.old A78 c79 hS115.old) ?_
 rintro _ w117 ⟨rfl, hF116⟩
 refine ⟨_, rfl, fun a h118 => ?_⟩
 have hsw117 := hF116.size
 have hF_119 := hF_102.new hF116
 have hSl_120 := hSl_103.fr0 hF116
 have hSm_121 := hSm_104.fr0 hF116
 have hS9_122 := hS9_105.fr0 hF116
 have hS18_123 := hS18_106.fr0 hF116
 have hO32q_124 := hO32q_107.fr0 hF116
 have hO47q_125 := hO47q_108.fr0 hF116
 have hO63q_126 := hO63q_109.fr0 hF116
 have hO80q_127 := hO80q_110.fr0 hF116
 have hS97_128 := hS97_111.fr0 hF116
 have hS98_129 := hS98_112.fr0 hF116
 have hS114_130 := hS114.fr0 hF116
 have hS115_131 := hS115.fr0 hF116
 refine V.run h118 [(4, .q (.bool true) (V.t_same (delN (l.take 200) (m.take 200)))), (4, .q (.bool true) (V.t_same (chkN (l.take 200))))] 12 66 76 [(77, .bool true)] fun a h132 => ?_
 refine V.clg h132 (Go.Proofs.enters_of Try.func10 (by kernel_rfl) rfl) (awake_any w117) ?_
 rintro _ w134 ⟨rfl, hF133⟩
 refine ⟨_, rfl, fun a h135 => ?_⟩
 have hsw134 := hF133.size
 have hF_136 := hF_119.new hF133
 have hSl_137 := hSl_120.fr0 hF133
 have hSm_138 := hSm_121.fr0 hF133
 have hS9_139 := hS9_122.fr0 hF133
 have hS18_140 := hS18_123.fr0 hF133
 have hO32q_141 := hO32q_124.fr0 hF133
 have hO47q_142 := hO47q_125.fr0 hF133
 have hO63q_143 := hO63q_126.fr0 hF133
 have hO80q_144 := hO80q_127.fr0 hF133
 have hS97_145 := hS97_128.fr0 hF133
 have hS98_146 := hS98_129.fr0 hF133
 have hS114_147 := hS114_130.fr0 hF133
 have hS115_148 := hS115_131.fr0 hF133
 refine V.re h135 [] 79 79 [(4, .bool true)] fun a h149 => k95 _ _ ?_
 refine V.ret ?_
 refine V.r1 h149 (.bool true) ?_
 exact ⟨rfl, hF_136⟩
end Go.Proofs.Ytkepojdmgdgaoaa
