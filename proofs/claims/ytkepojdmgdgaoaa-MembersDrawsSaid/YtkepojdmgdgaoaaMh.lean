/- Walks: MembersDraws. -/
import Derived.Test.YtkepojdmgdgaoaaProg
import Derived.Test.YtkepojdmgdgaoaaMc
import Derived.Test.YtkepojdmgdgaoaaMe
import Derived.Test.YtkepojdmgdgaoaaMg
namespace Go.Proofs.Ytkepojdmgdgaoaa
open Go.V Go.Base
open Go.RowKit (Below)
attribute [local irreducible] Act.put Act.eval
set_option linter.unusedVariables false
set_option linter.unusedSimpArgs false
set_option maxHeartbeats 4000000 in
set_option maxRecDepth 20000 in
theorem membersDraws_any (w : World) (Al : Option Addr) (cl : Nat) (l : List ByteArray) (hSl : SlR Rp.str (fun k => k < w.heap.size) w (.slice Al l.length cl) l) (n : Int) (hn : -9223372036854775808 ≤ n ∧ n ≤ 9223372036854775807) (d : Nat) (hd : d < 18446744073709551616) : Calls Try.prog 4 #[.slice Al l.length cl, .int .i64 n, .int .u64 ((d : Nat) : Int)] w (fun e w' => e = .returned (.bool true) ∧ Fr [] w w') := by
 have hF := Fr.refl [] w
 refine V.en 79 Try.func4 fun a h1 => ?_
 refine V.sr h1 [] 6 6 [] fun a h4 => ?_
 refine V.sg fun K5 k6 => ?_
 refine V.run h4 [] 1 1 0 [(17, .slice Al l.length cl)] fun a h7 => ?_
 refine V.cl h7 (Go.Proofs.enters_of Try.func12 (by kernel_rfl) rfl) (few_any w Al cl l hSl.old) ?_
 rintro _ w11 ⟨rfl, hF8⟩
 refine ⟨_, rfl, fun a h12 => ?_⟩
 have hsw11 := hF8.size
 have hF_13 := hF.new hF8
 have hSl_14 := hSl.fr0 hF8
 have hS9 := (hSl.fr0 hF8).tke 200
 have hfw10 : (l.take 200).length ≤ 200 := by rw [List.length_take]; omega
 refine V.re h12 [] 1 0 [(0, .slice Al ((l.take 200).length) cl)] fun a h15 => k6 _ _ ?_
 refine V.seq fun K16 k17 => ?_
 refine V.sg fun K18 k19 => ?_
 refine V.run h15 [] 3 19 20 [(21, .bool (decide (n < (-100))))] fun a h20 => ?_
 by_cases hg21 : n < (-100)
 ·
  have h22 := h20.kt 21 hg21
  refine V.re h22 [] 22 23 [(24, .bool (decide (n ≥ (-1024))))] fun a h23 => k19 _ _ ?_
  refine V.cp h23 (n ≥ (-1024)) (fun ht24 => ?_) (fun ht24 => ?_)
  ·
   refine V.rr h23 [] 1 0 [(1, .int .i64 (-100))] fun a h25 => ?_
   refine V.then_n (k17 _ _ ?_)
   refine V.sg fun K26 k27 => ?_
   refine V.run h25 [] 2 1 0 [(26, .slice Al ((l.take 200).length) cl), (27, .int .u64 ((d : Nat) : Int))] fun a h28 => ?_
   refine V.cl h28 (Go.Proofs.enters_of Try.func15 (by kernel_rfl) rfl) (pick_any w11 Al cl (l.take 200) hS9.old d (by omega) (by omega)) ?_
   rintro _ w30 ⟨rfl, hF29⟩
   refine ⟨_, rfl, fun a h31 => ?_⟩
   have hsw30 := hF29.size
   have hF_32 := hF_13.new hF29
   have hSl_33 := hSl_14.fr0 hF29
   have hS9_34 := hS9.fr0 hF29
   refine V.re h31 [] 25 31 [(7, .string (pickS (l.take 200) d)), (8, .bool (pickB (l.take 200))), (9, .int .i64 (chkN (l.take 200)))] fun a h35 => k27 _ _ ?_
   refine V.sg fun K36 k37 => ?_
   refine V.run h35 [] 2 1 0 [(33, .slice Al ((l.take 200).length) cl), (34, .int .u64 ((d : Nat) : Int))] fun a h38 => ?_
   refine V.cl h38 (Go.Proofs.enters_of Try.func16 (by kernel_rfl) rfl) (rpick_any w30 Al cl (l.take 200) hS9_34.old d (by omega) (by omega)) ?_
   rintro _ w40 ⟨rfl, hF39⟩
   refine ⟨_, rfl, fun a h41 => ?_⟩
   have hsw40 := hF39.size
   have hF_42 := hF_32.new hF39
   have hSl_43 := hSl_33.fr0 hF39
   have hS9_44 := hS9_34.fr0 hF39
   refine V.re h41 [] 32 38 [(10, .string (pickS (l.take 200) d)), (11, .bool (pickB (l.take 200))), (12, .int .i64 (chkN (l.take 200)))] fun a h45 => k37 _ _ ?_
   refine V.sg fun K46 k47 => ?_
   refine V.run h45 [] 3 1 0 [(40, .slice Al ((l.take 200).length) cl), (41, .int .i64 (-100)), (42, .int .u64 ((d : Nat) : Int))] fun a h48 => ?_
   refine V.cl h48 (Go.Proofs.enters_of Try.func13 (by kernel_rfl) rfl) (some_any w40 Al cl (l.take 200) hS9_44.old (-100) (by omega) d (by omega) (by omega)) ?_
   rintro _ w53 ⟨A49, c50, rfl, hO51, hF52⟩
   refine ⟨_, rfl, fun a h54 => ?_⟩
   have hsw53 := hF52.size
   have hF_55 := hF_42.new hF52
   have hSl_56 := hSl_43.fr0 hF52
   have hS9_57 := hS9_44.fr0 hF52
   have hO51q := hO51.rebase (base' := w.heap.size) (by omega)
   refine V.re h54 [] 39 45 [(13, .slice A49 ((someR (l.take 200) (-100) d).length) c50), (14, .int .i64 (someE (l.take 200) (-100)))] fun a h58 => k47 _ _ ?_
   refine V.sg fun K59 k60 => ?_
   refine V.run h58 [] 3 1 0 [(47, .slice Al ((l.take 200).length) cl), (48, .int .i64 (-100)), (49, .int .u64 ((d : Nat) : Int))] fun a h61 => ?_
   refine V.cl h61 (Go.Proofs.enters_of Try.func17 (by kernel_rfl) rfl) (rsome_any w53 Al cl (l.take 200) hS9_57.old (-100) (by omega) d (by omega) (by omega)) ?_
   rintro _ w66 ⟨A62, c63, rfl, hO64, hF65⟩
   refine ⟨_, rfl, fun a h67 => ?_⟩
   have hsw66 := hF65.size
   have hF_68 := hF_55.new hF65
   have hSl_69 := hSl_56.fr0 hF65
   have hS9_70 := hS9_57.fr0 hF65
   have hO51q_71 := hO51q.fr0 hF65
   have hO64q := hO64.rebase (base' := w.heap.size) (by omega)
   refine V.re h67 [] 46 52 [(15, .slice A62 ((someR (l.take 200) (-100) d).length) c63), (16, .int .i64 (someE (l.take 200) (-100)))] fun a h72 => k60 _ _ ?_
   have h73 := h72.only [(7, .string (pickS (l.take 200) d)), (8, .bool (pickB (l.take 200))), (9, .int .i64 (chkN (l.take 200))), (10, .string (pickS (l.take 200) d)), (11, .bool (pickB (l.take 200))), (12, .int .i64 (chkN (l.take 200))), (13, .slice A49 ((someR (l.take 200) (-100) d).length) c50), (14, .int .i64 (someE (l.take 200) (-100))), (15, .slice A62 ((someR (l.take 200) (-100) d).length) c63), (16, .int .i64 (someE (l.take 200) (-100)))]
   refine V.sg fun K74 k75 => ?_
   refine V.run h73 [(2, .q (.bool true) (V.t_ssame (pickS (l.take 200) d))), (3, .q (.bool true) (V.t_bsame (pickB (l.take 200)))), (4, .q (.bool true) (V.t_same (chkN (l.take 200))))] 16 53 65 [(66, .bool true), (67, .slice A49 ((someR (l.take 200) (-100) d).length) c50), (68, .slice A62 ((someR (l.take 200) (-100) d).length) c63)] fun a h76 => ?_
   have hS77 := hO51q_71.is
   have hS78 := hO64q.is
   refine V.clg h76 (Go.Proofs.enters_of Try.func18 (by kernel_rfl) rfl) (same_any w66 A49 c50 (someR (l.take 200) (-100) d) hS77.old A62 c63 hS78.old) ?_
   rintro _ w80 ⟨rfl, hF79⟩
   refine ⟨_, rfl, fun a h81 => ?_⟩
   have hsw80 := hF79.size
   have hF_82 := hF_68.new hF79
   have hSl_83 := hSl_69.fr0 hF79
   have hS9_84 := hS9_70.fr0 hF79
   have hO51q_85 := hO51q_71.fr0 hF79
   have hO64q_86 := hO64q.fr0 hF79
   have hS77_87 := hS77.fr0 hF79
   have hS78_88 := hS78.fr0 hF79
   refine V.run h81 [(4, .q (.bool true) (V.t_same (someE (l.take 200) (-100))))] 7 70 75 [(76, .bool true)] fun a h89 => ?_
   refine V.clg h89 (Go.Proofs.enters_of Try.func10 (by kernel_rfl) rfl) (awake_any w80) ?_
   rintro _ w91 ⟨rfl, hF90⟩
   refine ⟨_, rfl, fun a h92 => ?_⟩
   have hsw91 := hF90.size
   have hF_93 := hF_82.new hF90
   have hSl_94 := hSl_83.fr0 hF90
   have hS9_95 := hS9_84.fr0 hF90
   have hO51q_96 := hO51q_85.fr0 hF90
   have hO64q_97 := hO64q_86.fr0 hF90
   have hS77_98 := hS77_87.fr0 hF90
   have hS78_99 := hS78_88.fr0 hF90
   refine V.re h92 [] 78 78 [(6, .bool true)] fun a h100 => k75 _ _ ?_
   refine V.ret ?_
   refine V.r1 h100 (.bool true) ?_
   exact ⟨rfl, hF_93⟩
  ·
   refine V.skip ?_
   refine V.then_n (k17 _ _ ?_)
   refine V.sg fun K101 k102 => ?_
   refine V.run h23 [] 2 1 0 [(26, .slice Al ((l.take 200).length) cl), (27, .int .u64 ((d : Nat) : Int))] fun a h103 => ?_
   refine V.cl h103 (Go.Proofs.enters_of Try.func15 (by kernel_rfl) rfl) (pick_any w11 Al cl (l.take 200) hS9.old d (by omega) (by omega)) ?_
   rintro _ w105 ⟨rfl, hF104⟩
   refine ⟨_, rfl, fun a h106 => ?_⟩
   have hsw105 := hF104.size
   have hF_107 := hF_13.new hF104
   have hSl_108 := hSl_14.fr0 hF104
   have hS9_109 := hS9.fr0 hF104
   refine V.re h106 [] 25 31 [(7, .string (pickS (l.take 200) d)), (8, .bool (pickB (l.take 200))), (9, .int .i64 (chkN (l.take 200)))] fun a h110 => k102 _ _ ?_
   refine V.sg fun K111 k112 => ?_
   refine V.run h110 [] 2 1 0 [(33, .slice Al ((l.take 200).length) cl), (34, .int .u64 ((d : Nat) : Int))] fun a h113 => ?_
   refine V.cl h113 (Go.Proofs.enters_of Try.func16 (by kernel_rfl) rfl) (rpick_any w105 Al cl (l.take 200) hS9_109.old d (by omega) (by omega)) ?_
   rintro _ w115 ⟨rfl, hF114⟩
   refine ⟨_, rfl, fun a h116 => ?_⟩
   have hsw115 := hF114.size
   have hF_117 := hF_107.new hF114
   have hSl_118 := hSl_108.fr0 hF114
   have hS9_119 := hS9_109.fr0 hF114
   refine V.re h116 [] 32 38 [(10, .string (pickS (l.take 200) d)), (11, .bool (pickB (l.take 200))), (12, .int .i64 (chkN (l.take 200)))] fun a h120 => k112 _ _ ?_
   refine V.sg fun K121 k122 => ?_
   refine V.run h120 [] 3 1 0 [(40, .slice Al ((l.take 200).length) cl), (41, .int .i64 n), (42, .int .u64 ((d : Nat) : Int))] fun a h123 => ?_
   refine V.cl h123 (Go.Proofs.enters_of Try.func13 (by kernel_rfl) rfl) (some_any w115 Al cl (l.take 200) hS9_119.old n (by omega) d (by omega) (by omega)) ?_
   rintro _ w128 ⟨A124, c125, rfl, hO126, hF127⟩
   refine ⟨_, rfl, fun a h129 => ?_⟩
   have hsw128 := hF127.size
   have hF_130 := hF_117.new hF127
   have hSl_131 := hSl_118.fr0 hF127
   have hS9_132 := hS9_119.fr0 hF127
   have hO126q := hO126.rebase (base' := w.heap.size) (by omega)
   refine V.re h129 [] 39 45 [(13, .slice A124 ((someR (l.take 200) n d).length) c125), (14, .int .i64 (someE (l.take 200) n))] fun a h133 => k122 _ _ ?_
   refine V.sg fun K134 k135 => ?_
   refine V.run h133 [] 3 1 0 [(47, .slice Al ((l.take 200).length) cl), (48, .int .i64 n), (49, .int .u64 ((d : Nat) : Int))] fun a h136 => ?_
   refine V.cl h136 (Go.Proofs.enters_of Try.func17 (by kernel_rfl) rfl) (rsome_any w128 Al cl (l.take 200) hS9_132.old n (by omega) d (by omega) (by omega)) ?_
   rintro _ w141 ⟨A137, c138, rfl, hO139, hF140⟩
   refine ⟨_, rfl, fun a h142 => ?_⟩
   have hsw141 := hF140.size
   have hF_143 := hF_130.new hF140
   have hSl_144 := hSl_131.fr0 hF140
   have hS9_145 := hS9_132.fr0 hF140
   have hO126q_146 := hO126q.fr0 hF140
   have hO139q := hO139.rebase (base' := w.heap.size) (by omega)
   refine V.re h142 [] 46 52 [(15, .slice A137 ((someR (l.take 200) n d).length) c138), (16, .int .i64 (someE (l.take 200) n))] fun a h147 => k135 _ _ ?_
   have h148 := h147.only [(7, .string (pickS (l.take 200) d)), (8, .bool (pickB (l.take 200))), (9, .int .i64 (chkN (l.take 200))), (10, .string (pickS (l.take 200) d)), (11, .bool (pickB (l.take 200))), (12, .int .i64 (chkN (l.take 200))), (13, .slice A124 ((someR (l.take 200) n d).length) c125), (14, .int .i64 (someE (l.take 200) n)), (15, .slice A137 ((someR (l.take 200) n d).length) c138), (16, .int .i64 (someE (l.take 200) n))]
   refine V.sg fun K149 k150 => ?_
   refine V.run h148 [(2, .q (.bool true) (V.t_ssame (pickS (l.take 200) d))), (3, .q (.bool true) (V.t_bsame (pickB (l.take 200)))), (4, .q (.bool true) (V.t_same (chkN (l.take 200))))] 16 53 65 [(66, .bool true), (67, .slice A124 ((someR (l.take 200) n d).length) c125), (68, .slice A137 ((someR (l.take 200) n d).length) c138)] fun a h151 => ?_
   have hS152 := hO126q_146.is
   have hS153 := hO139q.is
   refine V.clg h151 (Go.Proofs.enters_of Try.func18 (by kernel_rfl) rfl) (same_any w141 A124 c125 (someR (l.take 200) n d) hS152.old A137 c138 hS153.old) ?_
   rintro _ w155 ⟨rfl, hF154⟩
   refine ⟨_, rfl, fun a h156 => ?_⟩
   have hsw155 := hF154.size
   have hF_157 := hF_143.new hF154
   have hSl_158 := hSl_144.fr0 hF154
   have hS9_159 := hS9_145.fr0 hF154
   have hO126q_160 := hO126q_146.fr0 hF154
   have hO139q_161 := hO139q.fr0 hF154
   have hS152_162 := hS152.fr0 hF154
   have hS153_163 := hS153.fr0 hF154
   refine V.run h156 [(4, .q (.bool true) (V.t_same (someE (l.take 200) n)))] 7 70 75 [(76, .bool true)] fun a h164 => ?_
   refine V.clg h164 (Go.Proofs.enters_of Try.func10 (by kernel_rfl) rfl) (awake_any w155) ?_
   rintro _ w166 ⟨rfl, hF165⟩
   refine ⟨_, rfl, fun a h167 => ?_⟩
   have hsw166 := hF165.size
   have hF_168 := hF_157.new hF165
   have hSl_169 := hSl_158.fr0 hF165
   have hS9_170 := hS9_159.fr0 hF165
   have hO126q_171 := hO126q_160.fr0 hF165
   have hO139q_172 := hO139q_161.fr0 hF165
   have hS152_173 := hS152_162.fr0 hF165
   have hS153_174 := hS153_163.fr0 hF165
   refine V.re h167 [] 78 78 [(6, .bool true)] fun a h175 => k150 _ _ ?_
   refine V.ret ?_
   refine V.r1 h175 (.bool true) ?_
   exact ⟨rfl, hF_168⟩
 ·
  have h176 := h20.kf 21 hg21
  refine V.re h176 [] 22 23 [(24, .bool false)] fun a h177 => k19 _ _ ?_
  refine V.cf h177 ?_
  refine V.skip ?_
  refine V.then_n (k17 _ _ ?_)
  refine V.sg fun K178 k179 => ?_
  refine V.run h177 [] 2 1 0 [(26, .slice Al ((l.take 200).length) cl), (27, .int .u64 ((d : Nat) : Int))] fun a h180 => ?_
  refine V.cl h180 (Go.Proofs.enters_of Try.func15 (by kernel_rfl) rfl) (pick_any w11 Al cl (l.take 200) hS9.old d (by omega) (by omega)) ?_
  rintro _ w182 ⟨rfl, hF181⟩
  refine ⟨_, rfl, fun a h183 => ?_⟩
  have hsw182 := hF181.size
  have hF_184 := hF_13.new hF181
  have hSl_185 := hSl_14.fr0 hF181
  have hS9_186 := hS9.fr0 hF181
  refine V.re h183 [] 25 31 [(7, .string (pickS (l.take 200) d)), (8, .bool (pickB (l.take 200))), (9, .int .i64 (chkN (l.take 200)))] fun a h187 => k179 _ _ ?_
  refine V.sg fun K188 k189 => ?_
  refine V.run h187 [] 2 1 0 [(33, .slice Al ((l.take 200).length) cl), (34, .int .u64 ((d : Nat) : Int))] fun a h190 => ?_
  refine V.cl h190 (Go.Proofs.enters_of Try.func16 (by kernel_rfl) rfl) (rpick_any w182 Al cl (l.take 200) hS9_186.old d (by omega) (by omega)) ?_
  rintro _ w192 ⟨rfl, hF191⟩
  refine ⟨_, rfl, fun a h193 => ?_⟩
  have hsw192 := hF191.size
  have hF_194 := hF_184.new hF191
  have hSl_195 := hSl_185.fr0 hF191
  have hS9_196 := hS9_186.fr0 hF191
  refine V.re h193 [] 32 38 [(10, .string (pickS (l.take 200) d)), (11, .bool (pickB (l.take 200))), (12, .int .i64 (chkN (l.take 200)))] fun a h197 => k189 _ _ ?_
  refine V.sg fun K198 k199 => ?_
  refine V.run h197 [] 3 1 0 [(40, .slice Al ((l.take 200).length) cl), (41, .int .i64 n), (42, .int .u64 ((d : Nat) : Int))] fun a h200 => ?_
  refine V.cl h200 (Go.Proofs.enters_of Try.func13 (by kernel_rfl) rfl) (some_any w192 Al cl (l.take 200) hS9_196.old n (by omega) d (by omega) (by omega)) ?_
  rintro _ w205 ⟨A201, c202, rfl, hO203, hF204⟩
  refine ⟨_, rfl, fun a h206 => ?_⟩
  have hsw205 := hF204.size
  have hF_207 := hF_194.new hF204
  have hSl_208 := hSl_195.fr0 hF204
  have hS9_209 := hS9_196.fr0 hF204
  have hO203q := hO203.rebase (base' := w.heap.size) (by omega)
  refine V.re h206 [] 39 45 [(13, .slice A201 ((someR (l.take 200) n d).length) c202), (14, .int .i64 (someE (l.take 200) n))] fun a h210 => k199 _ _ ?_
  refine V.sg fun K211 k212 => ?_
  refine V.run h210 [] 3 1 0 [(47, .slice Al ((l.take 200).length) cl), (48, .int .i64 n), (49, .int .u64 ((d : Nat) : Int))] fun a h213 => ?_
  refine V.cl h213 (Go.Proofs.enters_of Try.func17 (by kernel_rfl) rfl) (rsome_any w205 Al cl (l.take 200) hS9_209.old n (by omega) d (by omega) (by omega)) ?_
  rintro _ w218 ⟨A214, c215, rfl, hO216, hF217⟩
  refine ⟨_, rfl, fun a h219 => ?_⟩
  have hsw218 := hF217.size
  have hF_220 := hF_207.new hF217
  have hSl_221 := hSl_208.fr0 hF217
  have hS9_222 := hS9_209.fr0 hF217
  have hO203q_223 := hO203q.fr0 hF217
  have hO216q := hO216.rebase (base' := w.heap.size) (by omega)
  refine V.re h219 [] 46 52 [(15, .slice A214 ((someR (l.take 200) n d).length) c215), (16, .int .i64 (someE (l.take 200) n))] fun a h224 => k212 _ _ ?_
  have h225 := h224.only [(7, .string (pickS (l.take 200) d)), (8, .bool (pickB (l.take 200))), (9, .int .i64 (chkN (l.take 200))), (10, .string (pickS (l.take 200) d)), (11, .bool (pickB (l.take 200))), (12, .int .i64 (chkN (l.take 200))), (13, .slice A201 ((someR (l.take 200) n d).length) c202), (14, .int .i64 (someE (l.take 200) n)), (15, .slice A214 ((someR (l.take 200) n d).length) c215), (16, .int .i64 (someE (l.take 200) n))]
  refine V.sg fun K226 k227 => ?_
  refine V.run h225 [(2, .q (.bool true) (V.t_ssame (pickS (l.take 200) d))), (3, .q (.bool true) (V.t_bsame (pickB (l.take 200)))), (4, .q (.bool true) (V.t_same (chkN (l.take 200))))] 16 53 65 [(66, .bool true), (67, .slice A201 ((someR (l.take 200) n d).length) c202), (68, .slice A214 ((someR (l.take 200) n d).length) c215)] fun a h228 => ?_
  have hS229 := hO203q_223.is
  have hS230 := hO216q.is
  refine V.clg h228 (Go.Proofs.enters_of Try.func18 (by kernel_rfl) rfl) (same_any w218 A201 c202 (someR (l.take 200) n d) hS229.old A214 c215 hS230.old) ?_
  rintro _ w232 ⟨rfl, hF231⟩
  refine ⟨_, rfl, fun a h233 => ?_⟩
  have hsw232 := hF231.size
  have hF_234 := hF_220.new hF231
  have hSl_235 := hSl_221.fr0 hF231
  have hS9_236 := hS9_222.fr0 hF231
  have hO203q_237 := hO203q_223.fr0 hF231
  have hO216q_238 := hO216q.fr0 hF231
  have hS229_239 := hS229.fr0 hF231
  have hS230_240 := hS230.fr0 hF231
  refine V.run h233 [(4, .q (.bool true) (V.t_same (someE (l.take 200) n)))] 7 70 75 [(76, .bool true)] fun a h241 => ?_
  refine V.clg h241 (Go.Proofs.enters_of Try.func10 (by kernel_rfl) rfl) (awake_any w232) ?_
  rintro _ w243 ⟨rfl, hF242⟩
  refine ⟨_, rfl, fun a h244 => ?_⟩
  have hsw243 := hF242.size
  have hF_245 := hF_234.new hF242
  have hSl_246 := hSl_235.fr0 hF242
  have hS9_247 := hS9_236.fr0 hF242
  have hO203q_248 := hO203q_237.fr0 hF242
  have hO216q_249 := hO216q_238.fr0 hF242
  have hS229_250 := hS229_239.fr0 hF242
  have hS230_251 := hS230_240.fr0 hF242
  refine V.re h244 [] 78 78 [(6, .bool true)] fun a h252 => k227 _ _ ?_
  refine V.ret ?_
  refine V.r1 h252 (.bool true) ?_
  exact ⟨rfl, hF_245⟩
end Go.Proofs.Ytkepojdmgdgaoaa
