/- Walks: MembersOwn. -/
import Derived.Test.YtkepojdmgdgaoaaProg
import Derived.Test.YtkepojdmgdgaoaaMo
import Derived.Test.YtkepojdmgdgaoaaMp2
import Derived.Test.YtkepojdmgdgaoaaMr
import Derived.Test.YtkepojdmgdgaoaaMe
import Derived.Test.YtkepojdmgdgaoaaMg
namespace Go.Proofs.Ytkepojdmgdgaoaa
open Go.V Go.Base
open Go.RowKit (Below)
attribute [local irreducible] Act.put Act.eval
set_option linter.unusedVariables false
set_option linter.unusedSimpArgs false
set_option maxHeartbeats 4000000 in
set_option maxRecDepth 20000 in
theorem membersOwn_any (w : World) (Al : Option Addr) (cl : Nat) (l : List ByteArray) (hSl : SlR Rp.str (fun k => k < w.heap.size) w (.slice Al l.length cl) l) (Am : Option Addr) (cm : Nat) (m : List ByteArray) (hSm : SlR Rp.str (fun k => k < w.heap.size) w (.slice Am m.length cm) m) (hzl : ∀ s ∈ l, s.size ≤ maxLen) (hzm : ∀ s ∈ m, s.size ≤ maxLen) : Calls Try.prog 7 #[.slice Al l.length cl, .slice Am m.length cm] w (fun e w' => e = .returned (.bool true) ∧ Fr [] w w') := by
 have hF := Fr.refl [] w
 refine V.en 146 Try.func7 fun a h1 => ?_
 refine V.sr h1 [] 4 4 [] fun a h4 => ?_
 refine V.sg fun K5 k6 => ?_
 refine V.run h4 [] 1 1 0 [(28, .slice Al l.length cl)] fun a h7 => ?_
 refine V.cl h7 (Go.Proofs.enters_of Try.func12 (by kernel_rfl) rfl) (few_any w Al cl l hSl.old) ?_
 rintro _ w11 ⟨rfl, hF8⟩
 refine ⟨_, rfl, fun a h12 => ?_⟩
 have hsw11 := hF8.size
 have hF_13 := hF.new hF8
 have hSl_14 := hSl.fr0 hF8
 have hSm_15 := hSm.fr0 hF8
 have hS9 := (hSl.fr0 hF8).tke 200
 have hfw10 : (l.take 200).length ≤ 200 := by rw [List.length_take]; omega
 refine V.run h12 [] 1 1 0 [(30, .slice Am m.length cm)] fun a h16 => ?_
 refine V.cl h16 (Go.Proofs.enters_of Try.func12 (by kernel_rfl) rfl) (few_any w11 Am cm m hSm_15.old) ?_
 rintro _ w20 ⟨rfl, hF17⟩
 refine ⟨_, rfl, fun a h21 => ?_⟩
 have hsw20 := hF17.size
 have hF_22 := hF_13.new hF17
 have hSl_23 := hSl_14.fr0 hF17
 have hSm_24 := hSm_15.fr0 hF17
 have hS9_25 := hS9.fr0 hF17
 have hS18 := (hSm_15.fr0 hF17).tke 200
 have hfw19 : (m.take 200).length ≤ 200 := by rw [List.length_take]; omega
 refine V.re h21 [] 1 0 [(0, .slice Al ((l.take 200).length) cl), (1, .slice Am ((m.take 200).length) cm)] fun a h26 => k6 _ _ ?_
 refine V.sg fun K27 k28 => ?_
 refine V.go (V.mk [] trivial (by kernel_rfl) [] 9 (fun b => .slice (some ⟨b, 0, none⟩) 0 0) (by kernel_rfl) ?_)
 intro w30 b29 heb29 hB31 hF32 hsb29
 have hF_33 := hF_22.new hF32
 have hSl_34 := hSl_23.fr0 hF32
 have hSm_35 := hSm_24.fr0 hF32
 have hS9_36 := hS9_25.fr0 hF32
 have hS18_37 := hS18.fr0 hF32
 refine V.pt h26 fun a h38 => ?_
 have hO39 := OwR.empty (R := Rp.str) (base := b29) hB31 (Nat.le_refl _)
 refine V.run h38 [] 1 1 0 [(33, .slice Al ((l.take 200).length) cl)] fun a h45 => ?_
 refine V.go (V.appS (R := Rp.str) (h45.e (v := (.slice (some ⟨b29, 0, none⟩) 0 0))) (h45.e (v := (.slice Al ((l.take 200).length) cl))) (by kernel_rfl) info9 (by kernel_rfl) (by decide) hO39 hS9_36 (fun _ _ h => h) (by (try simp only [List.length_nil]); omega) (by decide) (by omega) ?_)
 intro A40 c41 w42 hO43 hF44
 have hsw42 := hF44.size
 have hF_46 := hF_33.own hF44 (own_ge hO39 (by omega))
 have hSl_47 := hSl_34.fr hF44 (by intro b hb hz; have := own_ge hO39 (Nat.le_refl _) b hb; (try dsimp only at hz); omega)
 have hSm_48 := hSm_35.fr hF44 (by intro b hb hz; have := own_ge hO39 (Nat.le_refl _) b hb; (try dsimp only at hz); omega)
 have hS9_49 := hS9_36.fr hF44 (by intro b hb hz; have := own_ge hO39 (Nat.le_refl _) b hb; (try dsimp only at hz); omega)
 have hS18_50 := hS18_37.fr hF44 (by intro b hb hz; have := own_ge hO39 (Nat.le_refl _) b hb; (try dsimp only at hz); omega)
 refine V.pt h45 fun a h51 => ?_
 refine V.go (V.mk [] trivial (by kernel_rfl) [] 9 (fun b => .slice (some ⟨b, 0, none⟩) 0 0) (by kernel_rfl) ?_)
 intro w53 b52 heb52 hB54 hF55 hsb52
 have hF_56 := hF_46.new hF55
 have hSl_57 := hSl_47.fr0 hF55
 have hSm_58 := hSm_48.fr0 hF55
 have hS9_59 := hS9_49.fr0 hF55
 have hS18_60 := hS18_50.fr0 hF55
 have hO43_61 := hO43.fr0 hF55
 refine V.pt h51 fun a h62 => ?_
 have hO63 := OwR.empty (R := Rp.str) (base := b52) hB54 (Nat.le_refl _)
 refine V.run h62 [] 1 1 0 [(36, .slice Am ((m.take 200).length) cm)] fun a h69 => ?_
 refine V.go (V.appS (R := Rp.str) (h69.e (v := (.slice (some ⟨b52, 0, none⟩) 0 0))) (h69.e (v := (.slice Am ((m.take 200).length) cm))) (by kernel_rfl) info9 (by kernel_rfl) (by decide) hO63 hS18_60 (fun _ _ h => h) (by (try simp only [List.length_nil]); omega) (by decide) (by omega) ?_)
 intro A64 c65 w66 hO67 hF68
 have hsw66 := hF68.size
 have hF_70 := hF_56.own hF68 (own_ge hO63 (by omega))
 have hSl_71 := hSl_57.fr hF68 (by intro b hb hz; have := own_ge hO63 (Nat.le_refl _) b hb; (try dsimp only at hz); omega)
 have hSm_72 := hSm_58.fr hF68 (by intro b hb hz; have := own_ge hO63 (Nat.le_refl _) b hb; (try dsimp only at hz); omega)
 have hS9_73 := hS9_59.fr hF68 (by intro b hb hz; have := own_ge hO63 (Nat.le_refl _) b hb; (try dsimp only at hz); omega)
 have hS18_74 := hS18_60.fr hF68 (by intro b hb hz; have := own_ge hO63 (Nat.le_refl _) b hb; (try dsimp only at hz); omega)
 have hO43_75 := hO43_61.fr hF68 (fun _ _ h => h) (fun b hb hm => by have hb1 := (hO43.lt b hb).2; have hb2 := own_ge hO63 (Nat.le_refl _) b hm; omega)
 refine V.pt h69 fun a h76 => ?_
 refine V.re h76 [] 1 0 [(5, .slice A40 ((([] : List ByteArray)).length + (l.take 200).length) c41), (6, .slice A64 ((([] : List ByteArray)).length + (m.take 200).length) c65)] fun a h77 => k28 _ _ ?_
 refine V.seq fun K78 k79 => ?_
 have h80 := h77.eq 5 (v := (.slice A40 ((([] : List ByteArray)).length + (l.take 200).length) c41)) (u := (.slice A40 ((l.take 200).length) c41)) (V.sl_eq (by simp))
 have hO81 : OwR Rp.str NoZ w66 b29 9 (.slice A40 ((l.take 200).length) c41) (l.take 200) := by simpa using hO43_75
 have h82 := h80.eq 6 (v := (.slice A64 ((([] : List ByteArray)).length + (m.take 200).length) c65)) (u := (.slice A64 ((m.take 200).length) c65)) (V.sl_eq (by simp))
 have hO83 : OwR Rp.str NoZ w66 b52 9 (.slice A64 ((m.take 200).length) c65) (m.take 200) := by simpa using hO67
 have hlt5 : ∀ b, Value.ownBlock (.slice A40 ((l.take 200).length) c41) = some b → b < w66.heap.size := fun b hb => (hO81.lt b hb).2
 refine V.rg ?_
 refine V.run h82 [] 2 1 0 [(39, .slice A40 ((l.take 200).length) c41), (40, .slice A64 ((m.take 200).length) c65)] fun a h84 => ?_
 have hS85 := hO81.is
 have hS86 := hO83.is
 refine V.cl h84 (Go.Proofs.enters_of Try.func24 (by kernel_rfl) rfl) (add_any w66 A40 c41 (l.take 200) hS85.old A64 c65 (m.take 200) hS86.old (by simp <;> omega) (by simp <;> omega)) ?_
 rintro _ w91 ⟨A87, c88, rfl, hO89, hF90⟩
 refine ⟨_, rfl, fun a h92 => ?_⟩
 have hsw91 := hF90.size
 have hF_93 := hF_70.new hF90
 have hSl_94 := hSl_71.fr0 hF90
 have hSm_95 := hSm_72.fr0 hF90
 have hS9_96 := hS9_73.fr0 hF90
 have hS18_97 := hS18_74.fr0 hF90
 have hO81_98 := hO81.fr0 hF90
 have hO83_99 := hO83.fr0 hF90
 have hS85_100 := hS85.fr0 hF90
 have hS86_101 := hS86.fr0 hF90
 refine V.re h92 [] 8 44 [(7, .slice A87 ((addS (l.take 200) (m.take 200)).length) c88), (9, .int .i64 (chkN (l.take 200)))] fun a h102 => k79 _ _ ?_
 refine V.sg fun K103 k104 => ?_
 refine V.run h102 [] 1 1 0 [(46, .slice A40 ((l.take 200).length) c41)] fun a h105 => ?_
 refine V.go (V.mk [(46, .slice A40 ((l.take 200).length) c41)] ⟨h105.e, trivial⟩ (by kernel_rfl) [.slice A40 ((l.take 200).length) c41] 22 (fun b => .slice (some ⟨b, 0, none⟩) 1 1) (by kernel_rfl) ?_)
 intro w107 b106 heb106 hB108 hF109 hsb106
 have hF_110 := hF_93.new hF109
 have hSl_111 := hSl_94.fr0 hF109
 have hSm_112 := hSm_95.fr0 hF109
 have hS9_113 := hS9_96.fr0 hF109
 have hS18_114 := hS18_97.fr0 hF109
 have hO81_115 := hO81_98.fr0 hF109
 have hO83_116 := hO83_99.fr0 hF109
 have hS85_117 := hS85_100.fr0 hF109
 have hS86_118 := hS86_101.fr0 hF109
 have hO89_119 := hO89.fr0 hF109
 refine V.pt h105 fun a h120 => ?_
 refine V.cl h120 (Go.Proofs.enters_of Try.func28 (by kernel_rfl) rfl) (union_any w107 _ _ [l.take 200] (sl_one hB108 hS85_117).old (by simp <;> omega)) ?_
 rintro _ w125 ⟨A121, c122, rfl, hO123, hF124⟩
 refine ⟨_, rfl, fun a h126 => ?_⟩
 have hsw125 := hF124.size
 have hF_127 := hF_110.new hF124
 have hSl_128 := hSl_111.fr0 hF124
 have hSm_129 := hSm_112.fr0 hF124
 have hS9_130 := hS9_113.fr0 hF124
 have hS18_131 := hS18_114.fr0 hF124
 have hO81_132 := hO81_115.fr0 hF124
 have hO83_133 := hO83_116.fr0 hF124
 have hS85_134 := hS85_117.fr0 hF124
 have hS86_135 := hS86_118.fr0 hF124
 have hO89_136 := hO89_119.fr0 hF124
 have hB108_137 := hB108.fr0 hF124
 refine V.re h126 [] 45 50 [(10, .slice A121 ((unS [l.take 200]).length) c122), (11, .int .i64 (chkL [l.take 200]))] fun a h138 => k104 _ _ ?_
 refine V.sg fun K139 k140 => ?_
 refine V.run h138 [] 1 1 0 [(52, .slice A40 ((l.take 200).length) c41)] fun a h141 => ?_
 refine V.cl h141 (Go.Proofs.enters_of Try.func26 (by kernel_rfl) rfl) (del_any w125 A40 c41 (l.take 200) hS85_134.old none 0 ([] : List ByteArray) (SlR.nil ..) (by simp <;> omega) (by simp <;> omega) (fun s hs => hzl s (List.mem_of_mem_take hs)) (fun s hs => absurd hs (by simp))) ?_
 rintro _ w146 ⟨A142, c143, rfl, hO144, hF145⟩
 refine ⟨_, rfl, fun a h147 => ?_⟩
 have hsw146 := hF145.size
 have hF_148 := hF_127.new hF145
 have hSl_149 := hSl_128.fr0 hF145
 have hSm_150 := hSm_129.fr0 hF145
 have hS9_151 := hS9_130.fr0 hF145
 have hS18_152 := hS18_131.fr0 hF145
 have hO81_153 := hO81_132.fr0 hF145
 have hO83_154 := hO83_133.fr0 hF145
 have hS85_155 := hS85_134.fr0 hF145
 have hS86_156 := hS86_135.fr0 hF145
 have hO89_157 := hO89_136.fr0 hF145
 have hB108_158 := hB108_137.fr0 hF145
 have hO123_159 := hO123.fr0 hF145
 refine V.re h147 [] 13 56 [(12, .slice A142 ((delS (l.take 200) ([] : List ByteArray)).length) c143), (14, .int .i64 (chkN (l.take 200)))] fun a h160 => k140 _ _ ?_
 have h161 := h160.only [(0, .slice Al ((l.take 200).length) cl), (1, .slice Am ((m.take 200).length) cm), (5, .slice A40 ((l.take 200).length) c41), (6, .slice A64 ((m.take 200).length) c65), (7, .slice A87 ((addS (l.take 200) (m.take 200)).length) c88), (9, .int .i64 (chkN (l.take 200))), (10, .slice A121 ((unS [l.take 200]).length) c122), (11, .int .i64 (chkL [l.take 200])), (12, .slice A142 ((delS (l.take 200) ([] : List ByteArray)).length) c143), (14, .int .i64 (chkN (l.take 200)))]
 refine V.sg fun K162 k163 => ?_
 refine V.run h161 [] 1 1 0 [(58, .slice A40 ((l.take 200).length) c41)] fun a h164 => ?_
 refine V.cl h164 (Go.Proofs.enters_of Try.func13 (by kernel_rfl) rfl) (some_any w146 A40 c41 (l.take 200) hS85_155.old 300 (by omega) 7 (by omega) (by omega)) ?_
 rintro _ w169 ⟨A165, c166, rfl, hO167, hF168⟩
 refine ⟨_, rfl, fun a h170 => ?_⟩
 have hsw169 := hF168.size
 have hF_171 := hF_148.new hF168
 have hSl_172 := hSl_149.fr0 hF168
 have hSm_173 := hSm_150.fr0 hF168
 have hS9_174 := hS9_151.fr0 hF168
 have hS18_175 := hS18_152.fr0 hF168
 have hO81_176 := hO81_153.fr0 hF168
 have hO83_177 := hO83_154.fr0 hF168
 have hS85_178 := hS85_155.fr0 hF168
 have hS86_179 := hS86_156.fr0 hF168
 have hO89_180 := hO89_157.fr0 hF168
 have hB108_181 := hB108_158.fr0 hF168
 have hO123_182 := hO123_159.fr0 hF168
 have hO144_183 := hO144.fr0 hF168
 refine V.re h170 [] 57 61 [(15, .slice A165 ((someR (l.take 200) 300 7).length) c166), (16, .int .i64 (someE (l.take 200) 300))] fun a h184 => k163 _ _ ?_
 refine V.seq fun K185 k186 => ?_
 refine V.sg fun K187 k188 => ?_
 refine V.run h184 [] 2 1 0 [(62, .slice A40 ((l.take 200).length) c41), (63, .slice Al ((l.take 200).length) cl)] fun a h189 => ?_
 refine V.cl h189 (Go.Proofs.enters_of Try.func18 (by kernel_rfl) rfl) (same_any w169 A40 c41 (l.take 200) hS85_178.old Al cl hS9_174.old) ?_
 rintro _ w191 ⟨rfl, hF190⟩
 refine ⟨_, rfl, fun a h192 => ?_⟩
 have hsw191 := hF190.size
 have hF_193 := hF_171.new hF190
 have hSl_194 := hSl_172.fr0 hF190
 have hSm_195 := hSm_173.fr0 hF190
 have hS9_196 := hS9_174.fr0 hF190
 have hS18_197 := hS18_175.fr0 hF190
 have hO81_198 := hO81_176.fr0 hF190
 have hO83_199 := hO83_177.fr0 hF190
 have hS85_200 := hS85_178.fr0 hF190
 have hS86_201 := hS86_179.fr0 hF190
 have hO89_202 := hO89_180.fr0 hF190
 have hB108_203 := hB108_181.fr0 hF190
 have hO123_204 := hO123_182.fr0 hF190
 have hO144_205 := hO144_183.fr0 hF190
 have hO167_206 := hO167.fr0 hF190
 refine V.run h192 [] 4 65 65 [(66, .bool false), (67, .slice A64 ((m.take 200).length) c65), (68, .slice Am ((m.take 200).length) cm)] fun a h207 => ?_
 refine V.clg h207 (Go.Proofs.enters_of Try.func18 (by kernel_rfl) rfl) (same_any w191 A64 c65 (m.take 200) hS86_201.old Am cm hS18_197.old) ?_
 rintro _ w209 ⟨rfl, hF208⟩
 refine ⟨_, rfl, fun a h210 => ?_⟩
 have hsw209 := hF208.size
 have hF_211 := hF_193.new hF208
 have hSl_212 := hSl_194.fr0 hF208
 have hSm_213 := hSm_195.fr0 hF208
 have hS9_214 := hS9_196.fr0 hF208
 have hS18_215 := hS18_197.fr0 hF208
 have hO81_216 := hO81_198.fr0 hF208
 have hO83_217 := hO83_199.fr0 hF208
 have hS85_218 := hS85_200.fr0 hF208
 have hS86_219 := hS86_201.fr0 hF208
 have hO89_220 := hO89_202.fr0 hF208
 have hB108_221 := hB108_203.fr0 hF208
 have hO123_222 := hO123_204.fr0 hF208
 have hO144_223 := hO144_205.fr0 hF208
 have hO167_224 := hO167_206.fr0 hF208
 refine V.re h210 [] 70 70 [(71, .bool false)] fun a h225 => k188 _ _ ?_
 refine V.cf h225 ?_
 refine V.skip ?_
 refine V.then_n (k186 _ _ ?_)
 refine V.seq fun K226 k227 => ?_
 refine V.seq fun K228 k229 => ?_
 have hge5 := hO81_216.lt
 refine V.rr h225 [] 1 0 [(17, .int .i64 0)] fun a h230 => ?_
 refine V.then_n (k229 _ _ ?_)
 refine V.block ?_
 refine V.loop2 (fun (i : Nat) (xs : List ByteArray) a_ w_ => En 146 [] a_ [(0, .slice Al ((l.take 200).length) cl), (1, .slice Am ((m.take 200).length) cm), (5, .slice A40 ((l.take 200).length) c41), (7, .slice A87 ((addS (l.take 200) (m.take 200)).length) c88), (9, .int .i64 (chkN (l.take 200))), (10, .slice A121 ((unS [l.take 200]).length) c122), (11, .int .i64 (chkL [l.take 200])), (12, .slice A142 ((delS (l.take 200) ([] : List ByteArray)).length) c143), (14, .int .i64 (chkN (l.take 200))), (15, .slice A165 ((someR (l.take 200) 300 7).length) c166), (16, .int .i64 (someE (l.take 200) 300)), (17, .int .i64 (i : Int))] ∧ OwR Rp.str NoZ w_ b29 9 (.slice A40 ((l.take 200).length) c41) xs ∧ Fr [] w w_ ∧ SlR Rp.str (fun k => k < w.heap.size) w_ (.slice Al l.length cl) l ∧ SlR Rp.str (fun k => k < w.heap.size) w_ (.slice Am m.length cm) m ∧ SlR Rp.str (fun k => k < w.heap.size) w_ (.slice Al ((l.take 200).length) cl) (l.take 200) ∧ SlR Rp.str (fun k => k < w.heap.size) w_ (.slice Am ((m.take 200).length) cm) (m.take 200) ∧ OwR Rp.str NoZ w_ w66.heap.size 9 (.slice A87 ((addS (l.take 200) (m.take 200)).length) c88) (addS (l.take 200) (m.take 200)) ∧ OwR Rp.str NoZ w_ w107.heap.size 9 (.slice A121 ((unS [l.take 200]).length) c122) (unS [l.take 200]) ∧ OwR Rp.str NoZ w_ w125.heap.size 9 (.slice A142 ((delS (l.take 200) ([] : List ByteArray)).length) c143) (delS (l.take 200) ([] : List ByteArray)) ∧ OwR Rp.str NoZ w_ w146.heap.size 9 (.slice A165 ((someR (l.take 200) 300 7).length) c166) (someR (l.take 200) 300 7) ∧ (i ≤ (l.take 200).length) ∧ (xs.length = (l.take 200).length)) (fun (i : Nat) (xs : List ByteArray) => (l.take 200).length - i) 0 (l.take 200) ?_ ?_
 ·
  refine ⟨(h230.eq 17 (v := (.int .i64 0)) (u := (.int .i64 (0 : Int))) (V.int_eq (by omega))).only _, hO81_216, hF_211, hSl_212, hSm_213, hS9_214, hS18_215, hO89_220, hO123_222, hO144_223, hO167_224, (by omega), rfl⟩
 ·
  rintro i xs a231 w232 ⟨h233, hO5_234, hF_235, hSl_236, hSm_237, hS9_238, hS18_239, hO89_240, hO123_241, hO144_242, hO167_243, hi, hxs⟩
  have hfs244 := hF_235.size
  refine V.seq fun K245 k246 => ?_
  refine V.sr h233 [] 72 74 [(75, .bool (decide ((i : Int) < (((l.take 200).length : Nat) : Int))))] fun a h249 => ?_
  refine V.cp h249 ((i : Int) < (((l.take 200).length : Nat) : Int)) (fun ht250 => ?_) (fun ht250 => ?_)
  ·
   refine V.skip ?_
   refine V.then_n (k246 _ _ ?_)
   refine V.seq fun K251 k252 => ?_
   refine V.block ?_
   obtain ⟨g253, rfl⟩ : ∃ g, A40 = some ⟨g, 0, none⟩ := by (rcases own_cases hO5_234 with ⟨_, _, hz⟩ | h <;> first | exact h | (exfalso; (try simp only [List.length_append, List.length_nil] at hz); omega))
   have hltg253 := (hO5_234.lt g253 rfl)
   have hl5g253 := hlt5 g253 rfl
   have hg5g253 := hge5 g253 rfl
   refine V.rg ?_
   refine V.run h249 [(2, .ix g253 0 ((l.take 200).length) c41 .i64 (i : Int) 1 rfl)] 3 78 79 [(80, .pointer (some ⟨g253, 0 + (i : Int).toNat * 1, none⟩))] fun a h257 => ?_
   refine V.go (V.sto ((i : Int).toNat) ⟨#[63]⟩ hO5_234 (h257.e (v := (.pointer (some ⟨g253, 0 + (i : Int).toNat * 1, none⟩)))) evc (by kernel_rfl) (by omega) ?_)
   intro w254 hO255 hF256 hsw254
   have hF_258 := hF_235.own hF256 (by simp <;> omega)
   have hSl_259 := hSl_236.fr hF256 (by simp <;> omega)
   have hSm_260 := hSm_237.fr hF256 (by simp <;> omega)
   have hS9_261 := hS9_238.fr hF256 (by simp <;> omega)
   have hS18_262 := hS18_239.fr hF256 (by simp <;> omega)
   have hO89_263 := hO89_240.frn hF256 (fun h => h) (by first | exact own_ne hO89_240 (by omega) | exact own_ne2 hO89_240 (by omega))
   have hO123_264 := hO123_241.frn hF256 (fun h => h) (by first | exact own_ne hO123_241 (by omega) | exact own_ne2 hO123_241 (by omega))
   have hO144_265 := hO144_242.frn hF256 (fun h => h) (by first | exact own_ne hO144_242 (by omega) | exact own_ne2 hO144_242 (by omega))
   have hO167_266 := hO167_243.frn hF256 (fun h => h) (by first | exact own_ne hO167_243 (by omega) | exact own_ne2 hO167_243 (by omega))
   refine V.nil ?_
   refine V.blk_n ?_
   refine V.then_n (k252 _ _ ?_)
   refine V.rr h257 [(1, .i ((i : Int) + 1))] 76 77 [(17, .int .i64 ((i : Int) + 1))] fun a h267 => ?_
   refine V.then_n ?_
   refine ⟨i + 1, xs.set i ⟨#[63]⟩, by omega, ?_⟩
   refine ⟨(h267.eq 17 (v := (.int .i64 ((i : Int) + 1))) (u := (.int .i64 ((i + 1) : Int))) (V.int_eq (by omega))).only _, hO255, hF_258, hSl_259, hSm_260, hS9_261, hS18_262, hO89_263, hO123_264, hO144_265, hO167_266, (by omega), (by rw [List.length_set]; exact hxs)⟩
  ·
   refine V.exit ?_
   refine V.then_e ?_
   refine V.then_e ?_
   refine V.blk_hit ?_
   refine V.then_n (k227 _ _ ?_)
   refine V.sg fun K268 k269 => ?_
   refine V.run h249 [] 2 1 0 [(82, .slice Al ((l.take 200).length) cl), (83, .slice Am ((m.take 200).length) cm)] fun a h270 => ?_
   refine V.cl h270 (Go.Proofs.enters_of Try.func25 (by kernel_rfl) rfl) (radd_any w232 Al cl (l.take 200) hS9_238.old Am cm (m.take 200) hS18_239.old (by simp <;> omega) (by simp <;> omega)) ?_
   rintro _ w275 ⟨A271, c272, rfl, hO273, hF274⟩
   refine ⟨_, rfl, fun a h276 => ?_⟩
   have hsw275 := hF274.size
   have hO5_277 := hO5_234.fr0 hF274
   have hF_278 := hF_235.new hF274
   have hSl_279 := hSl_236.fr0 hF274
   have hSm_280 := hSm_237.fr0 hF274
   have hS9_281 := hS9_238.fr0 hF274
   have hS18_282 := hS18_239.fr0 hF274
   have hO89_283 := hO89_240.fr0 hF274
   have hO123_284 := hO123_241.fr0 hF274
   have hO144_285 := hO144_242.fr0 hF274
   have hO167_286 := hO167_243.fr0 hF274
   refine V.re h276 [] 19 87 [(18, .slice A271 ((addS (l.take 200) (m.take 200)).length) c272), (20, .int .i64 (chkN (l.take 200)))] fun a h287 => k269 _ _ ?_
   refine V.sg fun K288 k289 => ?_
   refine V.run h287 [] 1 1 0 [(89, .slice Al ((l.take 200).length) cl)] fun a h290 => ?_
   refine V.go (V.mk [(89, .slice Al ((l.take 200).length) cl)] ⟨h290.e, trivial⟩ (by kernel_rfl) [.slice Al ((l.take 200).length) cl] 22 (fun b => .slice (some ⟨b, 0, none⟩) 1 1) (by kernel_rfl) ?_)
   intro w292 b291 heb291 hB293 hF294 hsb291
   have hO5_295 := hO5_277.fr0 hF294
   have hF_296 := hF_278.new hF294
   have hSl_297 := hSl_279.fr0 hF294
   have hSm_298 := hSm_280.fr0 hF294
   have hS9_299 := hS9_281.fr0 hF294
   have hS18_300 := hS18_282.fr0 hF294
   have hO89_301 := hO89_283.fr0 hF294
   have hO123_302 := hO123_284.fr0 hF294
   have hO144_303 := hO144_285.fr0 hF294
   have hO167_304 := hO167_286.fr0 hF294
   have hO273_305 := hO273.fr0 hF294
   refine V.pt h290 fun a h306 => ?_
   refine V.cl h306 (Go.Proofs.enters_of Try.func29 (by kernel_rfl) rfl) (runion_any w292 _ _ [l.take 200] (sl_one hB293 hS9_299).old (by simp <;> omega)) ?_
   rintro _ w311 ⟨A307, c308, rfl, hO309, hF310⟩
   refine ⟨_, rfl, fun a h312 => ?_⟩
   have hsw311 := hF310.size
   have hO5_313 := hO5_295.fr0 hF310
   have hF_314 := hF_296.new hF310
   have hSl_315 := hSl_297.fr0 hF310
   have hSm_316 := hSm_298.fr0 hF310
   have hS9_317 := hS9_299.fr0 hF310
   have hS18_318 := hS18_300.fr0 hF310
   have hO89_319 := hO89_301.fr0 hF310
   have hO123_320 := hO123_302.fr0 hF310
   have hO144_321 := hO144_303.fr0 hF310
   have hO167_322 := hO167_304.fr0 hF310
   have hO273_323 := hO273_305.fr0 hF310
   have hB293_324 := hB293.fr0 hF310
   refine V.re h312 [] 88 93 [(21, .slice A307 ((unS [l.take 200]).length) c308), (22, .int .i64 (chkL [l.take 200]))] fun a h325 => k289 _ _ ?_
   refine V.sg fun K326 k327 => ?_
   refine V.run h325 [] 1 1 0 [(95, .slice Al ((l.take 200).length) cl)] fun a h328 => ?_
   refine V.cl h328 (Go.Proofs.enters_of Try.func27 (by kernel_rfl) rfl) (rdel_any w311 Al cl (l.take 200) hS9_317.old none 0 ([] : List ByteArray) (SlR.nil ..) (by simp <;> omega) (by simp <;> omega)) ?_
   rintro _ w333 ⟨A329, c330, rfl, hO331, hF332⟩
   refine ⟨_, rfl, fun a h334 => ?_⟩
   have hsw333 := hF332.size
   have hO5_335 := hO5_313.fr0 hF332
   have hF_336 := hF_314.new hF332
   have hSl_337 := hSl_315.fr0 hF332
   have hSm_338 := hSm_316.fr0 hF332
   have hS9_339 := hS9_317.fr0 hF332
   have hS18_340 := hS18_318.fr0 hF332
   have hO89_341 := hO89_319.fr0 hF332
   have hO123_342 := hO123_320.fr0 hF332
   have hO144_343 := hO144_321.fr0 hF332
   have hO167_344 := hO167_322.fr0 hF332
   have hO273_345 := hO273_323.fr0 hF332
   have hB293_346 := hB293_324.fr0 hF332
   have hO309_347 := hO309.fr0 hF332
   refine V.re h334 [] 24 99 [(23, .slice A329 ((delS (l.take 200) ([] : List ByteArray)).length) c330), (25, .int .i64 (chkN (l.take 200)))] fun a h348 => k327 _ _ ?_
   refine V.sg fun K349 k350 => ?_
   refine V.run h348 [] 1 1 0 [(101, .slice Al ((l.take 200).length) cl)] fun a h351 => ?_
   refine V.cl h351 (Go.Proofs.enters_of Try.func17 (by kernel_rfl) rfl) (rsome_any w333 Al cl (l.take 200) hS9_339.old 300 (by omega) 7 (by omega) (by omega)) ?_
   rintro _ w356 ⟨A352, c353, rfl, hO354, hF355⟩
   refine ⟨_, rfl, fun a h357 => ?_⟩
   have hsw356 := hF355.size
   have hO5_358 := hO5_335.fr0 hF355
   have hF_359 := hF_336.new hF355
   have hSl_360 := hSl_337.fr0 hF355
   have hSm_361 := hSm_338.fr0 hF355
   have hS9_362 := hS9_339.fr0 hF355
   have hS18_363 := hS18_340.fr0 hF355
   have hO89_364 := hO89_341.fr0 hF355
   have hO123_365 := hO123_342.fr0 hF355
   have hO144_366 := hO144_343.fr0 hF355
   have hO167_367 := hO167_344.fr0 hF355
   have hO273_368 := hO273_345.fr0 hF355
   have hB293_369 := hB293_346.fr0 hF355
   have hO309_370 := hO309_347.fr0 hF355
   have hO331_371 := hO331.fr0 hF355
   refine V.re h357 [] 100 104 [(26, .slice A352 ((someR (l.take 200) 300 7).length) c353), (27, .int .i64 (someE (l.take 200) 300))] fun a h372 => k350 _ _ ?_
   refine V.sg fun K373 k374 => ?_
   refine V.run h372 [] 2 1 0 [(105, .slice A87 ((addS (l.take 200) (m.take 200)).length) c88), (106, .slice A271 ((addS (l.take 200) (m.take 200)).length) c272)] fun a h375 => ?_
   have hS376 := hO89_364.is
   have hS377 := hO273_368.is
   refine V.cl h375 (Go.Proofs.enters_of Try.func18 (by kernel_rfl) rfl) (same_any w356 A87 c88 (addS (l.take 200) (m.take 200)) hS376.old A271 c272 hS377.old) ?_
   rintro _ w379 ⟨rfl, hF378⟩
   refine ⟨_, rfl, fun a h380 => ?_⟩
   have hsw379 := hF378.size
   have hO5_381 := hO5_358.fr0 hF378
   have hF_382 := hF_359.new hF378
   have hSl_383 := hSl_360.fr0 hF378
   have hSm_384 := hSm_361.fr0 hF378
   have hS9_385 := hS9_362.fr0 hF378
   have hS18_386 := hS18_363.fr0 hF378
   have hO89_387 := hO89_364.fr0 hF378
   have hO123_388 := hO123_365.fr0 hF378
   have hO144_389 := hO144_366.fr0 hF378
   have hO167_390 := hO167_367.fr0 hF378
   have hO273_391 := hO273_368.fr0 hF378
   have hB293_392 := hB293_369.fr0 hF378
   have hO309_393 := hO309_370.fr0 hF378
   have hO331_394 := hO331_371.fr0 hF378
   have hO354_395 := hO354.fr0 hF378
   have hS376_396 := hS376.fr0 hF378
   have hS377_397 := hS377.fr0 hF378
   refine V.run h380 [] 3 1 0 [(108, .bool true), (109, .slice A121 ((unS [l.take 200]).length) c122), (110, .slice A307 ((unS [l.take 200]).length) c308)] fun a h398 => ?_
   have hS399 := hO123_388.is
   have hS400 := hO309_393.is
   refine V.clg h398 (Go.Proofs.enters_of Try.func18 (by kernel_rfl) rfl) (same_any w379 A121 c122 (unS [l.take 200]) hS399.old A307 c308 hS400.old) ?_
   rintro _ w402 ⟨rfl, hF401⟩
   refine ⟨_, rfl, fun a h403 => ?_⟩
   have hsw402 := hF401.size
   have hO5_404 := hO5_381.fr0 hF401
   have hF_405 := hF_382.new hF401
   have hSl_406 := hSl_383.fr0 hF401
   have hSm_407 := hSm_384.fr0 hF401
   have hS9_408 := hS9_385.fr0 hF401
   have hS18_409 := hS18_386.fr0 hF401
   have hO89_410 := hO89_387.fr0 hF401
   have hO123_411 := hO123_388.fr0 hF401
   have hO144_412 := hO144_389.fr0 hF401
   have hO167_413 := hO167_390.fr0 hF401
   have hO273_414 := hO273_391.fr0 hF401
   have hB293_415 := hB293_392.fr0 hF401
   have hO309_416 := hO309_393.fr0 hF401
   have hO331_417 := hO331_394.fr0 hF401
   have hO354_418 := hO354_395.fr0 hF401
   have hS376_419 := hS376_396.fr0 hF401
   have hS377_420 := hS377_397.fr0 hF401
   have hS399_421 := hS399.fr0 hF401
   have hS400_422 := hS400.fr0 hF401
   refine V.run h403 [] 4 112 112 [(113, .bool true), (114, .slice A142 ((delS (l.take 200) ([] : List ByteArray)).length) c143), (115, .slice A329 ((delS (l.take 200) ([] : List ByteArray)).length) c330)] fun a h423 => ?_
   have hS424 := hO144_412.is
   have hS425 := hO331_417.is
   refine V.clg h423 (Go.Proofs.enters_of Try.func18 (by kernel_rfl) rfl) (same_any w402 A142 c143 (delS (l.take 200) ([] : List ByteArray)) hS424.old A329 c330 hS425.old) ?_
   rintro _ w427 ⟨rfl, hF426⟩
   refine ⟨_, rfl, fun a h428 => ?_⟩
   have hsw427 := hF426.size
   have hO5_429 := hO5_404.fr0 hF426
   have hF_430 := hF_405.new hF426
   have hSl_431 := hSl_406.fr0 hF426
   have hSm_432 := hSm_407.fr0 hF426
   have hS9_433 := hS9_408.fr0 hF426
   have hS18_434 := hS18_409.fr0 hF426
   have hO89_435 := hO89_410.fr0 hF426
   have hO123_436 := hO123_411.fr0 hF426
   have hO144_437 := hO144_412.fr0 hF426
   have hO167_438 := hO167_413.fr0 hF426
   have hO273_439 := hO273_414.fr0 hF426
   have hB293_440 := hB293_415.fr0 hF426
   have hO309_441 := hO309_416.fr0 hF426
   have hO331_442 := hO331_417.fr0 hF426
   have hO354_443 := hO354_418.fr0 hF426
   have hS376_444 := hS376_419.fr0 hF426
   have hS377_445 := hS377_420.fr0 hF426
   have hS399_446 := hS399_421.fr0 hF426
   have hS400_447 := hS400_422.fr0 hF426
   have hS424_448 := hS424.fr0 hF426
   have hS425_449 := hS425.fr0 hF426
   refine V.run h428 [] 4 117 117 [(118, .bool true), (119, .slice A165 ((someR (l.take 200) 300 7).length) c166), (120, .slice A352 ((someR (l.take 200) 300 7).length) c353)] fun a h450 => ?_
   have hS451 := hO167_438.is
   have hS452 := hO354_443.is
   refine V.clg h450 (Go.Proofs.enters_of Try.func18 (by kernel_rfl) rfl) (same_any w427 A165 c166 (someR (l.take 200) 300 7) hS451.old A352 c353 hS452.old) ?_
   rintro _ w454 ⟨rfl, hF453⟩
   refine ⟨_, rfl, fun a h455 => ?_⟩
   have hsw454 := hF453.size
   have hO5_456 := hO5_429.fr0 hF453
   have hF_457 := hF_430.new hF453
   have hSl_458 := hSl_431.fr0 hF453
   have hSm_459 := hSm_432.fr0 hF453
   have hS9_460 := hS9_433.fr0 hF453
   have hS18_461 := hS18_434.fr0 hF453
   have hO89_462 := hO89_435.fr0 hF453
   have hO123_463 := hO123_436.fr0 hF453
   have hO144_464 := hO144_437.fr0 hF453
   have hO167_465 := hO167_438.fr0 hF453
   have hO273_466 := hO273_439.fr0 hF453
   have hB293_467 := hB293_440.fr0 hF453
   have hO309_468 := hO309_441.fr0 hF453
   have hO331_469 := hO331_442.fr0 hF453
   have hO354_470 := hO354_443.fr0 hF453
   have hS376_471 := hS376_444.fr0 hF453
   have hS377_472 := hS377_445.fr0 hF453
   have hS399_473 := hS399_446.fr0 hF453
   have hS400_474 := hS400_447.fr0 hF453
   have hS424_475 := hS424_448.fr0 hF453
   have hS425_476 := hS425_449.fr0 hF453
   have hS451_477 := hS451.fr0 hF453
   have hS452_478 := hS452.fr0 hF453
   refine V.run h455 [(4, .q (.bool true) (V.t_same (chkN (l.take 200)))), (4, .q (.bool true) (V.t_same (chkL [l.take 200]))), (4, .q (.bool true) (V.t_same (chkN (l.take 200)))), (4, .q (.bool true) (V.t_same (someE (l.take 200) 300)))] 22 122 142 [(143, .bool true)] fun a h479 => ?_
   refine V.clg h479 (Go.Proofs.enters_of Try.func10 (by kernel_rfl) rfl) (awake_any w454) ?_
   rintro _ w481 ⟨rfl, hF480⟩
   refine ⟨_, rfl, fun a h482 => ?_⟩
   have hsw481 := hF480.size
   have hO5_483 := hO5_456.fr0 hF480
   have hF_484 := hF_457.new hF480
   have hSl_485 := hSl_458.fr0 hF480
   have hSm_486 := hSm_459.fr0 hF480
   have hS9_487 := hS9_460.fr0 hF480
   have hS18_488 := hS18_461.fr0 hF480
   have hO89_489 := hO89_462.fr0 hF480
   have hO123_490 := hO123_463.fr0 hF480
   have hO144_491 := hO144_464.fr0 hF480
   have hO167_492 := hO167_465.fr0 hF480
   have hO273_493 := hO273_466.fr0 hF480
   have hB293_494 := hB293_467.fr0 hF480
   have hO309_495 := hO309_468.fr0 hF480
   have hO331_496 := hO331_469.fr0 hF480
   have hO354_497 := hO354_470.fr0 hF480
   have hS376_498 := hS376_471.fr0 hF480
   have hS377_499 := hS377_472.fr0 hF480
   have hS399_500 := hS399_473.fr0 hF480
   have hS400_501 := hS400_474.fr0 hF480
   have hS424_502 := hS424_475.fr0 hF480
   have hS425_503 := hS425_476.fr0 hF480
   have hS451_504 := hS451_477.fr0 hF480
   have hS452_505 := hS452_478.fr0 hF480
   refine V.re h482 [] 145 145 [(4, .bool true)] fun a h506 => k374 _ _ ?_
   have h507 := h506.only [(4, .bool true)]
   refine V.ret ?_
   refine V.r1 h507 (.bool true) ?_
   exact ⟨rfl, hF_484⟩
end Go.Proofs.Ytkepojdmgdgaoaa
