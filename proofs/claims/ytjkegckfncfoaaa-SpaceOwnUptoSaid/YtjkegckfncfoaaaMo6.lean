/- Joined texts: Hm, Opn, Hn. -/
import Derived.Test.YtjkegckfncfoaaaProg
import Derived.Test.YtjkegckfncfoaaaRows
import Derived.Deep.Slices
import Derived.Lib.SmallJoins
import Derived.ProofKit
import Derived.ChangeSame
import Derived.Test.YtjkegckfncfoaaaMo5
section
namespace Go.Proofs.Ytjkegckfncfoaaa
open Go.V Go.Base
open Go.RowKit (Below)
attribute [local irreducible] Act.put Act.eval
set_option linter.unusedVariables false
set_option linter.unusedSimpArgs false
theorem rvalue_no (w : World) (k : Int) (s : ByteArray) (Al : Option Addr) (cl : Nat) (l : List ByteArray) (hSl : SlR Rp.str (fun k => k < w.heap.size) w (.slice Al l.length cl) l) (Az : Option Addr) (cz : Nat) (z : List (ByteArray × Int)) (hSz : SlR scR (fun k => k < w.heap.size) w (.slice Az z.length cz) z) (Ah : Option Addr) (ch : Nat) (h : List (ByteArray × ByteArray)) (hSh : SlR fdR (fun k => k < w.heap.size) w (.slice Ah h.length ch) h) (h9 : ¬ okD ⟨⟨#[107]⟩, k, s, l, z, h, -1⟩) : Calls Try.prog 8 #[.agg #[.int .i64 k, .string s, .slice Al l.length cl, .slice Az z.length cz, .slice Ah h.length ch]] w (fun e w' => e = .returned (.int .i64 90) ∧ Fr [] w w') :=
  (rvalue_any w k s Al cl l hSl Az cz z hSz Ah ch h hSh).mono fun e w' ⟨he, hf⟩ => ⟨by
    rw [he, @if_neg _ (Classical.propDecidable _) (fun hv => h9 ⟨by show ByteArray.size ⟨#[107]⟩ ≤ 65536; decide, .inl rfl, hv⟩)], hf⟩
set_option maxHeartbeats 4000000 in
set_option maxRecDepth 20000 in
theorem spaceOwn_any (w : World) (k : Int) (s : ByteArray) (Al : Option Addr) (cl : Nat) (l : List ByteArray) (hSl : SlR Rp.str (fun k => k < w.heap.size) w (.slice Al l.length cl) l) (Az : Option Addr) (cz : Nat) (z : List (ByteArray × Int)) (hSz : SlR scR (fun k => k < w.heap.size) w (.slice Az z.length cz) z) (Ah : Option Addr) (ch : Nat) (h : List (ByteArray × ByteArray)) (hSh : SlR fdR (fun k => k < w.heap.size) w (.slice Ah h.length ch) h) (hll : l.length ≤ 1048576) (hlz : z.length ≤ 1048576) (hlh : h.length ≤ 1048576) (hz : ∀ x ∈ z, x.1.size ≤ 1048576) : Calls Try.prog 3 #[.agg #[.int .i64 k, .string s, .slice Al l.length cl, .slice Az z.length cz, .slice Ah h.length ch]] w (fun e w' => e = .returned (.bool true) ∧ Fr [] w w') := by
 have hP := FrP.refl (fun _ => False) w
 refine V.en 136 Try.func3 fun a h1 => ?_
 refine V.sg fun K2 k3 => ?_
 refine V.go (V.mk [(0, .agg #[.int .i64 k, .string s, .slice Al l.length cl, .slice Az z.length cz, .slice Ah h.length ch])] ⟨h1.e, trivial⟩ (by kernel_rfl) [.int .i64 k, .string s, .slice Al l.length cl, .slice Az z.length cz, .slice Ah h.length ch] 27 (fun b => .pointer (some ⟨b, 0, none⟩)) (by kernel_rfl) ?_)
 intro w5 b4 heb4 hB6 hF7 hsb4
 have hP_8 := hP.tr0 hF7
 have hSl_9 := hSl.fr0 hF7
 have hSz_10 := hSz.fr0 hF7
 have hSh_11 := hSh.fr0 hF7
 refine V.pt h1 fun a h12 => ?_
 refine V.re h12 [] 2 2 [] fun a h13 => k3 _ _ ?_
 refine V.seq fun K14 k15 => ?_
 refine V.sg fun K16 k17 => ?_
 refine V.cl h13 (Go.Proofs.enters_of Try.func5 (by kernel_rfl) rfl) (awake_any w5) ?_
 rintro _ w19 ⟨rfl, hF18⟩
 refine ⟨_, rfl, fun a h20 => ?_⟩
 have hsw19 := hF18.size
 have hP_21 := hP_8.tr0 hF18
 have hSl_22 := hSl_9.fr0 hF18
 have hSz_23 := hSz_10.fr0 hF18
 have hSh_24 := hSh_11.fr0 hF18
 have hB6_25 := hB6.fr0 hF18
 refine V.re h20 [] 1 0 [(18, .bool false)] fun a h26 => k17 _ _ ?_
 refine V.cf h26 ?_
 refine V.skip ?_
 refine V.then_n (k15 _ _ ?_)
 refine V.sg fun K27 k28 => ?_
 refine V.run h26 [(0, .bs hB6_25 0 [.int .i64 k, .string s, .slice Al l.length cl, .slice Az z.length cz, .slice Ah h.length ch])] 1 1 0 [(19, .agg #[.int .i64 k, .string s, .slice Al l.length cl, .slice Az z.length cz, .slice Ah h.length ch])] fun a h33 => ?_
 refine V.go (V.mk [] trivial (by kernel_rfl) [.int .i64 0, .string ⟨#[]⟩, .slice none 0 0, .slice none 0 0, .slice none 0 0] 27 (fun b => .pointer (some ⟨b, 0, none⟩)) (by kernel_rfl) ?_)
 intro w30 b29 heb29 hB31 hF32 hsb29
 have hP_34 := hP_21.tr0 hF32
 have hSl_35 := hSl_22.fr0 hF32
 have hSz_36 := hSz_23.fr0 hF32
 have hSh_37 := hSh_24.fr0 hF32
 have hB6_38 := hB6_25.fr0 hF32
 refine V.pt h33 fun a h39 => ?_
 refine V.go (V.stn b29 0 (.agg #[.int .i64 k, .string s, .slice Al l.length cl, .slice Az z.length cz, .slice Ah h.length ch]) [.int .i64 k, .string s, .slice Al l.length cl, .slice Az z.length cz, .slice Ah h.length ch] h39.e h39.e rfl rfl (by kernel_rfl) hB31 (by simp) [.int .i64 k, .string s, .slice Al l.length cl, .slice Az z.length cz, .slice Ah h.length ch] rfl ?_)
 intro w40 hB41 hF42 hsw40
 have hP_43 := hP_34.tr1 hF42 (by first | exact .inl (by assumption) | exact .inr (by omega) | exact .inl (.inl rfl))
 have hSl_44 := hSl_35.fr hF42 (by simp <;> omega)
 have hSz_45 := hSz_36.fr hF42 (by simp <;> omega)
 have hSh_46 := hSh_37.fr hF42 (by simp <;> omega)
 have hB6_47 := hB6_38.fr1 hF42 (by omega)
 refine V.nt (k28 _ _ ?_)
 refine V.sg fun K48 k49 => ?_
 refine V.go (V.mk [] trivial (by kernel_rfl) [] 9 (fun b => .slice (some ⟨b, 0, none⟩) 0 0) (by kernel_rfl) ?_)
 intro w51 b50 heb50 hB52 hF53 hsb50
 have hP_54 := hP_43.tr0 hF53
 have hSl_55 := hSl_44.fr0 hF53
 have hSz_56 := hSz_45.fr0 hF53
 have hSh_57 := hSh_46.fr0 hF53
 have hB6_58 := hB6_47.fr0 hF53
 have hB41_59 := hB41.fr0 hF53
 refine V.pt h39 fun a h60 => ?_
 have hO61 := OwR.empty (R := Rp.str) (base := b50) hB52 (Nat.le_refl _)
 refine V.run h60 [(1, .b hB6_58 2)] 2 21 21 [(22, .slice Al l.length cl)] fun a h67 => ?_
 refine V.go (V.appS0 (R := Rp.str) (h67.e (v := (.slice (some ⟨b50, 0, none⟩) 0 0))) (h67.e (v := (.slice Al l.length cl))) (by kernel_rfl) info9 (by kernel_rfl) (by decide) hO61 hSl_55 (fun _ _ h => h) (by omega) (by decide) (by omega) ?_)
 intro A62 c63 w64 hO65 hF66
 have hsw64 := hF66.size
 have hP_68 := hP_54.tr hF66 (fun k hk => .inr (by have := own_ge hO61 (Nat.le_refl _) k hk; omega))
 have hSl_69 := hSl_55.fr hF66 (by intro b hb hz; have := own_ge hO61 (Nat.le_refl _) b hb; (try dsimp only at hz); omega)
 have hSz_70 := hSz_56.fr hF66 (by intro b hb hz; have := own_ge hO61 (Nat.le_refl _) b hb; (try dsimp only at hz); omega)
 have hSh_71 := hSh_57.fr hF66 (by intro b hb hz; have := own_ge hO61 (Nat.le_refl _) b hb; (try dsimp only at hz); omega)
 have hB6_72 := hB6_58.fr hF66 (by first | exact own_notin hO61 (by omega) | exact own_notin2 hO61 (by omega))
 have hB41_73 := hB41_59.fr hF66 (by first | exact own_notin hO61 (by omega) | exact own_notin2 hO61 (by omega))
 have hl74 := hO65.lt
 refine V.pt h67 fun a h75 => ?_
 refine V.run h75 [] 1 1 0 [(24, .pointer (some ⟨b29, 2, none⟩))] fun a h79 => ?_
 refine V.go (V.stn b29 2 (.slice A62 l.length c63) [.slice A62 l.length c63] h79.e h79.e rfl rfl (by kernel_rfl) hB41_73 (by simp) [.int .i64 k, .string s, .slice A62 l.length c63, .slice Az z.length cz, .slice Ah h.length ch] rfl ?_)
 intro w76 hB77 hF78 hsw76
 have hP_80 := hP_68.tr1 hF78 (by first | exact .inl (by assumption) | exact .inr (by omega) | exact .inl (.inl rfl))
 have hSl_81 := hSl_69.fr hF78 (by simp <;> omega)
 have hSz_82 := hSz_70.fr hF78 (by simp <;> omega)
 have hSh_83 := hSh_71.fr hF78 (by simp <;> omega)
 have hB6_84 := hB6_72.fr1 hF78 (by omega)
 have hO65_85 := hO65.frn hF78 (fun h => h) (fun e => by have := hl74 _ e; omega)
 refine V.nt (k49 _ _ ?_)
 refine V.sg fun K86 k87 => ?_
 refine V.go (V.mk [] trivial (by kernel_rfl) [] 35 (fun b => .slice (some ⟨b, 0, none⟩) 0 0) (by kernel_rfl) ?_)
 intro w89 b88 heb88 hB90 hF91 hsb88
 have hP_92 := hP_80.tr0 hF91
 have hSl_93 := hSl_81.fr0 hF91
 have hSz_94 := hSz_82.fr0 hF91
 have hSh_95 := hSh_83.fr0 hF91
 have hB6_96 := hB6_84.fr0 hF91
 have hO65_97 := hO65_85.fr0 hF91
 have hB77_98 := hB77.fr0 hF91
 refine V.pt h79 fun a h99 => ?_
 have hO100 := OwR.empty (R := fdR) (base := b88) hB90 (Nat.le_refl _)
 refine V.run h99 [(1, .b hB6_96 4)] 2 26 26 [(27, .slice Ah h.length ch)] fun a h106 => ?_
 refine V.go (V.appS0 (R := fdR) (h106.e (v := (.slice (some ⟨b88, 0, none⟩) 0 0))) (h106.e (v := (.slice Ah h.length ch))) (by kernel_rfl) info35 (by kernel_rfl) (by decide) hO100 hSh_95 (fun _ _ h => h) (by omega) (by decide) (by omega) ?_)
 intro A101 c102 w103 hO104 hF105
 have hsw103 := hF105.size
 have hP_107 := hP_92.tr hF105 (fun k hk => .inr (by have := own_ge hO100 (Nat.le_refl _) k hk; omega))
 have hSl_108 := hSl_93.fr hF105 (by intro b hb hz; have := own_ge hO100 (Nat.le_refl _) b hb; (try dsimp only at hz); omega)
 have hSz_109 := hSz_94.fr hF105 (by intro b hb hz; have := own_ge hO100 (Nat.le_refl _) b hb; (try dsimp only at hz); omega)
 have hSh_110 := hSh_95.fr hF105 (by intro b hb hz; have := own_ge hO100 (Nat.le_refl _) b hb; (try dsimp only at hz); omega)
 have hB6_111 := hB6_96.fr hF105 (by first | exact own_notin hO100 (by omega) | exact own_notin2 hO100 (by omega))
 have hO65_112 := hO65_97.fr hF105 (fun _ _ h => h) (fun b hb hm => by have hb1 := (hO65.lt b hb).2; have hb2 := own_ge hO100 (Nat.le_refl _) b hm; omega)
 have hB77_113 := hB77_98.fr hF105 (by first | exact own_notin hO100 (by omega) | exact own_notin2 hO100 (by omega))
 have hl114 := hO104.lt
 refine V.pt h106 fun a h115 => ?_
 refine V.run h115 [] 1 1 0 [(29, .pointer (some ⟨b29, 4, none⟩))] fun a h119 => ?_
 refine V.go (V.stn b29 4 (.slice A101 h.length c102) [.slice A101 h.length c102] h119.e h119.e rfl rfl (by kernel_rfl) hB77_113 (by simp) [.int .i64 k, .string s, .slice A62 l.length c63, .slice Az z.length cz, .slice A101 h.length c102] rfl ?_)
 intro w116 hB117 hF118 hsw116
 have hP_120 := hP_107.tr1 hF118 (by first | exact .inl (by assumption) | exact .inr (by omega) | exact .inl (.inl rfl))
 have hSl_121 := hSl_108.fr hF118 (by simp <;> omega)
 have hSz_122 := hSz_109.fr hF118 (by simp <;> omega)
 have hSh_123 := hSh_110.fr hF118 (by simp <;> omega)
 have hB6_124 := hB6_111.fr1 hF118 (by omega)
 have hO65_125 := hO65_112.frn hF118 (fun h => h) (fun e => by have := hl74 _ e; omega)
 have hO104_126 := hO104.frn hF118 (fun h => h) (fun e => by have := hl114 _ e; omega)
 refine V.nt (k87 _ _ ?_)
 refine V.sg fun K127 k128 => ?_
 refine V.go (V.mk [] trivial (by kernel_rfl) [] 37 (fun b => .slice (some ⟨b, 0, none⟩) 0 0) (by kernel_rfl) ?_)
 intro w130 b129 heb129 hB131 hF132 hsb129
 have hP_133 := hP_120.tr0 hF132
 have hSl_134 := hSl_121.fr0 hF132
 have hSz_135 := hSz_122.fr0 hF132
 have hSh_136 := hSh_123.fr0 hF132
 have hB6_137 := hB6_124.fr0 hF132
 have hO65_138 := hO65_125.fr0 hF132
 have hO104_139 := hO104_126.fr0 hF132
 have hB117_140 := hB117.fr0 hF132
 refine V.pt h119 fun a h141 => ?_
 have hO142 := OwR.empty (R := scR) (base := b129) hB131 (Nat.le_refl _)
 refine V.run h141 [(1, .b hB6_137 3)] 2 31 31 [(32, .slice Az z.length cz)] fun a h148 => ?_
 refine V.go (V.appS0 (R := scR) (h148.e (v := (.slice (some ⟨b129, 0, none⟩) 0 0))) (h148.e (v := (.slice Az z.length cz))) (by kernel_rfl) info37 (by kernel_rfl) (by decide) hO142 hSz_135 (fun _ _ h => h) (by omega) (by decide) (by omega) ?_)
 intro A143 c144 w145 hO146 hF147
 have hsw145 := hF147.size
 have hP_149 := hP_133.tr hF147 (fun k hk => .inr (by have := own_ge hO142 (Nat.le_refl _) k hk; omega))
 have hSl_150 := hSl_134.fr hF147 (by intro b hb hz; have := own_ge hO142 (Nat.le_refl _) b hb; (try dsimp only at hz); omega)
 have hSz_151 := hSz_135.fr hF147 (by intro b hb hz; have := own_ge hO142 (Nat.le_refl _) b hb; (try dsimp only at hz); omega)
 have hSh_152 := hSh_136.fr hF147 (by intro b hb hz; have := own_ge hO142 (Nat.le_refl _) b hb; (try dsimp only at hz); omega)
 have hB6_153 := hB6_137.fr hF147 (by first | exact own_notin hO142 (by omega) | exact own_notin2 hO142 (by omega))
 have hO65_154 := hO65_138.fr hF147 (fun _ _ h => h) (fun b hb hm => by have hb1 := (hO65.lt b hb).2; have hb2 := own_ge hO142 (Nat.le_refl _) b hm; omega)
 have hO104_155 := hO104_139.fr hF147 (fun _ _ h => h) (fun b hb hm => by have hb1 := (hO104.lt b hb).2; have hb2 := own_ge hO142 (Nat.le_refl _) b hm; omega)
 have hB117_156 := hB117_140.fr hF147 (by first | exact own_notin hO142 (by omega) | exact own_notin2 hO142 (by omega))
 have hl157 := hO146.lt
 refine V.pt h148 fun a h158 => ?_
 refine V.run h158 [] 1 1 0 [(34, .pointer (some ⟨b29, 3, none⟩))] fun a h162 => ?_
 refine V.go (V.stn b29 3 (.slice A143 z.length c144) [.slice A143 z.length c144] h162.e h162.e rfl rfl (by kernel_rfl) hB117_156 (by simp) [.int .i64 k, .string s, .slice A62 l.length c63, .slice A143 z.length c144, .slice A101 h.length c102] rfl ?_)
 intro w159 hB160 hF161 hsw159
 have hP_163 := hP_149.tr1 hF161 (by first | exact .inl (by assumption) | exact .inr (by omega) | exact .inl (.inl rfl))
 have hSl_164 := hSl_150.fr hF161 (by simp <;> omega)
 have hSz_165 := hSz_151.fr hF161 (by simp <;> omega)
 have hSh_166 := hSh_152.fr hF161 (by simp <;> omega)
 have hB6_167 := hB6_153.fr1 hF161 (by omega)
 have hO65_168 := hO65_154.frn hF161 (fun h => h) (fun e => by have := hl74 _ e; omega)
 have hO104_169 := hO104_155.frn hF161 (fun h => h) (fun e => by have := hl114 _ e; omega)
 have hO146_170 := hO146.frn hF161 (fun h => h) (fun e => by have := hl157 _ e; omega)
 refine V.nt (k128 _ _ ?_)
 refine V.sg fun K171 k172 => ?_
 refine V.cl h162 (Go.Proofs.enters_of Try.func6 (by kernel_rfl) rfl) (spnew_A w159) ?_
 rintro _ w176 ⟨sp173, rfl, hA174, hF175⟩
 refine ⟨_, rfl, fun a h177 => ?_⟩
 have hsw176 := hF175.size
 have hP_178 := hP_163.tr0 hF175
 have hSl_179 := hSl_164.fr0 hF175
 have hSz_180 := hSz_165.fr0 hF175
 have hSh_181 := hSh_166.fr0 hF175
 have hB6_182 := hB6_167.fr0 hF175
 have hO65_183 := hO65_168.fr0 hF175
 have hO104_184 := hO104_169.fr0 hF175
 have hO146_185 := hO146_170.fr0 hF175
 have hB160_186 := hB160.fr0 hF175
 refine V.re h177 [] 1 0 [(4, .pointer (some ⟨sp173, 0, none⟩))] fun a h187 => k172 _ _ ?_
 refine V.seq fun K188 k189 => ?_
 refine V.seq fun K190 k191 => ?_
 rcases Classical.em (okD ⟨⟨#[107]⟩, k, s, l, z, h, (-1)⟩) with hok | hok
 ·
  refine V.rg ?_
  refine V.run h187 [(1, .bs hB160_186 0 [.int .i64 k, .string s, .slice A62 l.length c63, .slice A143 z.length c144, .slice A101 h.length c102])] 2 1 0 [(36, .pointer (some ⟨sp173, 0, none⟩)), (37, .agg #[.int .i64 k, .string s, .slice A62 l.length c63, .slice A143 z.length c144, .slice A101 h.length c102])] fun a h192 => ?_
  refine V.cl h192 (Go.Proofs.enters_of Try.func7 (by kernel_rfl) rfl) (spput_ok w176 hA174 ⟨#[107]⟩ (by decide) k s A62 c63 l (hO65_183.read (Z' := fun _ => True) (fun _ _ _ => trivial) (fun _ _ _ => trivial)).old A143 c144 z (hO146_185.read (Z' := fun _ => True) (fun _ _ _ => trivial) (fun _ _ _ => trivial)).old A101 c102 h (hO104_184.read (Z' := fun _ => True) (fun _ _ _ => trivial) (fun _ _ _ => trivial)).old (by omega) (by omega) (by omega) (fun x hx => Nat.le_trans (hz x hx) (by unfold maxLen; omega)) (-1) hok (.inr (by decide)) (n' := 1) rfl) ?_
  rintro _ w195 ⟨rfl, hA193, hF194⟩
  refine ⟨_, rfl, fun a h196 => ?_⟩
  have hsw195 := hF194.size
  have hP_197 := hP_178.trP hF194 (fun k hk => .inr (by have := hk.1; omega))
  have hSl_198 := hSl_179.frP hF194 (fun k hz hp => by have h1 := hp.1; (try dsimp only at hz h1); omega)
  have hSz_199 := hSz_180.frP hF194 (fun k hz hp => by have h1 := hp.1; (try dsimp only at hz h1); omega)
  have hSh_200 := hSh_181.frP hF194 (fun k hz hp => by have h1 := hp.1; (try dsimp only at hz h1); omega)
  have hB6_201 := hB6_182.frP hF194 (by exact fun hp => by have := hp.1; omega)
  have hO65_202 := hO65_183.frP hF194 (fun b hb hp => by have h1 := hl74 b hb; first | (have h2 := hp.1; omega) | (exact hp.2 (.inr ⟨_, by first | exact List.mem_cons_self .. | simp, hb⟩)))
  have hO104_203 := hO104_184.frP hF194 (fun b hb hp => by have h1 := hl114 b hb; first | (have h2 := hp.1; omega) | (exact hp.2 (.inr ⟨_, by first | exact List.mem_cons_self .. | simp, hb⟩)))
  have hO146_204 := hO146_185.frP hF194 (fun b hb hp => by have h1 := hl157 b hb; first | (have h2 := hp.1; omega) | (exact hp.2 (.inr ⟨_, by first | exact List.mem_cons_self .. | simp, hb⟩)))
  have hB160_205 := hB160_186.frP hF194 (by exact fun hp => by have := hp.1; omega)
  refine V.re h196 [] 1 0 [(39, .bool false)] fun a h206 => k191 _ _ ?_
  refine V.cf h206 ?_
  refine V.skip ?_
  refine V.then_n (k189 _ _ ?_)
  refine V.seq fun K207 k208 => ?_
  refine V.sr h206 [(1, .b hB160_205 2)] 43 44 [(45, .int .i64 ((l.length : Nat) : Int)), (46, .int .i64 0)] fun a h211 => ?_
  refine V.block ?_
  refine V.loop2 (fun (i_46 : Nat) (l9_46 : List ByteArray) a_ w_ => En 136 [] a_ [(1, .pointer (some ⟨b4, 0, none⟩)), (3, .pointer (some ⟨b29, 0, none⟩)), (4, .pointer (some ⟨sp173, 0, none⟩)), (45, .int .i64 ((l.length : Nat) : Int)), (46, .int .i64 (i_46 : Int))] ∧ OwR Rp.str NoZ w_ b50 9 (.slice A62 l.length c63) l9_46 ∧ FrP (fun _ => False) w w_ ∧ SlR Rp.str (fun k => k < w.heap.size) w_ (.slice Al l.length cl) l ∧ SlR scR (fun k => k < w.heap.size) w_ (.slice Az z.length cz) z ∧ SlR fdR (fun k => k < w.heap.size) w_ (.slice Ah h.length ch) h ∧ Blk w_ b4 [.int .i64 k, .string s, .slice Al l.length cl, .slice Az z.length cz, .slice Ah h.length ch] 27 ∧ OwR fdR NoZ w_ b88 35 (.slice A101 h.length c102) h ∧ OwR scR NoZ w_ b129 37 (.slice A143 z.length c144) z ∧ Blk w_ b29 [.int .i64 k, .string s, .slice A62 l.length c63, .slice A143 z.length c144, .slice A101 h.length c102] 27 ∧ SpA w_ w159.heap.size [] [] sp173 1 (updD (fun _ => none) ⟨#[107]⟩ (some ⟨⟨#[107]⟩, k, s, l, z, h, (-1)⟩)) ∧ (i_46 ≤ l.length) ∧ (l9_46.length = l.length)) (fun (i_46 : Nat) (l9_46 : List ByteArray) => l.length - i_46) 0 l ?_ ?_
  ·
   refine ⟨(h211.eq 46 (v := (.int .i64 0)) (u := (.int .i64 (0 : Int))) (V.int_eq (by omega))).only _, hO65_202, hP_197, hSl_198, hSz_199, hSh_200, hB6_201, hO104_203, hO146_204, hB160_205, hA193, (by omega), rfl⟩
  ·
   rintro i_46 l9_46 a212 w213 ⟨h214, hO9_215, hP_216, hSl_217, hSz_218, hSh_219, hB6_220, hO104_221, hO146_222, hB160_223, hA193_224, hi_46, h9_46⟩
   have hfs225 := hP_216.size
   have hlt226 := hB6_220.lt
   have hlt227 := hB160_223.lt
   refine V.sr h214 [] 1 0 [(47, .bool (decide ((i_46 : Int) < ((l.length : Nat) : Int))))] fun a h230 => ?_
   refine V.seq fun K231 k232 => ?_
   refine V.cp h230 ((i_46 : Int) < ((l.length : Nat) : Int)) (fun ht233 => ?_) (fun ht233 => ?_)
   ·
    refine V.skip ?_
    refine V.then_n (k232 _ _ ?_)
    refine V.seq fun K234 k235 => ?_
    refine V.block ?_
    refine V.sr h230 [] 48 48 [(5, .int .i64 (i_46 : Int))] fun a h238 => ?_
    have hS239 := hO9_215.read (Z' := fun _ => True) (fun _ _ _ => trivial) (fun _ _ _ => trivial)
    obtain ⟨g240, o241, hA242, hA242l, hA242z⟩ := hS239.addr (by omega)
    have hg246 := hl74 g240 (by rw [hA242]; rfl)
    refine V.rg ?_
    refine V.run h238 [(1, .b hB160_223 2), (1, .ix g240 o241 l.length c63 .i64 (i_46 : Int) 1 hA242)] 4 49 51 [(52, .pointer (some ⟨g240, o241 + (i_46 : Int).toNat * 1, none⟩))] fun a h249 => ?_
    refine V.go (V.stoR (R := Rp.str) (j := i_46) (f := 0) hO9_215 hA242 (by omega) (.string ⟨#[63]⟩) [.string ⟨#[63]⟩] (by decide) (fun _ => ⟨#[63]⟩) (h249.e (v := (.pointer (some ⟨g240, o241 + (i_46 : Int).toNat * 1, none⟩)))) evc rfl rfl (by kernel_rfl) (fun w1 x c hc => by (have hc' : c = [.string x] := hc; subst hc'; rfl)) ?_)
    rintro w243 ⟨l247, hln248, hO244⟩ hF245 hsw243
    have hP_250 := hP_216.tr1 hF245 (by first | exact .inl (by assumption) | exact .inr (by omega) | exact .inl (.inl rfl))
    have hSl_251 := hSl_217.fr hF245 (by simp <;> omega)
    have hSz_252 := hSz_218.fr hF245 (by simp <;> omega)
    have hSh_253 := hSh_219.fr hF245 (by simp <;> omega)
    have hB6_254 := hB6_220.fr1 hF245 (by omega)
    have hO104_255 := hO104_221.frn hF245 (fun h => h) (fun e => by have := hl114 _ e; omega)
    have hO146_256 := hO146_222.frn hF245 (fun h => h) (fun e => by have := hl157 _ e; omega)
    have hB160_257 := hB160_223.fr1 hF245 (by omega)
    have hA193_258 := hA193_224.frl hF245 (by intro k hk; simp only [List.mem_singleton] at hk; subst hk; exact .inr (by omega))
    refine V.nil ?_
    refine V.blk_n ?_
    refine V.then_n (k235 _ _ ?_)
    refine V.rr h249 [(0, .i ((i_46 : Int) + 1))] 53 53 [(46, .int .i64 ((i_46 : Int) + 1))] fun a h259 => ?_
    refine V.then_n ?_
    refine ⟨i_46 + 1, l247, by omega, ?_⟩
    refine ⟨(h259.eq 46 (v := (.int .i64 ((i_46 : Int) + 1))) (u := (.int .i64 ((i_46 + 1) : Int))) (V.int_eq (by omega))).only _, hO244, hP_250, hSl_251, hSz_252, hSh_253, hB6_254, hO104_255, hO146_256, hB160_257, hA193_258, (by omega), (hln248.trans h9_46)⟩
   ·
    refine V.exit ?_
    refine V.then_e ?_
    refine V.then_e ?_
    refine V.blk_hit ?_
    refine V.then_n (k208 _ _ ?_)
    refine V.seq fun K260 k261 => ?_
    refine V.sr h230 [(1, .b hB160_223 4)] 54 55 [(56, .int .i64 ((h.length : Nat) : Int)), (57, .int .i64 0)] fun a h264 => ?_
    refine V.block ?_
    refine V.loop2 (fun (i_57 : Nat) (l9_57 : List (ByteArray × ByteArray)) a_ w_ => En 136 [] a_ [(1, .pointer (some ⟨b4, 0, none⟩)), (3, .pointer (some ⟨b29, 0, none⟩)), (4, .pointer (some ⟨sp173, 0, none⟩)), (56, .int .i64 ((h.length : Nat) : Int)), (57, .int .i64 (i_57 : Int))] ∧ OwR fdR NoZ w_ b88 35 (.slice A101 h.length c102) l9_57 ∧ OwR Rp.str NoZ w_ b50 9 (.slice A62 l.length c63) l9_46 ∧ FrP (fun _ => False) w w_ ∧ SlR Rp.str (fun k => k < w.heap.size) w_ (.slice Al l.length cl) l ∧ SlR scR (fun k => k < w.heap.size) w_ (.slice Az z.length cz) z ∧ SlR fdR (fun k => k < w.heap.size) w_ (.slice Ah h.length ch) h ∧ Blk w_ b4 [.int .i64 k, .string s, .slice Al l.length cl, .slice Az z.length cz, .slice Ah h.length ch] 27 ∧ OwR scR NoZ w_ b129 37 (.slice A143 z.length c144) z ∧ Blk w_ b29 [.int .i64 k, .string s, .slice A62 l.length c63, .slice A143 z.length c144, .slice A101 h.length c102] 27 ∧ SpA w_ w159.heap.size [] [] sp173 1 (updD (fun _ => none) ⟨#[107]⟩ (some ⟨⟨#[107]⟩, k, s, l, z, h, (-1)⟩)) ∧ (i_57 ≤ h.length) ∧ (l9_57.length = h.length)) (fun (i_57 : Nat) (l9_57 : List (ByteArray × ByteArray)) => h.length - i_57) 0 h ?_ ?_
    ·
     refine ⟨(h264.eq 57 (v := (.int .i64 0)) (u := (.int .i64 (0 : Int))) (V.int_eq (by omega))).only _, hO104_221, hO9_215, hP_216, hSl_217, hSz_218, hSh_219, hB6_220, hO146_222, hB160_223, hA193_224, (by omega), rfl⟩
    ·
     rintro i_57 l9_57 a265 w266 ⟨h267, hO9_268, hO9_269, hP_270, hSl_271, hSz_272, hSh_273, hB6_274, hO146_275, hB160_276, hA193_277, hi_57, h9_57⟩
     have hfs278 := hP_270.size
     have hlt279 := hB6_274.lt
     have hlt280 := hB160_276.lt
     refine V.sr h267 [] 1 0 [(58, .bool (decide ((i_57 : Int) < ((h.length : Nat) : Int))))] fun a h283 => ?_
     refine V.seq fun K284 k285 => ?_
     refine V.cp h283 ((i_57 : Int) < ((h.length : Nat) : Int)) (fun ht286 => ?_) (fun ht286 => ?_)
     ·
      refine V.skip ?_
      refine V.then_n (k285 _ _ ?_)
      refine V.seq fun K287 k288 => ?_
      refine V.block ?_
      refine V.sr h283 [] 59 59 [(6, .int .i64 (i_57 : Int))] fun a h291 => ?_
      have hS292 := hO9_268.read (Z' := fun _ => True) (fun _ _ _ => trivial) (fun _ _ _ => trivial)
      obtain ⟨g293, o294, hA295, hA295l, hA295z⟩ := hS292.addr (by omega)
      have hg299 := hl114 g293 (by rw [hA295]; rfl)
      refine V.rg ?_
      refine V.run h291 [(1, .b hB160_276 4), (1, .ix g293 o294 h.length c102 .i64 (i_57 : Int) 2 hA295)] 5 60 63 [(64, .pointer (some ⟨g293, (o294 + (i_57 : Int).toNat * 2) + 1, none⟩))] fun a h302 => ?_
      refine V.go (V.stoR (R := fdR) (j := i_57) (f := 1) hO9_268 hA295 (by omega) (.string ⟨#[63]⟩) [.string ⟨#[63]⟩] (by decide) (fun x => (x.1, ⟨#[63]⟩)) (h302.e (v := (.pointer (some ⟨g293, (o294 + (i_57 : Int).toNat * 2) + 1, none⟩)))) evc rfl rfl (by kernel_rfl) (fun w1 x c hc => by (have hc' : c = [.string x.1, .string x.2] := hc; subst hc'; rfl)) ?_)
      rintro w296 ⟨l300, hln301, hO297⟩ hF298 hsw296
      have hO9_303 := hO9_269.frn hF298 (fun h => h) (fun e => by have := hl74 _ e; omega)
      have hP_304 := hP_270.tr1 hF298 (by first | exact .inl (by assumption) | exact .inr (by omega) | exact .inl (.inl rfl))
      have hSl_305 := hSl_271.fr hF298 (by simp <;> omega)
      have hSz_306 := hSz_272.fr hF298 (by simp <;> omega)
      have hSh_307 := hSh_273.fr hF298 (by simp <;> omega)
      have hB6_308 := hB6_274.fr1 hF298 (by omega)
      have hO146_309 := hO146_275.frn hF298 (fun h => h) (fun e => by have := hl157 _ e; omega)
      have hB160_310 := hB160_276.fr1 hF298 (by omega)
      have hA193_311 := hA193_277.frl hF298 (by intro k hk; simp only [List.mem_singleton] at hk; subst hk; exact .inr (by omega))
      refine V.nil ?_
      refine V.blk_n ?_
      refine V.then_n (k288 _ _ ?_)
      refine V.rr h302 [(0, .i ((i_57 : Int) + 1))] 65 65 [(57, .int .i64 ((i_57 : Int) + 1))] fun a h312 => ?_
      refine V.then_n ?_
      refine ⟨i_57 + 1, l300, by omega, ?_⟩
      refine ⟨(h312.eq 57 (v := (.int .i64 ((i_57 : Int) + 1))) (u := (.int .i64 ((i_57 + 1) : Int))) (V.int_eq (by omega))).only _, hO297, hO9_303, hP_304, hSl_305, hSz_306, hSh_307, hB6_308, hO146_309, hB160_310, hA193_311, (by omega), (hln301.trans h9_57)⟩
     ·
      refine V.exit ?_
      refine V.then_e ?_
      refine V.then_e ?_
      refine V.blk_hit ?_
      refine V.then_n (k261 _ _ ?_)
      refine V.seq fun K313 k314 => ?_
      refine V.sr h283 [(1, .b hB160_276 3)] 66 67 [(68, .int .i64 ((z.length : Nat) : Int)), (69, .int .i64 0)] fun a h317 => ?_
      refine V.block ?_
      refine V.loop2 (fun (i_69 : Nat) (l9_69 : List (ByteArray × Int)) a_ w_ => En 136 [] a_ [(1, .pointer (some ⟨b4, 0, none⟩)), (3, .pointer (some ⟨b29, 0, none⟩)), (4, .pointer (some ⟨sp173, 0, none⟩)), (68, .int .i64 ((z.length : Nat) : Int)), (69, .int .i64 (i_69 : Int))] ∧ OwR scR NoZ w_ b129 37 (.slice A143 z.length c144) l9_69 ∧ OwR fdR NoZ w_ b88 35 (.slice A101 h.length c102) l9_57 ∧ OwR Rp.str NoZ w_ b50 9 (.slice A62 l.length c63) l9_46 ∧ FrP (fun _ => False) w w_ ∧ SlR Rp.str (fun k => k < w.heap.size) w_ (.slice Al l.length cl) l ∧ SlR scR (fun k => k < w.heap.size) w_ (.slice Az z.length cz) z ∧ SlR fdR (fun k => k < w.heap.size) w_ (.slice Ah h.length ch) h ∧ Blk w_ b4 [.int .i64 k, .string s, .slice Al l.length cl, .slice Az z.length cz, .slice Ah h.length ch] 27 ∧ Blk w_ b29 [.int .i64 k, .string s, .slice A62 l.length c63, .slice A143 z.length c144, .slice A101 h.length c102] 27 ∧ SpA w_ w159.heap.size [] [] sp173 1 (updD (fun _ => none) ⟨#[107]⟩ (some ⟨⟨#[107]⟩, k, s, l, z, h, (-1)⟩)) ∧ (i_69 ≤ z.length) ∧ (l9_69.length = z.length)) (fun (i_69 : Nat) (l9_69 : List (ByteArray × Int)) => z.length - i_69) 0 z ?_ ?_
      ·
       refine ⟨(h317.eq 69 (v := (.int .i64 0)) (u := (.int .i64 (0 : Int))) (V.int_eq (by omega))).only _, hO146_275, hO9_268, hO9_269, hP_270, hSl_271, hSz_272, hSh_273, hB6_274, hB160_276, hA193_277, (by omega), rfl⟩
      ·
       rintro i_69 l9_69 a318 w319 ⟨h320, hO9_321, hO9_322, hO9_323, hP_324, hSl_325, hSz_326, hSh_327, hB6_328, hB160_329, hA193_330, hi_69, h9_69⟩
       have hfs331 := hP_324.size
       have hlt332 := hB6_328.lt
       have hlt333 := hB160_329.lt
       refine V.sr h320 [] 1 0 [(70, .bool (decide ((i_69 : Int) < ((z.length : Nat) : Int))))] fun a h336 => ?_
       refine V.seq fun K337 k338 => ?_
       refine V.cp h336 ((i_69 : Int) < ((z.length : Nat) : Int)) (fun ht339 => ?_) (fun ht339 => ?_)
       ·
        refine V.skip ?_
        refine V.then_n (k338 _ _ ?_)
        refine V.seq fun K340 k341 => ?_
        refine V.block ?_
        refine V.sr h336 [] 71 71 [(7, .int .i64 (i_69 : Int))] fun a h344 => ?_
        have hS345 := hO9_321.read (Z' := fun _ => True) (fun _ _ _ => trivial) (fun _ _ _ => trivial)
        obtain ⟨g346, o347, hA348, hA348l, hA348z⟩ := hS345.addr (by omega)
        have hg352 := hl157 g346 (by rw [hA348]; rfl)
        refine V.rg ?_
        refine V.run h344 [(1, .b hB160_329 3), (1, .ix g346 o347 z.length c144 .i64 (i_69 : Int) 2 hA348)] 5 72 75 [(76, .pointer (some ⟨g346, (o347 + (i_69 : Int).toNat * 2) + 1, none⟩))] fun a h355 => ?_
        refine V.go (V.stoR (R := scR) (j := i_69) (f := 1) hO9_321 hA348 (by omega) (.int .i64 7) [.int .i64 7] (by decide) (fun x => (x.1, 7)) (h355.e (v := (.pointer (some ⟨g346, (o347 + (i_69 : Int).toNat * 2) + 1, none⟩)))) evc rfl rfl (by kernel_rfl) (fun w1 x c hc => by (have hc' : c = [.string x.1, .int .i64 x.2] := hc; subst hc'; rfl)) ?_)
        rintro w349 ⟨l353, hln354, hO350⟩ hF351 hsw349
        have hO9_356 := hO9_322.frn hF351 (fun h => h) (fun e => by have := hl114 _ e; omega)
        have hO9_357 := hO9_323.frn hF351 (fun h => h) (fun e => by have := hl74 _ e; omega)
        have hP_358 := hP_324.tr1 hF351 (by first | exact .inl (by assumption) | exact .inr (by omega) | exact .inl (.inl rfl))
        have hSl_359 := hSl_325.fr hF351 (by simp <;> omega)
        have hSz_360 := hSz_326.fr hF351 (by simp <;> omega)
        have hSh_361 := hSh_327.fr hF351 (by simp <;> omega)
        have hB6_362 := hB6_328.fr1 hF351 (by omega)
        have hB160_363 := hB160_329.fr1 hF351 (by omega)
        have hA193_364 := hA193_330.frl hF351 (by intro k hk; simp only [List.mem_singleton] at hk; subst hk; exact .inr (by omega))
        refine V.nil ?_
        refine V.blk_n ?_
        refine V.then_n (k341 _ _ ?_)
        refine V.rr h355 [(0, .i ((i_69 : Int) + 1))] 77 77 [(69, .int .i64 ((i_69 : Int) + 1))] fun a h365 => ?_
        refine V.then_n ?_
        refine ⟨i_69 + 1, l353, by omega, ?_⟩
        refine ⟨(h365.eq 69 (v := (.int .i64 ((i_69 : Int) + 1))) (u := (.int .i64 ((i_69 + 1) : Int))) (V.int_eq (by omega))).only _, hO350, hO9_356, hO9_357, hP_358, hSl_359, hSz_360, hSh_361, hB6_362, hB160_363, hA193_364, (by omega), (hln354.trans h9_69)⟩
       ·
        refine V.exit ?_
        refine V.then_e ?_
        refine V.then_e ?_
        refine V.blk_hit ?_
        refine V.then_n (k314 _ _ ?_)
        refine V.seq fun K366 k367 => ?_
        refine V.rg ?_
        refine V.run h336 [] 2 1 0 [(79, .pointer (some ⟨sp173, 0, none⟩)), (80, .agg #[.int .i64 0, .int .u64 0, .int .i64 3, .slice none 0 0])] fun a h368 => ?_
        refine V.cl h368 (Go.Proofs.enters_of Try.func9 (by kernel_rfl) rfl) (spget_A w319 hA193_330 0 0 3 none 0 0 ⟨#[107]⟩ (by first | omega | decide) (x := ⟨⟨#[107]⟩, k, s, l, z, h, (-1)⟩) (updD_same ..) (.inl ⟨by decide, by decide⟩)) ?_
        rintro _ w384 ⟨A375, c376, A377, c378, A379, c380, rfl, hA369, hF370, hO371, hO372, hO373, hd374⟩
        refine ⟨_, rfl, fun a h385 => ?_⟩
        have hsw384 := hF370.size
        have hP_386 := hP_324.trP hF370 (fun k hk => .inr (by have := hk.1; omega))
        have hSl_387 := hSl_325.frP hF370 (fun k hz hp => by have h1 := hp.1; (try dsimp only at hz h1); omega)
        have hSz_388 := hSz_326.frP hF370 (fun k hz hp => by have h1 := hp.1; (try dsimp only at hz h1); omega)
        have hSh_389 := hSh_327.frP hF370 (fun k hz hp => by have h1 := hp.1; (try dsimp only at hz h1); omega)
        have hB6_390 := hB6_328.frP hF370 (by exact fun hp => by have := hp.1; omega)
        have hB160_391 := hB160_329.frP hF370 (by exact fun hp => by have := hp.1; omega)
        have hl381 := hO371.lt
        have hl382 := hO372.lt
        have hl383 := hO373.lt
        refine V.run h385 [] 4 78 78 [(82, .agg #[.int .i64 k, .string s, .slice A375 l.length c376, .slice A377 z.length c378, .slice A379 h.length c380]), (83, .bool true), (84, .slice none 0 0)] fun a h396 => ?_
        refine V.go (V.mk [] trivial (by kernel_rfl) [.int .i64 0, .string ⟨#[]⟩, .slice none 0 0, .slice none 0 0, .slice none 0 0] 27 (fun b => .pointer (some ⟨b, 0, none⟩)) (by kernel_rfl) ?_)
        intro w393 b392 heb392 hB394 hF395 hsb392
        have hP_397 := hP_386.tr0 hF395
        have hSl_398 := hSl_387.fr0 hF395
        have hSz_399 := hSz_388.fr0 hF395
        have hSh_400 := hSh_389.fr0 hF395
        have hB6_401 := hB6_390.fr0 hF395
        have hB160_402 := hB160_391.fr0 hF395
        have hA369_403 := hA369.alloc hF395 (b := b392) (by omega)
        have hO371_404 := hO371.fr0 hF395
        have hO372_405 := hO372.fr0 hF395
        have hO373_406 := hO373.fr0 hF395
        refine V.pt h396 fun a h407 => ?_
        refine V.go (V.stn b392 0 (.agg #[.int .i64 k, .string s, .slice A375 l.length c376, .slice A377 z.length c378, .slice A379 h.length c380]) [.int .i64 k, .string s, .slice A375 l.length c376, .slice A377 z.length c378, .slice A379 h.length c380] h407.e h407.e rfl rfl (by kernel_rfl) hB394 (by simp) [.int .i64 k, .string s, .slice A375 l.length c376, .slice A377 z.length c378, .slice A379 h.length c380] rfl ?_)
        intro w408 hB409 hF410 hsw408
        have hP_411 := hP_397.tr1 hF410 (by first | exact .inl (by assumption) | exact .inr (by omega) | exact .inl (.inl rfl))
        have hSl_412 := hSl_398.fr hF410 (by simp <;> omega)
        have hSz_413 := hSz_399.fr hF410 (by simp <;> omega)
        have hSh_414 := hSh_400.fr hF410 (by simp <;> omega)
        have hB6_415 := hB6_401.fr1 hF410 (by omega)
        have hB160_416 := hB160_402.fr1 hF410 (by omega)
        have hA369_417 := hA369_403.frl hF410 (by intro k hk; simp only [List.mem_singleton] at hk; subst hk; exact .inl (.inl (by simp)))
        have hO371_418 := hO371_404.frn hF410 (fun h => h) (fun e => by have := hl381 _ e; omega)
        have hO372_419 := hO372_405.frn hF410 (fun h => h) (fun e => by have := hl382 _ e; omega)
        have hO373_420 := hO373_406.frn hF410 (fun h => h) (fun e => by have := hl383 _ e; omega)
        refine V.re h407 [] 10 10 [(9, .bool true)] fun a h421 => k367 _ _ ?_
        refine V.seq fun K422 k423 => ?_
        refine V.sr h421 [(1, .b hB409 2)] 85 86 [(87, .int .i64 ((l.length : Nat) : Int)), (88, .int .i64 0)] fun a h426 => ?_
        refine V.block ?_
        refine V.loop2 (fun (i_88 : Nat) (l9_88 : List ByteArray) a_ w_ => En 136 [] a_ [(1, .pointer (some ⟨b4, 0, none⟩)), (4, .pointer (some ⟨sp173, 0, none⟩)), (8, .pointer (some ⟨b392, 0, none⟩)), (9, .bool true), (87, .int .i64 ((l.length : Nat) : Int)), (88, .int .i64 (i_88 : Int))] ∧ OwR Rp.str NoZ w_ w319.heap.size 9 (.slice A375 l.length c376) l9_88 ∧ FrP (fun _ => False) w w_ ∧ SlR Rp.str (fun k => k < w.heap.size) w_ (.slice Al l.length cl) l ∧ SlR scR (fun k => k < w.heap.size) w_ (.slice Az z.length cz) z ∧ SlR fdR (fun k => k < w.heap.size) w_ (.slice Ah h.length ch) h ∧ Blk w_ b4 [.int .i64 k, .string s, .slice Al l.length cl, .slice Az z.length cz, .slice Ah h.length ch] 27 ∧ Blk w_ b29 [.int .i64 k, .string s, .slice A62 l.length c63, .slice A143 z.length c144, .slice A101 h.length c102] 27 ∧ SpA w_ w159.heap.size [b392] [.slice A375 l.length c376, .slice A377 z.length c378, .slice A379 h.length c380] sp173 1 (updD (fun _ => none) ⟨#[107]⟩ (some ⟨⟨#[107]⟩, k, s, l, z, h, (-1)⟩)) ∧ OwR scR NoZ w_ w319.heap.size 37 (.slice A377 z.length c378) z ∧ OwR fdR NoZ w_ w319.heap.size 35 (.slice A379 h.length c380) h ∧ Blk w_ b392 [.int .i64 k, .string s, .slice A375 l.length c376, .slice A377 z.length c378, .slice A379 h.length c380] 27 ∧ (i_88 ≤ l.length) ∧ (l9_88.length = l.length)) (fun (i_88 : Nat) (l9_88 : List ByteArray) => l.length - i_88) 0 l ?_ ?_
        ·
         refine ⟨(h426.eq 88 (v := (.int .i64 0)) (u := (.int .i64 (0 : Int))) (V.int_eq (by omega))).only _, hO371_418, hP_411, hSl_412, hSz_413, hSh_414, hB6_415, hB160_416, hA369_417, hO372_419, hO373_420, hB409, (by omega), rfl⟩
        ·
         rintro i_88 l9_88 a427 w428 ⟨h429, hO9_430, hP_431, hSl_432, hSz_433, hSh_434, hB6_435, hB160_436, hA369_437, hO372_438, hO373_439, hB409_440, hi_88, h9_88⟩
         have hfs441 := hP_431.size
         have hlt442 := hB6_435.lt
         have hlt443 := hB160_436.lt
         have hlt444 := hB409_440.lt
         refine V.sr h429 [] 1 0 [(89, .bool (decide ((i_88 : Int) < ((l.length : Nat) : Int))))] fun a h447 => ?_
         refine V.seq fun K448 k449 => ?_
         refine V.cp h447 ((i_88 : Int) < ((l.length : Nat) : Int)) (fun ht450 => ?_) (fun ht450 => ?_)
         ·
          refine V.skip ?_
          refine V.then_n (k449 _ _ ?_)
          refine V.seq fun K451 k452 => ?_
          refine V.block ?_
          refine V.sr h447 [] 90 90 [(11, .int .i64 (i_88 : Int))] fun a h455 => ?_
          have hS456 := hO9_430.read (Z' := fun _ => True) (fun _ _ _ => trivial) (fun _ _ _ => trivial)
          obtain ⟨g457, o458, hA459, hA459l, hA459z⟩ := hS456.addr (by omega)
          have hg463 := hl381 g457 (by rw [hA459]; rfl)
          refine V.rg ?_
          refine V.run h455 [(1, .b hB409_440 2), (1, .ix g457 o458 l.length c376 .i64 (i_88 : Int) 1 hA459)] 4 91 93 [(94, .pointer (some ⟨g457, o458 + (i_88 : Int).toNat * 1, none⟩))] fun a h466 => ?_
          refine V.go (V.stoR (R := Rp.str) (j := i_88) (f := 0) hO9_430 hA459 (by omega) (.string ⟨#[33]⟩) [.string ⟨#[33]⟩] (by decide) (fun _ => ⟨#[33]⟩) (h466.e (v := (.pointer (some ⟨g457, o458 + (i_88 : Int).toNat * 1, none⟩)))) evc rfl rfl (by kernel_rfl) (fun w1 x c hc => by (have hc' : c = [.string x] := hc; subst hc'; rfl)) ?_)
          rintro w460 ⟨l464, hln465, hO461⟩ hF462 hsw460
          have hP_467 := hP_431.tr1 hF462 (by first | exact .inl (by assumption) | exact .inr (by omega) | exact .inl (.inl rfl))
          have hSl_468 := hSl_432.fr hF462 (by simp <;> omega)
          have hSz_469 := hSz_433.fr hF462 (by simp <;> omega)
          have hSh_470 := hSh_434.fr hF462 (by simp <;> omega)
          have hB6_471 := hB6_435.fr1 hF462 (by omega)
          have hB160_472 := hB160_436.fr1 hF462 (by omega)
          have hA369_473 := hA369_437.frl hF462 (by intro k hk; simp only [List.mem_singleton] at hk; subst hk; exact .inl (.inr ⟨(.slice A375 l.length c376), by simp, by simp [Value.ownBlock, *]⟩))
          have hO372_474 := hO372_438.frn hF462 (fun h => h) (hd374.1 _ (by simp [Value.ownBlock, *]))
          have hO373_475 := hO373_439.frn hF462 (fun h => h) (hd374.2.1 _ (by simp [Value.ownBlock, *]))
          have hB409_476 := hB409_440.fr1 hF462 (by omega)
          refine V.nil ?_
          refine V.blk_n ?_
          refine V.then_n (k452 _ _ ?_)
          refine V.rr h466 [(0, .i ((i_88 : Int) + 1))] 95 95 [(88, .int .i64 ((i_88 : Int) + 1))] fun a h477 => ?_
          refine V.then_n ?_
          refine ⟨i_88 + 1, l464, by omega, ?_⟩
          refine ⟨(h477.eq 88 (v := (.int .i64 ((i_88 : Int) + 1))) (u := (.int .i64 ((i_88 + 1) : Int))) (V.int_eq (by omega))).only _, hO461, hP_467, hSl_468, hSz_469, hSh_470, hB6_471, hB160_472, hA369_473, hO372_474, hO373_475, hB409_476, (by omega), (hln465.trans h9_88)⟩
         ·
          refine V.exit ?_
          refine V.then_e ?_
          refine V.then_e ?_
          refine V.blk_hit ?_
          refine V.then_n (k423 _ _ ?_)
          refine V.seq fun K478 k479 => ?_
          refine V.sr h447 [(1, .b hB409_440 4)] 96 97 [(98, .int .i64 ((h.length : Nat) : Int)), (99, .int .i64 0)] fun a h482 => ?_
          refine V.block ?_
          refine V.loop2 (fun (i_99 : Nat) (l9_99 : List (ByteArray × ByteArray)) a_ w_ => En 136 [] a_ [(1, .pointer (some ⟨b4, 0, none⟩)), (4, .pointer (some ⟨sp173, 0, none⟩)), (8, .pointer (some ⟨b392, 0, none⟩)), (9, .bool true), (98, .int .i64 ((h.length : Nat) : Int)), (99, .int .i64 (i_99 : Int))] ∧ OwR fdR NoZ w_ w319.heap.size 35 (.slice A379 h.length c380) l9_99 ∧ OwR Rp.str NoZ w_ w319.heap.size 9 (.slice A375 l.length c376) l9_88 ∧ FrP (fun _ => False) w w_ ∧ SlR Rp.str (fun k => k < w.heap.size) w_ (.slice Al l.length cl) l ∧ SlR scR (fun k => k < w.heap.size) w_ (.slice Az z.length cz) z ∧ SlR fdR (fun k => k < w.heap.size) w_ (.slice Ah h.length ch) h ∧ Blk w_ b4 [.int .i64 k, .string s, .slice Al l.length cl, .slice Az z.length cz, .slice Ah h.length ch] 27 ∧ Blk w_ b29 [.int .i64 k, .string s, .slice A62 l.length c63, .slice A143 z.length c144, .slice A101 h.length c102] 27 ∧ SpA w_ w159.heap.size [b392] [.slice A375 l.length c376, .slice A377 z.length c378, .slice A379 h.length c380] sp173 1 (updD (fun _ => none) ⟨#[107]⟩ (some ⟨⟨#[107]⟩, k, s, l, z, h, (-1)⟩)) ∧ OwR scR NoZ w_ w319.heap.size 37 (.slice A377 z.length c378) z ∧ Blk w_ b392 [.int .i64 k, .string s, .slice A375 l.length c376, .slice A377 z.length c378, .slice A379 h.length c380] 27 ∧ (i_99 ≤ h.length) ∧ (l9_99.length = h.length)) (fun (i_99 : Nat) (l9_99 : List (ByteArray × ByteArray)) => h.length - i_99) 0 h ?_ ?_
          ·
           refine ⟨(h482.eq 99 (v := (.int .i64 0)) (u := (.int .i64 (0 : Int))) (V.int_eq (by omega))).only _, hO373_439, hO9_430, hP_431, hSl_432, hSz_433, hSh_434, hB6_435, hB160_436, hA369_437, hO372_438, hB409_440, (by omega), rfl⟩
          ·
           rintro i_99 l9_99 a483 w484 ⟨h485, hO9_486, hO9_487, hP_488, hSl_489, hSz_490, hSh_491, hB6_492, hB160_493, hA369_494, hO372_495, hB409_496, hi_99, h9_99⟩
           have hfs497 := hP_488.size
           have hlt498 := hB6_492.lt
           have hlt499 := hB160_493.lt
           have hlt500 := hB409_496.lt
           refine V.sr h485 [] 1 0 [(100, .bool (decide ((i_99 : Int) < ((h.length : Nat) : Int))))] fun a h503 => ?_
           refine V.seq fun K504 k505 => ?_
           refine V.cp h503 ((i_99 : Int) < ((h.length : Nat) : Int)) (fun ht506 => ?_) (fun ht506 => ?_)
           ·
            refine V.skip ?_
            refine V.then_n (k505 _ _ ?_)
            refine V.seq fun K507 k508 => ?_
            refine V.block ?_
            refine V.sr h503 [] 101 101 [(12, .int .i64 (i_99 : Int))] fun a h511 => ?_
            have hS512 := hO9_486.read (Z' := fun _ => True) (fun _ _ _ => trivial) (fun _ _ _ => trivial)
            obtain ⟨g513, o514, hA515, hA515l, hA515z⟩ := hS512.addr (by omega)
            have hg519 := hl383 g513 (by rw [hA515]; rfl)
            refine V.rg ?_
            refine V.run h511 [(1, .b hB409_496 4), (1, .ix g513 o514 h.length c380 .i64 (i_99 : Int) 2 hA515)] 5 102 105 [(106, .pointer (some ⟨g513, o514 + (i_99 : Int).toNat * 2, none⟩))] fun a h522 => ?_
            refine V.go (V.stoR (R := fdR) (j := i_99) (f := 0) hO9_486 hA515 (by omega) (.string ⟨#[33]⟩) [.string ⟨#[33]⟩] (by decide) (fun x => (⟨#[33]⟩, x.2)) (h522.e (v := (.pointer (some ⟨g513, o514 + (i_99 : Int).toNat * 2, none⟩)))) evc rfl rfl (by kernel_rfl) (fun w1 x c hc => by (have hc' : c = [.string x.1, .string x.2] := hc; subst hc'; rfl)) ?_)
            rintro w516 ⟨l520, hln521, hO517⟩ hF518 hsw516
            have hO9_523 := hO9_487.frn hF518 (fun h => h) ((fun e => hd374.2.1 _ e (by simp [Value.ownBlock, *])))
            have hP_524 := hP_488.tr1 hF518 (by first | exact .inl (by assumption) | exact .inr (by omega) | exact .inl (.inl rfl))
            have hSl_525 := hSl_489.fr hF518 (by simp <;> omega)
            have hSz_526 := hSz_490.fr hF518 (by simp <;> omega)
            have hSh_527 := hSh_491.fr hF518 (by simp <;> omega)
            have hB6_528 := hB6_492.fr1 hF518 (by omega)
            have hB160_529 := hB160_493.fr1 hF518 (by omega)
            have hA369_530 := hA369_494.frl hF518 (by intro k hk; simp only [List.mem_singleton] at hk; subst hk; exact .inl (.inr ⟨(.slice A379 h.length c380), by simp, by simp [Value.ownBlock, *]⟩))
            have hO372_531 := hO372_495.frn hF518 (fun h => h) ((fun e => hd374.2.2 _ e (by simp [Value.ownBlock, *])))
            have hB409_532 := hB409_496.fr1 hF518 (by omega)
            refine V.nil ?_
            refine V.blk_n ?_
            refine V.then_n (k508 _ _ ?_)
            refine V.rr h522 [(0, .i ((i_99 : Int) + 1))] 107 107 [(99, .int .i64 ((i_99 : Int) + 1))] fun a h533 => ?_
            refine V.then_n ?_
            refine ⟨i_99 + 1, l520, by omega, ?_⟩
            refine ⟨(h533.eq 99 (v := (.int .i64 ((i_99 : Int) + 1))) (u := (.int .i64 ((i_99 + 1) : Int))) (V.int_eq (by omega))).only _, hO517, hO9_523, hP_524, hSl_525, hSz_526, hSh_527, hB6_528, hB160_529, hA369_530, hO372_531, hB409_532, (by omega), (hln521.trans h9_99)⟩
           ·
            refine V.exit ?_
            refine V.then_e ?_
            refine V.then_e ?_
            refine V.blk_hit ?_
            refine V.then_n (k479 _ _ ?_)
            refine V.seq fun K534 k535 => ?_
            refine V.sr h503 [(1, .b hB409_496 3)] 108 109 [(110, .int .i64 ((z.length : Nat) : Int)), (111, .int .i64 0)] fun a h538 => ?_
            refine V.block ?_
            refine V.loop2 (fun (i_111 : Nat) (l9_111 : List (ByteArray × Int)) a_ w_ => En 136 [] a_ [(1, .pointer (some ⟨b4, 0, none⟩)), (4, .pointer (some ⟨sp173, 0, none⟩)), (8, .pointer (some ⟨b392, 0, none⟩)), (9, .bool true), (110, .int .i64 ((z.length : Nat) : Int)), (111, .int .i64 (i_111 : Int))] ∧ OwR scR NoZ w_ w319.heap.size 37 (.slice A377 z.length c378) l9_111 ∧ OwR fdR NoZ w_ w319.heap.size 35 (.slice A379 h.length c380) l9_99 ∧ OwR Rp.str NoZ w_ w319.heap.size 9 (.slice A375 l.length c376) l9_88 ∧ FrP (fun _ => False) w w_ ∧ SlR Rp.str (fun k => k < w.heap.size) w_ (.slice Al l.length cl) l ∧ SlR scR (fun k => k < w.heap.size) w_ (.slice Az z.length cz) z ∧ SlR fdR (fun k => k < w.heap.size) w_ (.slice Ah h.length ch) h ∧ Blk w_ b4 [.int .i64 k, .string s, .slice Al l.length cl, .slice Az z.length cz, .slice Ah h.length ch] 27 ∧ Blk w_ b29 [.int .i64 k, .string s, .slice A62 l.length c63, .slice A143 z.length c144, .slice A101 h.length c102] 27 ∧ SpA w_ w159.heap.size [b392] [.slice A375 l.length c376, .slice A377 z.length c378, .slice A379 h.length c380] sp173 1 (updD (fun _ => none) ⟨#[107]⟩ (some ⟨⟨#[107]⟩, k, s, l, z, h, (-1)⟩)) ∧ Blk w_ b392 [.int .i64 k, .string s, .slice A375 l.length c376, .slice A377 z.length c378, .slice A379 h.length c380] 27 ∧ (i_111 ≤ z.length) ∧ (l9_111.length = z.length)) (fun (i_111 : Nat) (l9_111 : List (ByteArray × Int)) => z.length - i_111) 0 z ?_ ?_
            ·
             refine ⟨(h538.eq 111 (v := (.int .i64 0)) (u := (.int .i64 (0 : Int))) (V.int_eq (by omega))).only _, hO372_495, hO9_486, hO9_487, hP_488, hSl_489, hSz_490, hSh_491, hB6_492, hB160_493, hA369_494, hB409_496, (by omega), rfl⟩
            ·
             rintro i_111 l9_111 a539 w540 ⟨h541, hO9_542, hO9_543, hO9_544, hP_545, hSl_546, hSz_547, hSh_548, hB6_549, hB160_550, hA369_551, hB409_552, hi_111, h9_111⟩
             have hfs553 := hP_545.size
             have hlt554 := hB6_549.lt
             have hlt555 := hB160_550.lt
             have hlt556 := hB409_552.lt
             refine V.sr h541 [] 1 0 [(112, .bool (decide ((i_111 : Int) < ((z.length : Nat) : Int))))] fun a h559 => ?_
             refine V.seq fun K560 k561 => ?_
             refine V.cp h559 ((i_111 : Int) < ((z.length : Nat) : Int)) (fun ht562 => ?_) (fun ht562 => ?_)
             ·
              refine V.skip ?_
              refine V.then_n (k561 _ _ ?_)
              refine V.seq fun K563 k564 => ?_
              refine V.block ?_
              refine V.sr h559 [] 113 113 [(13, .int .i64 (i_111 : Int))] fun a h567 => ?_
              have hS568 := hO9_542.read (Z' := fun _ => True) (fun _ _ _ => trivial) (fun _ _ _ => trivial)
              obtain ⟨g569, o570, hA571, hA571l, hA571z⟩ := hS568.addr (by omega)
              have hg575 := hl382 g569 (by rw [hA571]; rfl)
              refine V.rg ?_
              refine V.run h567 [(1, .b hB409_552 3), (1, .ix g569 o570 z.length c378 .i64 (i_111 : Int) 2 hA571)] 5 114 117 [(118, .pointer (some ⟨g569, o570 + (i_111 : Int).toNat * 2, none⟩))] fun a h578 => ?_
              refine V.go (V.stoR (R := scR) (j := i_111) (f := 0) hO9_542 hA571 (by omega) (.string ⟨#[33]⟩) [.string ⟨#[33]⟩] (by decide) (fun x => (⟨#[33]⟩, x.2)) (h578.e (v := (.pointer (some ⟨g569, o570 + (i_111 : Int).toNat * 2, none⟩)))) evc rfl rfl (by kernel_rfl) (fun w1 x c hc => by (have hc' : c = [.string x.1, .int .i64 x.2] := hc; subst hc'; rfl)) ?_)
              rintro w572 ⟨l576, hln577, hO573⟩ hF574 hsw572
              have hO9_579 := hO9_543.frn hF574 (fun h => h) (hd374.2.2 _ (by simp [Value.ownBlock, *]))
              have hO9_580 := hO9_544.frn hF574 (fun h => h) ((fun e => hd374.1 _ e (by simp [Value.ownBlock, *])))
              have hP_581 := hP_545.tr1 hF574 (by first | exact .inl (by assumption) | exact .inr (by omega) | exact .inl (.inl rfl))
              have hSl_582 := hSl_546.fr hF574 (by simp <;> omega)
              have hSz_583 := hSz_547.fr hF574 (by simp <;> omega)
              have hSh_584 := hSh_548.fr hF574 (by simp <;> omega)
              have hB6_585 := hB6_549.fr1 hF574 (by omega)
              have hB160_586 := hB160_550.fr1 hF574 (by omega)
              have hA369_587 := hA369_551.frl hF574 (by intro k hk; simp only [List.mem_singleton] at hk; subst hk; exact .inl (.inr ⟨(.slice A377 z.length c378), by simp, by simp [Value.ownBlock, *]⟩))
              have hB409_588 := hB409_552.fr1 hF574 (by omega)
              refine V.nil ?_
              refine V.blk_n ?_
              refine V.then_n (k564 _ _ ?_)
              refine V.rr h578 [(0, .i ((i_111 : Int) + 1))] 119 119 [(111, .int .i64 ((i_111 : Int) + 1))] fun a h589 => ?_
              refine V.then_n ?_
              refine ⟨i_111 + 1, l576, by omega, ?_⟩
              refine ⟨(h589.eq 111 (v := (.int .i64 ((i_111 : Int) + 1))) (u := (.int .i64 ((i_111 + 1) : Int))) (V.int_eq (by omega))).only _, hO573, hO9_579, hO9_580, hP_581, hSl_582, hSz_583, hSh_584, hB6_585, hB160_586, hA369_587, hB409_588, (by omega), (hln577.trans h9_111)⟩
             ·
              refine V.exit ?_
              refine V.then_e ?_
              refine V.then_e ?_
              refine V.blk_hit ?_
              refine V.then_n (k535 _ _ ?_)
              refine V.seq fun K590 k591 => ?_
              refine V.rg ?_
              refine V.run h559 [] 2 1 0 [(121, .pointer (some ⟨sp173, 0, none⟩)), (122, .agg #[.int .i64 0, .int .u64 0, .int .i64 3, .slice none 0 0])] fun a h592 => ?_
              refine V.cl h592 (Go.Proofs.enters_of Try.func9 (by kernel_rfl) rfl) (spget_A w540 hA369_551 0 0 3 none 0 0 ⟨#[107]⟩ (by first | omega | decide) (x := ⟨⟨#[107]⟩, k, s, l, z, h, (-1)⟩) (updD_same ..) (.inl ⟨by decide, by decide⟩)) ?_
              rintro _ w608 ⟨A599, c600, A601, c602, A603, c604, rfl, hA593, hF594, hO595, hO596, hO597, hd598⟩
              refine ⟨_, rfl, fun a h609 => ?_⟩
              have hsw608 := hF594.size
              have hP_610 := hP_545.trP hF594 (fun k hk => .inr (by have := hk.1; omega))
              have hSl_611 := hSl_546.frP hF594 (fun k hz hp => by have h1 := hp.1; (try dsimp only at hz h1); omega)
              have hSz_612 := hSz_547.frP hF594 (fun k hz hp => by have h1 := hp.1; (try dsimp only at hz h1); omega)
              have hSh_613 := hSh_548.frP hF594 (fun k hz hp => by have h1 := hp.1; (try dsimp only at hz h1); omega)
              have hB6_614 := hB6_549.frP hF594 (by exact fun hp => by have := hp.1; omega)
              have hB160_615 := hB160_550.frP hF594 (by exact fun hp => by have := hp.1; omega)
              have hB409_616 := hB409_552.frP hF594 (by exact fun hp => hp.2 (.inl (by simp)))
              have hl605 := hO595.lt
              have hl606 := hO596.lt
              have hl607 := hO597.lt
              refine V.run h609 [] 4 120 120 [(124, .agg #[.int .i64 k, .string s, .slice A599 l.length c600, .slice A601 z.length c602, .slice A603 h.length c604]), (125, .bool true), (126, .slice none 0 0)] fun a h621 => ?_
              refine V.go (V.mk [] trivial (by kernel_rfl) [.int .i64 0, .string ⟨#[]⟩, .slice none 0 0, .slice none 0 0, .slice none 0 0] 27 (fun b => .pointer (some ⟨b, 0, none⟩)) (by kernel_rfl) ?_)
              intro w618 b617 heb617 hB619 hF620 hsb617
              have hP_622 := hP_610.tr0 hF620
              have hSl_623 := hSl_611.fr0 hF620
              have hSz_624 := hSz_612.fr0 hF620
              have hSh_625 := hSh_613.fr0 hF620
              have hB6_626 := hB6_614.fr0 hF620
              have hB160_627 := hB160_615.fr0 hF620
              have hB409_628 := hB409_616.fr0 hF620
              have hA593_629 := hA593.alloc hF620 (b := b617) (by omega)
              have hO595_630 := hO595.fr0 hF620
              have hO596_631 := hO596.fr0 hF620
              have hO597_632 := hO597.fr0 hF620
              refine V.pt h621 fun a h633 => ?_
              refine V.go (V.stn b617 0 (.agg #[.int .i64 k, .string s, .slice A599 l.length c600, .slice A601 z.length c602, .slice A603 h.length c604]) [.int .i64 k, .string s, .slice A599 l.length c600, .slice A601 z.length c602, .slice A603 h.length c604] h633.e h633.e rfl rfl (by kernel_rfl) hB619 (by simp) [.int .i64 k, .string s, .slice A599 l.length c600, .slice A601 z.length c602, .slice A603 h.length c604] rfl ?_)
              intro w634 hB635 hF636 hsw634
              have hP_637 := hP_622.tr1 hF636 (by first | exact .inl (by assumption) | exact .inr (by omega) | exact .inl (.inl rfl))
              have hSl_638 := hSl_623.fr hF636 (by simp <;> omega)
              have hSz_639 := hSz_624.fr hF636 (by simp <;> omega)
              have hSh_640 := hSh_625.fr hF636 (by simp <;> omega)
              have hB6_641 := hB6_626.fr1 hF636 (by omega)
              have hB160_642 := hB160_627.fr1 hF636 (by omega)
              have hB409_643 := hB409_628.fr1 hF636 (by omega)
              have hA593_644 := hA593_629.frl hF636 (by intro k hk; simp only [List.mem_singleton] at hk; subst hk; exact .inl (.inl (by simp)))
              have hO595_645 := hO595_630.frn hF636 (fun h => h) (fun e => by have := hl605 _ e; omega)
              have hO596_646 := hO596_631.frn hF636 (fun h => h) (fun e => by have := hl606 _ e; omega)
              have hO597_647 := hO597_632.frn hF636 (fun h => h) (fun e => by have := hl607 _ e; omega)
              refine V.re h633 [] 16 16 [(15, .bool true)] fun a h648 => k591 _ _ ?_
              refine V.sg fun K649 k650 => ?_
              refine V.run h648 [(5, .bs hB635 0 [.int .i64 k, .string s, .slice A599 l.length c600, .slice A601 z.length c602, .slice A603 h.length c604]), (0, .bs hB6_641 0 [.int .i64 k, .string s, .slice Al l.length cl, .slice Az z.length cz, .slice Ah h.length ch])] 7 127 130 [(131, .bool true), (132, .agg #[.int .i64 k, .string s, .slice A599 l.length c600, .slice A601 z.length c602, .slice A603 h.length c604]), (133, .agg #[.int .i64 k, .string s, .slice Al l.length cl, .slice Az z.length cz, .slice Ah h.length ch])] fun a h651 => ?_
              refine V.clg h651 (Go.Proofs.enters_of Try.func10 (by kernel_rfl) rfl) (samev_any w634 k s A599 c600 l (hO595_645.read (Z' := fun _ => True) (fun _ _ _ => trivial) (fun _ _ _ => trivial)).old A601 c602 z (hO596_646.read (Z' := fun _ => True) (fun _ _ _ => trivial) (fun _ _ _ => trivial)).old A603 c604 h (hO597_647.read (Z' := fun _ => True) (fun _ _ _ => trivial) (fun _ _ _ => trivial)).old Al cl hSl_638.old Az cz hSz_639.old Ah ch hSh_640.old) ?_
              rintro _ w653 ⟨rfl, hF652⟩
              refine ⟨_, rfl, fun a h654 => ?_⟩
              have hsw653 := hF652.size
              have hP_655 := hP_637.tr0 hF652
              have hSl_656 := hSl_638.fr0 hF652
              have hSz_657 := hSz_639.fr0 hF652
              have hSh_658 := hSh_640.fr0 hF652
              have hB6_659 := hB6_641.fr0 hF652
              have hB160_660 := hB160_642.fr0 hF652
              have hB409_661 := hB409_643.fr0 hF652
              have hA593_662 := hA593_644.fr0 hF652
              have hO595_663 := hO595_645.fr0 hF652
              have hO596_664 := hO596_646.fr0 hF652
              have hO597_665 := hO597_647.fr0 hF652
              have hB635_666 := hB635.fr0 hF652
              refine V.re h654 [] 135 135 [(2, .bool true)] fun a h667 => k650 _ _ ?_
              refine V.ret ?_
              refine V.r1 h667 (.bool true) ?_
              exact ⟨rfl, hP_655.fr (fun k hk => hk.elim)⟩
 ·
  refine V.rg ?_
  refine V.run h187 [(1, .bs hB160_186 0 [.int .i64 k, .string s, .slice A62 l.length c63, .slice A143 z.length c144, .slice A101 h.length c102])] 2 1 0 [(36, .pointer (some ⟨sp173, 0, none⟩)), (37, .agg #[.int .i64 k, .string s, .slice A62 l.length c63, .slice A143 z.length c144, .slice A101 h.length c102])] fun a h668 => ?_
  refine V.cl h668 (Go.Proofs.enters_of Try.func7 (by kernel_rfl) rfl) (spput_no w176 hA174 ⟨#[107]⟩ (by decide) k s A62 c63 l (hO65_183.read (Z' := fun _ => True) (fun _ _ _ => trivial) (fun _ _ _ => trivial)).old A143 c144 z (hO146_185.read (Z' := fun _ => True) (fun _ _ _ => trivial) (fun _ _ _ => trivial)).old A101 c102 h (hO104_184.read (Z' := fun _ => True) (fun _ _ _ => trivial) (fun _ _ _ => trivial)).old (by omega) (by omega) (by omega) (fun x hx => Nat.le_trans (hz x hx) (by unfold maxLen; omega)) (-1) hok) ?_
  rintro _ w671 ⟨rfl, hA669, hF670⟩
  refine ⟨_, rfl, fun a h672 => ?_⟩
  have hsw671 := hF670.size
  have hP_673 := hP_178.trP hF670 (fun k hk => .inr (by have := hk.1; omega))
  have hSl_674 := hSl_179.frP hF670 (fun k hz hp => by have h1 := hp.1; (try dsimp only at hz h1); omega)
  have hSz_675 := hSz_180.frP hF670 (fun k hz hp => by have h1 := hp.1; (try dsimp only at hz h1); omega)
  have hSh_676 := hSh_181.frP hF670 (fun k hz hp => by have h1 := hp.1; (try dsimp only at hz h1); omega)
  have hB6_677 := hB6_182.frP hF670 (by exact fun hp => by have := hp.1; omega)
  have hO65_678 := hO65_183.frP hF670 (fun b hb hp => by have h1 := hl74 b hb; first | (have h2 := hp.1; omega) | (exact hp.2 (.inr ⟨_, by first | exact List.mem_cons_self .. | simp, hb⟩)))
  have hO104_679 := hO104_184.frP hF670 (fun b hb hp => by have h1 := hl114 b hb; first | (have h2 := hp.1; omega) | (exact hp.2 (.inr ⟨_, by first | exact List.mem_cons_self .. | simp, hb⟩)))
  have hO146_680 := hO146_185.frP hF670 (fun b hb hp => by have h1 := hl157 b hb; first | (have h2 := hp.1; omega) | (exact hp.2 (.inr ⟨_, by first | exact List.mem_cons_self .. | simp, hb⟩)))
  have hB160_681 := hB160_186.frP hF670 (by exact fun hp => by have := hp.1; omega)
  refine V.re h672 [] 1 0 [(39, .bool true)] fun a h682 => k191 _ _ ?_
  refine V.ct h682 ?_
  refine V.sg fun K683 k684 => ?_
  refine V.run h682 [(0, .bs hB6_677 0 [.int .i64 k, .string s, .slice Al l.length cl, .slice Az z.length cz, .slice Ah h.length ch])] 1 1 0 [(40, .agg #[.int .i64 k, .string s, .slice Al l.length cl, .slice Az z.length cz, .slice Ah h.length ch])] fun a h685 => ?_
  refine V.cl h685 (Go.Proofs.enters_of Try.func8 (by kernel_rfl) rfl) (rvalue_no w671 k s Al cl l hSl_674.old Az cz z hSz_675.old Ah ch h hSh_676.old hok) ?_
  rintro _ w687 ⟨rfl, hF686⟩
  refine ⟨_, rfl, fun a h688 => ?_⟩
  have hsw687 := hF686.size
  have hP_689 := hP_673.tr0 hF686
  have hSl_690 := hSl_674.fr0 hF686
  have hSz_691 := hSz_675.fr0 hF686
  have hSh_692 := hSh_676.fr0 hF686
  have hB6_693 := hB6_677.fr0 hF686
  have hO65_694 := hO65_678.fr0 hF686
  have hO104_695 := hO104_679.fr0 hF686
  have hO146_696 := hO146_680.fr0 hF686
  have hB160_697 := hB160_681.fr0 hF686
  have hA669_698 := hA669.fr0 hF686
  refine V.re h688 [] 42 42 [(2, .bool true)] fun a h699 => k684 _ _ ?_
  refine V.ret ?_
  refine V.then_r ?_
  refine V.r1 h699 (.bool true) ?_
  exact ⟨rfl, hP_689.fr (fun k hk => hk.elim)⟩
end Go.Proofs.Ytjkegckfncfoaaa
end
section
namespace Go.Proofs.Ytjkegckfncfoaaa
open Go.V Go.Base Go.RowKit Go.WideShapes Go.ChangeShapes Go.Deep
set_option linter.unusedVariables false
section
variable {H : Type}
theorem bulk_pos (d : DataW H) : 1 ≤ Rows.uptoBulk d := by
  cases d with
  | lit l => cases l <;> simp [Rows.uptoBulk]
  | nil => simp [Rows.uptoBulk]
  | ptr d => simp [Rows.uptoBulk]
  | slice a b => simp [Rows.uptoBulk]
  | agg a => simp [Rows.uptoBulk]
  | iface t d => simp [Rows.uptoBulk]
  | map a => simp [Rows.uptoBulk]
  | held h => simp [Rows.uptoBulk]
theorem bulk_len : ∀ (l : List (DataW H)), l.length ≤ Rows.uptoBulkAll l
  | [] => by simp [Rows.uptoBulkAll]
  | d :: l => by
    have h1 := bulk_pos d
    have h2 := bulk_len l
    simp only [List.length_cons, Rows.uptoBulkAll]
    omega
theorem bulk_mem : ∀ {l : List (DataW H)} {d : DataW H}, d ∈ l → Rows.uptoBulk d ≤ Rows.uptoBulkAll l
  | e :: l, d, h => by
    simp only [Rows.uptoBulkAll]
    rcases List.mem_cons.1 h with rfl | h
    · omega
    · have := bulk_mem h; omega
end
def Opn {α : Type} {H : Type} (enc : TypeId × Value → H) (P : Program) (W : World) (t : TypeId) (R : Rp α) (K : α → Nat → Prop) : Prop :=
  ∀ (n : Nat) (cs : List Value) (x : DataW H × List MemPlace), DataW.trod enc P W 0 (fun _ => true) true n t cs = some x → (∀ p ∈ x.2, p.block < W.heap.size) → ∃ d : α, R.ok (fun b => b < W.heap.size) W d cs ∧ K d (Rows.uptoBulk x.1)
section
variable {α : Type} {R : Rp α} {K : α → Nat → Prop} {H : Type} {enc : TypeId × Value → H} {P : Program} {W : World} {t e : TypeId}
theorem opn_i {n : Nat} {cs : List Value} {x : DataW H × List MemPlace} (ht : P.underlying t = some (.int .i64)) (h : DataW.trod enc P W 0 (fun _ => true) true n t cs = some x) : ∃ n : Int, cs = [.int .i64 n] ∧ -9223372036854775808 ≤ n ∧ n ≤ 9223372036854775807 := by
  obtain ⟨n, q, _, w⟩ := DataW.trod_int ht h
  unfold Lit.wf at w
  have h1 : IntKind.i64.min = -9223372036854775808 := by decide
  have h2 : IntKind.i64.max = 9223372036854775807 := by decide
  simp [h1, h2] at w
  exact ⟨n, q, w.1, w.2⟩
theorem opn_w {n : Nat} {cs : List Value} {x : DataW H × List MemPlace} (ht : P.underlying t = some (.int .u64)) (h : DataW.trod enc P W 0 (fun _ => true) true n t cs = some x) : ∃ n : Nat, cs = [.int .u64 (n : Int)] ∧ n < 18446744073709551616 := by
  obtain ⟨n, q, _, w⟩ := DataW.trod_int ht h
  unfold Lit.wf at w
  have h1 : IntKind.u64.min = 0 := by decide
  have h2 : IntKind.u64.max = 18446744073709551615 := by decide
  simp [h1, h2] at w
  exact ⟨n.toNat, by rw [q, Int.toNat_of_nonneg w.1], by omega⟩
theorem opn_s {n : Nat} {cs : List Value} {x : DataW H × List MemPlace} (ht : P.underlying t = some .string) (h : DataW.trod enc P W 0 (fun _ => true) true n t cs = some x) : ∃ s : ByteArray, cs = [.string s] ∧ s.size ≤ Rows.uptoBulk x.1 := by
  obtain ⟨s, q, rfl, w⟩ := DataW.trod_string ht h
  exact ⟨s, q, by simp [Rows.uptoBulk]⟩
theorem Opn.str (ht : P.underlying t = some .string) : Opn enc P W t Rp.str fun s b => s.size ≤ b := fun n cs x h hp => by
  obtain ⟨s, rfl, h1⟩ := opn_s ht h
  exact ⟨s, rfl, h1⟩
/-- A slice of what can be opened. -/
theorem Opn.sl (ht : P.underlying t = some (.slice e)) (hc : P.cellsOf e = R.sz) (hpos : 0 < R.sz) (hK : ∀ d b b', b ≤ b' → K d b → K d b') (hel : Opn enc P W e R K) {n : Nat} {cs : List Value} {x : DataW H × List MemPlace} (hf : DataW.trod enc P W 0 (fun _ => true) true n t cs = some x) (hlt : ∀ p ∈ x.2, p.block < W.heap.size) :
    ∃ A c l, cs = [.slice A l.length c] ∧ SlR R (fun b => b < W.heap.size) W (.slice A l.length c) l ∧ l.length ≤ Rows.uptoBulk x.1 ∧ ∀ y ∈ l, K y (Rows.uptoBulk x.1) := by
  rcases open_slice ht hf with ⟨rfl, rfl⟩ | ⟨a, len, cap, m, k, D, Pl, rfl, _, hl, hm, hmm, rfl, hall⟩
  · exact ⟨none, 0, [], rfl, SlR.nil _ _ _, Nat.zero_le _, fun y hy => by simp at hy⟩
  · simp only [if_true] at hmm
    subst hmm
    have hone : ∀ i, i < m → ∃ (x : α) (cs : List Value), R.ok (fun b => b < W.heap.size) W x cs ∧ K x (Rows.uptoBulk (D i)) ∧ ∀ j u, cs[j]? = some u → W.cell? (a.add (i * R.sz + j)) = some u := fun i hi => by
      obtain ⟨cs', h1, h2⟩ := hall i hi
      obtain ⟨x, hx, hkx⟩ := hel k cs' _ h2 fun p hp => hlt p (List.mem_append_right _ (List.mem_flatMap.2 ⟨i, List.mem_range.2 hi, hp⟩))
      obtain ⟨_, hlen, hcell⟩ := World.cells?_some h1
      refine ⟨x, cs', hx, hkx, fun j u hj => ?_⟩
      have hjl : j < P.cellsOf e := by rw [← hlen]; exact (List.getElem?_eq_some_iff.1 hj).1
      have := hcell j hjl
      rw [hj, hc] at this
      rw [← this, add_add]
    have hex : ∀ q, q ≤ m → ∃ l : List α, l.length = q ∧ ∀ i x, l[i]? = some x → K x (Rows.uptoBulk (D i)) ∧ ∃ cs, R.ok (fun b => b < W.heap.size) W x cs ∧ ∀ j u, cs[j]? = some u → W.cell? (a.add (i * R.sz + j)) = some u := by
      intro q
      induction q with
      | zero => exact fun _ => ⟨[], rfl, fun i x h => by simp at h⟩
      | succ q ih =>
        intro hq
        obtain ⟨l, hll, hli⟩ := ih (by omega)
        obtain ⟨x, cs, h1, hk1, h2⟩ := hone q (by omega)
        refine ⟨l ++ [x], by simp [hll], fun i y hy => ?_⟩
        rcases Nat.lt_or_ge i l.length with hi | hi
        · rw [List.getElem?_append_left hi] at hy; exact hli i y hy
        · rw [List.getElem?_append_right hi] at hy
          have : i - l.length = 0 := by
            have := (List.getElem?_eq_some_iff.1 hy).1; simp at this; omega
          rw [this] at hy
          simp at hy; subst hy
          have hiq : i = q := by omega
          subst hiq
          exact ⟨hk1, cs, h1, h2⟩
    obtain ⟨l, hll, hli⟩ := hex len hl
    subst hll
    have hb : ∀ i, i < l.length → Rows.uptoBulk (D i) ≤ Rows.uptoBulkAll ((List.range l.length).map D) := fun i hi => bulk_mem (List.mem_map.2 ⟨i, List.mem_range.2 hi, rfl⟩)
    have hlb := bulk_len ((List.range l.length).map D)
    rw [List.length_map, List.length_range] at hlb
    have hbb : Rows.uptoBulkAll ((List.range l.length).map D) ≤ Rows.uptoBulk (DataW.slice ((List.range l.length).map D) ((List.range (m - l.length)).map fun j => D (l.length + j))) := by simp only [Rows.uptoBulk]; omega
    refine ⟨some a, m, l, rfl, ⟨_, _, rfl, hl, by unfold maxLen at hm; omega, fun i x hi => ?_⟩, Nat.le_trans hlb hbb, fun y hy => ?_⟩
    · obtain ⟨_, cs, h1, h2⟩ := hli i x hi
      have hin : i < l.length := (List.getElem?_eq_some_iff.1 hi).1
      obtain ⟨b, off, spot⟩ := a
      have hcl := R.len h1
      obtain ⟨u0, hu0⟩ : ∃ u, cs[0]? = some u := ⟨cs[0]'(by omega), List.getElem?_eq_getElem (by omega)⟩
      obtain ⟨_, cz, z1, z2⟩ := hli 0 _ (List.getElem?_eq_getElem (by omega))
      have hzl := R.len z1
      have hspot : spot = none := by simpa [Addr.add] using World.cell?_spot (z2 0 _ (List.getElem?_eq_getElem (by omega)))
      subst hspot
      have hbW : b < W.heap.size := by
        have hmem : MemPlace.cell b off ∈ MemPlace.row ⟨b, off, none⟩ (m * P.cellsOf e) := MemPlace.mem_row.2 ⟨0, by rw [hc]; exact Nat.mul_pos (by omega) hpos, by simp⟩
        exact hlt _ (List.mem_append_left _ hmem)
      refine ⟨b, off, cs, rfl, hbW, hbW, h1, fun j u hj => ?_⟩
      have := h2 j u hj
      rwa [show (⟨b, off, none⟩ : Addr).add (i * R.sz + j) = ⟨b, off + i * R.sz + j, none⟩ by unfold Addr.add; split <;> simp_all [Nat.add_assoc]] at this
    · obtain ⟨i, hi⟩ := List.mem_iff_getElem?.1 hy
      exact hK _ _ _ (Nat.le_trans (hb i (List.getElem?_eq_some_iff.1 hi).1) hbb) (hli i y hi).1
/-- A struct's parts. -/
theorem opn_st {fs : Array Field} (ht : P.underlying t = some (.struct fs)) {k : Nat} (hk : P.cellsOf t = k) {n : Nat} {cs : List Value} {x : DataW H × List MemPlace} (h : DataW.trod enc P W 0 (fun _ => true) true n t cs = some x) (hlt : ∀ p ∈ x.2, p.block < W.heap.size) :
    cs.length = k ∧ ∀ (i : Nat) (f : Field), fs[i]? = some f → ∃ m y, DataW.trod enc P W 0 (fun _ => true) true m f.type ((cs.drop f.offset).take (P.cellsOf f.type)) = some y ∧ Rows.uptoBulk y.1 ≤ Rows.uptoBulk x.1 ∧ ∀ p ∈ y.2, p.block < W.heap.size := by
  obtain ⟨xs, m, _, rfl, hl, hlen, hf⟩ := DataW.trod_struct ht h
  refine ⟨hl.trans hk, fun i f hi => ?_⟩
  have hil : i < xs.length := by
    have := (Array.getElem?_eq_some_iff.1 hi).1
    omega
  refine ⟨m, xs[i], (hf i f hi).trans (List.getElem?_eq_getElem hil), ?_, fun p hp => hlt p (List.mem_flatMap.2 ⟨xs[i], List.getElem_mem hil, hp⟩)⟩
  have := bulk_mem (l := xs.map (·.1)) (List.mem_map.2 ⟨xs[i], List.getElem_mem hil, rfl⟩)
  simp only [Rows.uptoBulk]
  omega
end
theorem okw_st {P : Program} {W : World} {r : Reach} {b : Nat} {t : TypeId} {v : Value} {fs : Array Field} (ht : P.underlying t = some (.struct fs)) (h : Value.okWide P W r b t v) : ∃ cs, v = .agg cs := by
  unfold Value.okWide at h
  rw [ht] at h
  obtain ⟨cs, h1, _⟩ := h
  exact ⟨cs, h1⟩
theorem list2 {β : Type} {cs : List β} (h : cs.length = 2) : ∃ a b, cs = [a, b] := by
  match cs, h with
  | [a, b], _ => exact ⟨a, b, rfl⟩
theorem list4 {β : Type} {cs : List β} (h : cs.length = 4) : ∃ a b c d, cs = [a, b, c, d] := by
  match cs, h with
  | [a, b, c, d], _ => exact ⟨a, b, c, d, rfl⟩
theorem list5 {β : Type} {cs : List β} (h : cs.length = 5) : ∃ a b c d e, cs = [a, b, c, d, e] := by
  match cs, h with
  | [a, b, c, d, e], _ => exact ⟨a, b, c, d, e, rfl⟩
theorem list7 {β : Type} {cs : List β} (h : cs.length = 7) : ∃ a b c d e f g, cs = [a, b, c, d, e, f, g] := by
  match cs, h with
  | [a, b, c, d, e, f, g], _ => exact ⟨a, b, c, d, e, f, g, rfl⟩
end Go.Proofs.Ytjkegckfncfoaaa
end
section
namespace Go.Proofs.Ytjkegckfncfoaaa
open Go.V Go.Base
open Go.RowKit (Below)
attribute [local irreducible] Act.put Act.eval
set_option linter.unusedVariables false
set_option linter.unusedSimpArgs false
open Go.WideShapes Go.ChangeShapes Go.Deep
/-! A value that is an argument. -/
def ScK (y : ByteArray × Int) (b : Nat) : Prop := y.1.size ≤ b ∧ -9223372036854775808 ≤ y.2 ∧ y.2 ≤ 9223372036854775807
def FdK (y : ByteArray × ByteArray) (b : Nat) : Prop := y.1.size ≤ b ∧ y.2.size ≤ b
def ValK (k : Int) (s : ByteArray) (l : List ByteArray) (z : List (ByteArray × Int)) (h : List (ByteArray × ByteArray)) (b : Nat) : Prop :=
  (-9223372036854775808 ≤ k ∧ k ≤ 9223372036854775807) ∧ s.size ≤ b ∧ (l.length ≤ b ∧ ∀ y ∈ l, y.size ≤ b) ∧ (z.length ≤ b ∧ ∀ y ∈ z, ScK y b) ∧ h.length ≤ b ∧ ∀ y ∈ h, FdK y b
theorem cells9 : Try.prog.cellsOf 9 = 1 := by kernel_rfl
theorem cells2 : Try.prog.cellsOf 2 = 1 := by kernel_rfl
theorem cells22 : Try.prog.cellsOf 22 = 1 := by kernel_rfl
theorem cells23 : Try.prog.cellsOf 23 = 1 := by kernel_rfl
theorem cells24 : Try.prog.cellsOf 24 = 1 := by kernel_rfl
theorem cells25 : Try.prog.cellsOf 25 = 1 := by kernel_rfl
theorem cells27 : Try.prog.cellsOf 27 = 5 := by kernel_rfl
theorem cells37 : Try.prog.cellsOf 37 = 2 := by kernel_rfl
theorem cells35 : Try.prog.cellsOf 35 = 2 := by kernel_rfl
section
variable {H : Type} {enc : TypeId × Value → H} {W : World}
theorem sc_el : Opn enc Try.prog W 37 scR ScK := fun n cs x h hp => by
  obtain ⟨hl, hf⟩ := opn_st Try.underlying37 cells37 h hp
  obtain ⟨c0, c1, rfl⟩ := list2 hl
  obtain ⟨_, y0, h0, b0, _⟩ := hf 0 _ rfl
  obtain ⟨_, y1, h1, b1, _⟩ := hf 1 _ rfl
  obtain ⟨s, q0, k0⟩ := opn_s Try.underlying9 h0
  obtain ⟨n, q1, k1⟩ := opn_i Try.underlying2 h1
  simp [cells9, cells2] at q0 q1
  subst q0; subst q1
  exact ⟨(s, n), rfl, Nat.le_trans k0 b0, k1⟩
theorem fd_el : Opn enc Try.prog W 35 fdR FdK := fun n cs x h hp => by
  obtain ⟨hl, hf⟩ := opn_st Try.underlying35 cells35 h hp
  obtain ⟨c0, c1, rfl⟩ := list2 hl
  obtain ⟨_, y0, h0, b0, _⟩ := hf 0 _ rfl
  obtain ⟨_, y1, h1, b1, _⟩ := hf 1 _ rfl
  obtain ⟨s, q0, k0⟩ := opn_s Try.underlying9 h0
  obtain ⟨n, q1, k1⟩ := opn_s Try.underlying9 h1
  simp [cells9] at q0 q1
  subst q0; subst q1
  exact ⟨(s, n), rfl, Nat.le_trans k0 b0, Nat.le_trans k1 b1⟩
theorem val_el {n : Nat} {cs : List Value} {x : DataW H × List MemPlace} (h : DataW.trod enc Try.prog W 0 (fun _ => true) true n 27 cs = some x) (hp : ∀ p ∈ x.2, p.block < W.heap.size) :
    ∃ k s Al cl l Az cz z Ah ch h', cs = [.int .i64 k, .string s, .slice Al l.length cl, .slice Az z.length cz, .slice Ah h'.length ch] ∧ SlR Rp.str (fun b => b < W.heap.size) W (.slice Al l.length cl) l ∧ SlR scR (fun b => b < W.heap.size) W (.slice Az z.length cz) z ∧ SlR fdR (fun b => b < W.heap.size) W (.slice Ah h'.length ch) h' ∧ ValK k s l z h' (Rows.uptoBulk x.1) := by
  obtain ⟨hl, hf⟩ := opn_st Try.underlying27 cells27 h hp
  obtain ⟨c0, c1, c2, c3, c4, rfl⟩ := list5 hl
  obtain ⟨_, y0, h0, b0, p0⟩ := hf 0 _ rfl
  obtain ⟨_, y1, h1, b1, p1⟩ := hf 1 _ rfl
  obtain ⟨_, y2, h2, b2, p2⟩ := hf 2 _ rfl
  obtain ⟨_, y3, h3, b3, p3⟩ := hf 3 _ rfl
  obtain ⟨_, y4, h4, b4, p4⟩ := hf 4 _ rfl
  obtain ⟨k, q0, k0⟩ := opn_i Try.underlying22 h0
  obtain ⟨s, q1, k1⟩ := opn_s Try.underlying9 h1
  obtain ⟨Al, cl, l, q2, s2, k2, m2⟩ := Opn.sl (R := Rp.str) (K := fun s b => s.size ≤ b) Try.underlying23 cells9 (by decide) (fun d b b' h q => Nat.le_trans q h) (Opn.str Try.underlying9) h2 p2
  obtain ⟨Az, cz, z, q3, s3, k3, m3⟩ := Opn.sl (R := scR) (K := ScK) Try.underlying24 cells37 (by decide) (fun d b b' h q => ⟨Nat.le_trans q.1 h, q.2⟩) sc_el h3 p3
  obtain ⟨Ah, ch, h', q4, s4, k4, m4⟩ := Opn.sl (R := fdR) (K := FdK) Try.underlying25 cells35 (by decide) (fun d b b' h q => ⟨Nat.le_trans q.1 h, Nat.le_trans q.2 h⟩) fd_el h4 p4
  simp [cells9, cells22, cells23, cells24, cells25] at q0 q1 q2 q3 q4
  subst q0; subst q1; subst q2; subst q3; subst q4
  exact ⟨k, s, Al, cl, l, Az, cz, z, Ah, ch, h', rfl, s2, s3, s4, k0, by omega, ⟨by omega, fun y hy => Nat.le_trans (m2 y hy) b2⟩, ⟨by omega, fun y hy => ⟨Nat.le_trans (m3 y hy).1 b3, (m3 y hy).2⟩⟩, by omega, fun y hy => ⟨Nat.le_trans (m4 y hy).1 b4, Nat.le_trans (m4 y hy).2 b4⟩⟩
end
end Go.Proofs.Ytjkegckfncfoaaa
end
