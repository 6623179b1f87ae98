/- Joined texts: Gh, Gi, Gj, Gk, AggT, Gl, Tk, Row, Bks, Bits, Word, Tab, EntV, Ea, Eb, TabP, BksW, TabF. -/
import Derived.Test.YtjkegckfncfoaaaGreatProg
import Derived.Test.YtjkegckfncfoaaaGreatSq92
section
namespace Go.Proofs.YtjkegckfncfoaaaGreat
open Go.V Go.Base
open Go.RowKit (Below)
attribute [local irreducible] Act.put Act.eval
set_option linter.unusedVariables false
set_option linter.unusedSimpArgs false
set_option maxHeartbeats 4000000
set_option maxRecDepth 20000
theorem nbP {p : Prop} : (!bP (¬ p)) = true ↔ p := by
  by_cases h : p
  · rw [← bP_no (fun q => q h : ¬ ¬ p)]; simp [h]
  · rw [← bP_yes h]; simp [h]
theorem gT_true {l : List ByteArray} {n : Nat} : AllG (gT l true) n ↔ AllG (gR Rp.str (slt) l) n ∧ AllG (gS l) n :=
  ⟨fun h => ⟨fun i hi h0 => (h i hi).2 rfl h0, fun i hi => by have := (h i hi).1; unfold gS; omega⟩, fun h i hi => ⟨by have := h.2 i hi; unfold gS at this; omega, fun _ h0 => h.1 i hi h0⟩⟩
theorem gT_false {l : List ByteArray} {n : Nat} : AllG (gT l false) n ↔ AllG (gS l) n :=
  ⟨fun h i hi => by have := (h i hi).1; unfold gS; omega, fun h i hi => ⟨by have := h i hi; unfold gS at this; omega, fun h => by cases h⟩⟩
theorem gM_iff {l : List (ByteArray × Int)} {n : Nat} : AllG (gM l) n ↔ AllG (gZ l) n ∧ AllG (gR scR (ahd) l) n :=
  ⟨fun h => ⟨fun i hi => (h i hi).1, fun i hi h0 => (h i hi).2 h0⟩, fun h i hi => ⟨h.1 i hi, fun h0 => h.2 i hi h0⟩⟩
theorem gF_iff {l : List (ByteArray × ByteArray)} {n : Nat} : AllG (gF l) n ↔ AllG (gR fdR (fun x y => slt x.1 y.1) l) n ∧ AllG (gFs l) n :=
  ⟨fun h => ⟨fun i hi h0 => (h i hi).2.2 h0, fun i hi => by have h1 := (h i hi).1; have h2 := (h i hi).2.1; unfold gFs; omega⟩, fun h i hi => by
    have h1 := h.2 i hi
    unfold gFs at h1
    exact ⟨by omega, by omega, fun h0 => h.1 i hi h0⟩⟩
theorem right_any (w : World) (k : Int) (s : ByteArray) (Al : Option Addr) (cl : Nat) (l : List ByteArray) (hSl : SlR Rp.str (fun k => k < w.heap.size) w (.slice Al l.length cl) l) (Az : Option Addr) (cz : Nat) (z : List (ByteArray × Int)) (hSz : SlR scR (fun k => k < w.heap.size) w (.slice Az z.length cz) z) (Ah : Option Addr) (ch : Nat) (h : List (ByteArray × ByteArray)) (hSh : SlR fdR (fun k => k < w.heap.size) w (.slice Ah h.length ch) h) (hll : l.length ≤ 140737488355328) (hlz : z.length ≤ 140737488355328) (hlh : h.length ≤ 140737488355328) (hz : ∀ x ∈ z, x.1.size ≤ maxLen) : Calls Tryz.prog 114 #[.agg #[.int .i64 k, .string s, .slice Al l.length cl, .slice Az z.length cz, .slice Ah h.length ch]] w (fun e w' => e = .returned (.bool (bP (okV k s l z h))) ∧ Fr [] w w') := by
 have hF := Fr.refl [] w
 refine V.en 83 Tryz.func114 fun a h1 => ?_
 refine V.sg fun K2 k3 => ?_
 refine V.go (V.mk [(0, .agg #[.int .i64 k, .string s, .slice Al l.length cl, .slice Az z.length cz, .slice Ah h.length ch])] ⟨h1.e, trivial⟩ (by kernel_rfl) [.int .i64 k, .string s, .slice Al l.length cl, .slice Az z.length cz, .slice Ah h.length ch] 37 (fun b => .pointer (some ⟨b, 0, none⟩)) (by kernel_rfl) ?_)
 intro w5 b4 heb4 hB6 hF7 hsb4
 have hF_8 := hF.new hF7
 have hSl_9 := hSl.fr0 hF7
 have hSz_10 := hSz.fr0 hF7
 have hSh_11 := hSh.fr0 hF7
 refine V.pt h1 fun a h12 => ?_
 refine V.re h12 [] 2 2 [] fun a h13 => k3 _ _ ?_
 refine V.sg fun K14 k15 => ?_
 refine V.run h13 [(0, .bs hB6 0 [.int .i64 k, .string s, .slice Al l.length cl, .slice Az z.length cz, .slice Ah h.length ch])] 1 1 0 [(5, .agg #[.int .i64 k, .string s, .slice Al l.length cl, .slice Az z.length cz, .slice Ah h.length ch])] fun a h20 => ?_
 refine V.go (V.mk [] trivial (by kernel_rfl) [.int .i64 0, .string ⟨#[]⟩, .slice none 0 0, .slice none 0 0, .slice none 0 0] 37 (fun b => .pointer (some ⟨b, 0, none⟩)) (by kernel_rfl) ?_)
 intro w17 b16 heb16 hB18 hF19 hsb16
 have hF_21 := hF_8.new hF19
 have hSl_22 := hSl_9.fr0 hF19
 have hSz_23 := hSz_10.fr0 hF19
 have hSh_24 := hSh_11.fr0 hF19
 have hB6_25 := hB6.fr0 hF19
 refine V.pt h20 fun a h26 => ?_
 refine V.go (V.stn b16 0 (.agg #[.int .i64 k, .string s, .slice Al l.length cl, .slice Az z.length cz, .slice Ah h.length ch]) [.int .i64 k, .string s, .slice Al l.length cl, .slice Az z.length cz, .slice Ah h.length ch] h26.e h26.e rfl rfl (by kernel_rfl) hB18 (by simp) [.int .i64 k, .string s, .slice Al l.length cl, .slice Az z.length cz, .slice Ah h.length ch] rfl ?_)
 intro w27 hB28 hF29 hsw27
 have hF_30 := hF_21.own hF29 (by simp <;> omega)
 have hSl_31 := hSl_22.fr hF29 (by simp <;> omega)
 have hSz_32 := hSz_23.fr hF29 (by simp <;> omega)
 have hSh_33 := hSh_24.fr hF29 (by simp <;> omega)
 have hB6_34 := hB6_25.fr1 hF29 (by omega)
 refine V.nt (k15 _ _ ?_)
 refine V.sr h26 [] 1 0 [(4, .bool false)] fun a h37 => ?_
 refine V.seq fun K38 k39 => ?_
 refine V.sr h37 [(1, .b hB6_34 0)] 6 6 [(7, .int .i64 k)] fun a h42 => ?_
 refine V.block ?_
 refine V.seq fun K43 k44 => ?_
 refine V.block ?_
 refine V.seq fun K45 k46 => ?_
 refine V.block ?_
 refine V.seq fun K47 k48 => ?_
 refine V.block ?_
 refine V.seq fun K49 k50 => ?_
 refine V.block ?_
 refine V.seq fun K51 k52 => ?_
 refine V.block ?_
 refine V.seq fun K53 k54 => ?_
 refine V.seq fun K55 k56 => ?_
 refine V.sr h42 [(0, .eq k 1)] 9 9 [(8, .bool (decide (k = 1)))] fun a h59 => ?_
 refine V.cp h59 (k = 1) (fun ht60 => ?_) (fun ht60 => ?_)
 ·
  refine V.exit (V.then_e (V.then_e (V.blk_hit ?_)))
  refine V.then_n (k52 _ _ ?_)
  refine V.seq fun K61 k62 => ?_
  refine V.sg fun K63 k64 => ?_
  refine V.run h59 [] 1 1 0 [(18, .pointer (some ⟨b16, 1, none⟩))] fun a h68 => ?_
  refine V.go (V.stn b16 1 (.string ⟨#[]⟩) [.string ⟨#[]⟩] h68.e evc rfl rfl (by kernel_rfl) hB28 (by simp) [.int .i64 k, .string ⟨#[]⟩, .slice Al l.length cl, .slice Az z.length cz, .slice Ah h.length ch] rfl ?_)
  intro w65 hB66 hF67 hsw65
  have hF_69 := hF_30.own hF67 (by simp <;> omega)
  have hB6_73 := hB6_34.fr1 hF67 (by omega)
  refine V.nt (k64 _ _ ?_)
  refine V.rg ?_
  refine V.run h68 [(1, .b hB6_73 1)] 2 19 19 [(20, .string s)] fun a h74 => ?_
  refine V.cl h74 (Go.Proofs.enters_of Tryz.func113 (by kernel_rfl) rfl) (short_any w65 s) ?_
  rintro _ w76 ⟨rfl, hF75⟩
  refine ⟨_, rfl, fun a h77 => ?_⟩
  have hsw76 := hF75.size
  have hF_78 := hF_69.new hF75
  have hB66_83 := hB66.fr0 hF75
  refine V.re h77 [] 1 0 [(4, .bool (decide ((s.size : Int) ≤ 65536)))] fun a h84 => k62 _ _ ?_
  refine V.exit ?_
  refine V.blk_miss rfl ?_
  refine V.then_e ?_
  refine V.blk_miss rfl ?_
  refine V.then_e ?_
  refine V.blk_miss rfl ?_
  refine V.then_e ?_
  refine V.blk_miss rfl ?_
  refine V.then_e (V.blk_hit ?_)
  refine V.then_n (k39 _ _ ?_)
  refine V.sg fun K85 k86 => ?_
  refine V.run h84 [] 2 63 63 [(64, .bool (decide ((s.size : Int) ≤ 65536)))] fun a h87 => ?_
  by_cases hg88 : (s.size : Int) ≤ 65536
  ·
   have h89 := h87.kt 64 hg88
   refine V.re h89 [(1, .b hB66_83 1), (0, .q (.bool true) (V.t_ssame ⟨#[]⟩)), (3, .b hB66_83 2), (2, .b hB66_83 3), (1, .i (((l.length : Nat) : Int) + ((z.length : Nat) : Int))), (1, .b hB66_83 4), (1, .i ((((l.length : Nat) : Int) + ((z.length : Nat) : Int)) + ((h.length : Nat) : Int))), (0, .eq ((((l.length : Nat) : Int) + ((z.length : Nat) : Int)) + ((h.length : Nat) : Int)) 0)] 65 82 [(2, .bool (decide (((((l.length : Nat) : Int) + ((z.length : Nat) : Int)) + ((h.length : Nat) : Int)) = 0)))] fun a h90 => k86 _ _ ?_
   refine V.ret ?_
   refine V.r1 h90 (.bool (decide (((((l.length : Nat) : Int) + ((z.length : Nat) : Int)) + ((h.length : Nat) : Int)) = 0))) ?_
   unfold okV
   rw [if_pos ht60]
   exact ⟨congrArg (fun b => Ending.returned (Value.bool b)) (bP_dec.trans (congrArg bP (propext ⟨fun q => ⟨by omega, by omega, by omega, by omega⟩, fun q => by omega⟩))), hF_78⟩
  ·
   have h91 := h87.kf 64 hg88
   refine V.re h91 [] 65 82 [(2, .bool false)] fun a h92 => k86 _ _ ?_
   refine V.ret ?_
   refine V.r1 h92 (.bool false) ?_
   unfold okV
   rw [if_pos ht60]
   exact ⟨congrArg (fun b => Ending.returned (Value.bool b)) (bP_no fun hq => by omega), hF_78⟩
 ·
  refine V.skip ?_
  refine V.then_n (k56 _ _ ?_)
  refine V.seq fun K93 k94 => ?_
  refine V.sr h59 [(0, .eq k 3)] 11 11 [(10, .bool (decide (k = 3)))] fun a h97 => ?_
  refine V.cp h97 (k = 3) (fun ht98 => ?_) (fun ht98 => ?_)
  ·
   refine V.exit (V.then_e (V.then_e ?_))
   refine V.blk_miss rfl ?_
   refine V.then_e (V.blk_hit ?_)
   refine V.then_n (k50 _ _ ?_)
   refine V.sg fun K99 k100 => ?_
   refine V.run h97 [(1, .b hB6_34 2)] 2 22 22 [(23, .slice Al l.length cl)] fun a h101 => ?_
   refine V.cl h101 (Go.Proofs.enters_of Tryz.func141 (by kernel_rfl) rfl) (rising_str w27 Al cl l hSl_31.old) ?_
   rintro _ w103 ⟨rfl, hF102⟩
   refine ⟨_, rfl, fun a h104 => ?_⟩
   have hsw103 := hF102.size
   have hF_105 := hF_30.new hF102
   have hSl_106 := hSl_31.fr0 hF102
   have hB6_109 := hB6_34.fr0 hF102
   have hB28_110 := hB28.fr0 hF102
   refine V.re h104 [] 1 0 [(25, .bool (!(bP (AllG (gR Rp.str (slt) l) l.length))))] fun a h111 => k100 _ _ ?_
   refine V.cb h111 (!(bP (AllG (gR Rp.str (slt) l) l.length))) (fun ht112 => ?_) (fun ht112 => ?_)
   ·
    refine V.sr h111 [] 1 0 [(2, .bool false)] fun a h115 => ?_
    refine V.ret (V.blk_r (V.then_r (V.blk_r (V.then_r (V.blk_r (V.then_r (V.blk_r (V.then_r ?_))))))))
    refine V.r1 h115 (.bool false) ?_
    unfold okV
    rw [if_neg ht60]
    rw [if_neg (by omega)]
    rw [if_pos ht98]
    exact ⟨congrArg (fun b => Ending.returned (Value.bool b)) (bP_no fun hq => by (obtain ⟨q1, q2, q3, q4, q5⟩ := hq; first | omega | exact absurd q1 (by assumption) | exact absurd (bP_yes q4).symm (by assumption) | exact absurd (bP_yes (gT_true.1 q5).1).symm (by assumption) | exact absurd (bP_yes (gT_true.1 q5).1).symm (by simpa using ht112) | exact absurd (nbP.2 (gT_true.1 q5).2) (by assumption))), hF_105⟩
   ·
    refine V.skip (V.blk_n ?_)
    refine V.then_n (k48 _ _ ?_)
    refine V.seq fun K116 k117 => ?_
    refine V.sg fun K118 k119 => ?_
    refine V.run h111 [] 1 1 0 [(26, .pointer (some ⟨b16, 2, none⟩))] fun a h123 => ?_
    refine V.go (V.stn b16 2 (.slice none 0 0) [.slice none 0 0] h123.e evc rfl rfl (by kernel_rfl) hB28_110 (by simp) [.int .i64 k, .string s, .slice none 0 0, .slice Az z.length cz, .slice Ah h.length ch] rfl ?_)
    intro w120 hB121 hF122 hsw120
    have hF_124 := hF_105.own hF122 (by simp <;> omega)
    have hSl_125 := hSl_106.fr hF122 (by simp <;> omega)
    have hB6_128 := hB6_109.fr1 hF122 (by omega)
    refine V.nt (k119 _ _ ?_)
    refine V.rg ?_
    refine V.run h123 [(1, .b hB6_128 2)] 3 27 28 [(29, .int .i64 ((l.length : Nat) : Int))] fun a h129 => ?_
    refine V.cl h129 (Go.Proofs.enters_of Tryz.func143 (by kernel_rfl) rfl) (sized_any w120 ((l.length : Nat) : Int)) ?_
    rintro _ w131 ⟨rfl, hF130⟩
    refine ⟨_, rfl, fun a h132 => ?_⟩
    have hsw131 := hF130.size
    have hF_133 := hF_124.new hF130
    have hSl_134 := hSl_125.fr0 hF130
    have hB6_137 := hB6_128.fr0 hF130
    have hB121_138 := hB121.fr0 hF130
    refine V.run h132 [] 1 1 0 [(31, .bool (bP (1 ≤ ((l.length : Nat) : Int) ∧ ((l.length : Nat) : Int) ≤ 65536)))] fun a h139 => ?_
    by_cases hg140 : (bP (1 ≤ ((l.length : Nat) : Int) ∧ ((l.length : Nat) : Int) ≤ 65536)) = true
    ·
     have h141 := h139.kbt 31 hg140
     refine V.run h141 [(1, .b hB6_137 2)] 2 32 32 [(33, .slice Al l.length cl)] fun a h142 => ?_
     refine V.clg h142 (Go.Proofs.enters_of Tryz.func144 (by kernel_rfl) rfl) (con_str w131 Al cl l hSl_134.old) ?_
     rintro _ w144 ⟨rfl, hF143⟩
     refine ⟨_, rfl, fun a h145 => ?_⟩
     have hsw144 := hF143.size
     have hF_146 := hF_133.new hF143
     have hB121_151 := hB121_138.fr0 hF143
     refine V.re h145 [] 35 36 [(4, .bool (!(bP (¬ AllG (gS l) l.length))))] fun a h152 => k117 _ _ ?_
     refine V.exit ?_
     refine V.blk_miss rfl ?_
     refine V.then_e ?_
     refine V.blk_miss rfl ?_
     refine V.then_e (V.blk_hit ?_)
     refine V.then_n (k39 _ _ ?_)
     refine V.sg fun K153 k154 => ?_
     refine V.run h152 [] 2 63 63 [(64, .bool (!(bP (¬ AllG (gS l) l.length))))] fun a h155 => ?_
     by_cases hg156 : (!(bP (¬ AllG (gS l) l.length))) = true
     ·
      have h157 := h155.kbt 64 hg156
      refine V.run h157 [(1, .b hB121_151 1), (0, .seq s ⟨#[]⟩)] 5 65 68 [(69, .bool (decide (s = ⟨#[]⟩)))] fun a h158 => ?_
      by_cases hg159 : s = ⟨#[]⟩
      ·
       have h160 := h158.kt 69 hg159
       refine V.re h160 [(1, .b hB121_151 2), (2, .b hB121_151 3), (1, .i (0 + ((z.length : Nat) : Int))), (1, .b hB121_151 4), (1, .i ((0 + ((z.length : Nat) : Int)) + ((h.length : Nat) : Int))), (0, .eq ((0 + ((z.length : Nat) : Int)) + ((h.length : Nat) : Int)) 0)] 70 82 [(2, .bool (decide (((0 + ((z.length : Nat) : Int)) + ((h.length : Nat) : Int)) = 0)))] fun a h161 => k154 _ _ ?_
       have h162 := h161.only [(2, .bool (decide (((0 + ((z.length : Nat) : Int)) + ((h.length : Nat) : Int)) = 0)))]
       refine V.ret ?_
       refine V.r1 h162 (.bool (decide (((0 + ((z.length : Nat) : Int)) + ((h.length : Nat) : Int)) = 0))) ?_
       unfold okV
       rw [if_neg ht60]
       rw [if_neg (by omega)]
       rw [if_pos ht98]
       exact ⟨congrArg (fun b => Ending.returned (Value.bool b)) (bP_dec.trans (congrArg bP (propext ⟨fun q => ⟨hg159, by omega, by omega, bP_of hg140, gT_true.2 ⟨bP_of (by have hq := ht112; simpa using hq), nbP.1 hg156⟩⟩, fun q => by (obtain ⟨q1, q2, q3, q4, q5⟩ := q; omega)⟩))), hF_146⟩
      ·
       have h163 := h158.kf 69 hg159
       refine V.re h163 [] 70 82 [(2, .bool false)] fun a h164 => k154 _ _ ?_
       have h165 := h164.only [(2, .bool false)]
       refine V.ret ?_
       refine V.r1 h165 (.bool false) ?_
       unfold okV
       rw [if_neg ht60]
       rw [if_neg (by omega)]
       rw [if_pos ht98]
       exact ⟨congrArg (fun b => Ending.returned (Value.bool b)) (bP_no fun hq => by (obtain ⟨q1, q2, q3, q4, q5⟩ := hq; first | omega | exact absurd q1 (by assumption) | exact absurd (bP_yes q4).symm (by assumption) | exact absurd (bP_yes (gT_true.1 q5).1).symm (by assumption) | exact absurd (bP_yes (gT_true.1 q5).1).symm (by simpa using ht112) | exact absurd (nbP.2 (gT_true.1 q5).2) (by assumption))), hF_146⟩
     ·
      have h166 := h155.kbf 64 hg156
      refine V.re h166 [] 65 82 [(2, .bool false)] fun a h167 => k154 _ _ ?_
      have h168 := h167.only [(2, .bool false)]
      refine V.ret ?_
      refine V.r1 h168 (.bool false) ?_
      unfold okV
      rw [if_neg ht60]
      rw [if_neg (by omega)]
      rw [if_pos ht98]
      exact ⟨congrArg (fun b => Ending.returned (Value.bool b)) (bP_no fun hq => by (obtain ⟨q1, q2, q3, q4, q5⟩ := hq; first | omega | exact absurd q1 (by assumption) | exact absurd (bP_yes q4).symm (by assumption) | exact absurd (bP_yes (gT_true.1 q5).1).symm (by assumption) | exact absurd (bP_yes (gT_true.1 q5).1).symm (by simpa using ht112) | exact absurd (nbP.2 (gT_true.1 q5).2) (by assumption))), hF_146⟩
    ·
     have h169 := h139.kbf 31 hg140
     refine V.re h169 [] 32 36 [(4, .bool false)] fun a h170 => k117 _ _ ?_
     refine V.exit ?_
     refine V.blk_miss rfl ?_
     refine V.then_e ?_
     refine V.blk_miss rfl ?_
     refine V.then_e (V.blk_hit ?_)
     refine V.then_n (k39 _ _ ?_)
     refine V.sr h170 [] 63 82 [(2, .bool false)] fun a h173 => ?_
     refine V.ret ?_
     refine V.r1 h173 (.bool false) ?_
     unfold okV
     rw [if_neg ht60]
     rw [if_neg (by omega)]
     rw [if_pos ht98]
     exact ⟨congrArg (fun b => Ending.returned (Value.bool b)) (bP_no fun hq => by (obtain ⟨q1, q2, q3, q4, q5⟩ := hq; first | omega | exact absurd q1 (by assumption) | exact absurd (bP_yes q4).symm (by assumption) | exact absurd (bP_yes (gT_true.1 q5).1).symm (by assumption) | exact absurd (bP_yes (gT_true.1 q5).1).symm (by simpa using ht112) | exact absurd (nbP.2 (gT_true.1 q5).2) (by assumption))), hF_133⟩
  ·
   refine V.skip ?_
   refine V.then_n (k94 _ _ ?_)
   refine V.seq fun K174 k175 => ?_
   refine V.sr h97 [(0, .eq k 2)] 13 13 [(12, .bool (decide (k = 2)))] fun a h178 => ?_
   refine V.cp h178 (k = 2) (fun ht179 => ?_) (fun ht179 => ?_)
   ·
    refine V.exit (V.then_e (V.then_e ?_))
    refine V.blk_miss rfl ?_
    refine V.then_e ?_
    refine V.blk_miss rfl ?_
    refine V.then_e (V.blk_hit ?_)
    refine V.then_n (k48 _ _ ?_)
    refine V.seq fun K180 k181 => ?_
    refine V.sg fun K182 k183 => ?_
    refine V.run h178 [] 1 1 0 [(26, .pointer (some ⟨b16, 2, none⟩))] fun a h187 => ?_
    refine V.go (V.stn b16 2 (.slice none 0 0) [.slice none 0 0] h187.e evc rfl rfl (by kernel_rfl) hB28 (by simp) [.int .i64 k, .string s, .slice none 0 0, .slice Az z.length cz, .slice Ah h.length ch] rfl ?_)
    intro w184 hB185 hF186 hsw184
    have hF_188 := hF_30.own hF186 (by simp <;> omega)
    have hSl_189 := hSl_31.fr hF186 (by simp <;> omega)
    have hB6_192 := hB6_34.fr1 hF186 (by omega)
    refine V.nt (k183 _ _ ?_)
    refine V.rg ?_
    refine V.run h187 [(1, .b hB6_192 2)] 3 27 28 [(29, .int .i64 ((l.length : Nat) : Int))] fun a h193 => ?_
    refine V.cl h193 (Go.Proofs.enters_of Tryz.func143 (by kernel_rfl) rfl) (sized_any w184 ((l.length : Nat) : Int)) ?_
    rintro _ w195 ⟨rfl, hF194⟩
    refine ⟨_, rfl, fun a h196 => ?_⟩
    have hsw195 := hF194.size
    have hF_197 := hF_188.new hF194
    have hSl_198 := hSl_189.fr0 hF194
    have hB6_201 := hB6_192.fr0 hF194
    have hB185_202 := hB185.fr0 hF194
    refine V.run h196 [] 1 1 0 [(31, .bool (bP (1 ≤ ((l.length : Nat) : Int) ∧ ((l.length : Nat) : Int) ≤ 65536)))] fun a h203 => ?_
    by_cases hg204 : (bP (1 ≤ ((l.length : Nat) : Int) ∧ ((l.length : Nat) : Int) ≤ 65536)) = true
    ·
     have h205 := h203.kbt 31 hg204
     refine V.run h205 [(1, .b hB6_201 2)] 2 32 32 [(33, .slice Al l.length cl)] fun a h206 => ?_
     refine V.clg h206 (Go.Proofs.enters_of Tryz.func144 (by kernel_rfl) rfl) (con_str w195 Al cl l hSl_198.old) ?_
     rintro _ w208 ⟨rfl, hF207⟩
     refine ⟨_, rfl, fun a h209 => ?_⟩
     have hsw208 := hF207.size
     have hF_210 := hF_197.new hF207
     have hB185_215 := hB185_202.fr0 hF207
     refine V.re h209 [] 35 36 [(4, .bool (!(bP (¬ AllG (gS l) l.length))))] fun a h216 => k181 _ _ ?_
     refine V.exit ?_
     refine V.blk_miss rfl ?_
     refine V.then_e ?_
     refine V.blk_miss rfl ?_
     refine V.then_e (V.blk_hit ?_)
     refine V.then_n (k39 _ _ ?_)
     refine V.sg fun K217 k218 => ?_
     refine V.run h216 [] 2 63 63 [(64, .bool (!(bP (¬ AllG (gS l) l.length))))] fun a h219 => ?_
     by_cases hg220 : (!(bP (¬ AllG (gS l) l.length))) = true
     ·
      have h221 := h219.kbt 64 hg220
      refine V.run h221 [(1, .b hB185_215 1), (0, .seq s ⟨#[]⟩)] 5 65 68 [(69, .bool (decide (s = ⟨#[]⟩)))] fun a h222 => ?_
      by_cases hg223 : s = ⟨#[]⟩
      ·
       have h224 := h222.kt 69 hg223
       refine V.re h224 [(1, .b hB185_215 2), (2, .b hB185_215 3), (1, .i (0 + ((z.length : Nat) : Int))), (1, .b hB185_215 4), (1, .i ((0 + ((z.length : Nat) : Int)) + ((h.length : Nat) : Int))), (0, .eq ((0 + ((z.length : Nat) : Int)) + ((h.length : Nat) : Int)) 0)] 70 82 [(2, .bool (decide (((0 + ((z.length : Nat) : Int)) + ((h.length : Nat) : Int)) = 0)))] fun a h225 => k218 _ _ ?_
       have h226 := h225.only [(2, .bool (decide (((0 + ((z.length : Nat) : Int)) + ((h.length : Nat) : Int)) = 0)))]
       refine V.ret ?_
       refine V.r1 h226 (.bool (decide (((0 + ((z.length : Nat) : Int)) + ((h.length : Nat) : Int)) = 0))) ?_
       unfold okV
       rw [if_neg ht60]
       rw [if_pos ht179]
       exact ⟨congrArg (fun b => Ending.returned (Value.bool b)) (bP_dec.trans (congrArg bP (propext ⟨fun q => ⟨hg223, by omega, by omega, bP_of hg204, gT_false.2 (nbP.1 hg220)⟩, fun q => by (obtain ⟨q1, q2, q3, q4, q5⟩ := q; omega)⟩))), hF_210⟩
      ·
       have h227 := h222.kf 69 hg223
       refine V.re h227 [] 70 82 [(2, .bool false)] fun a h228 => k218 _ _ ?_
       have h229 := h228.only [(2, .bool false)]
       refine V.ret ?_
       refine V.r1 h229 (.bool false) ?_
       unfold okV
       rw [if_neg ht60]
       rw [if_pos ht179]
       exact ⟨congrArg (fun b => Ending.returned (Value.bool b)) (bP_no fun hq => by (obtain ⟨q1, q2, q3, q4, q5⟩ := hq; first | omega | exact absurd q1 (by assumption) | exact absurd (bP_yes q4).symm (by assumption) | exact absurd (nbP.2 (gT_false.1 q5)) (by assumption))), hF_210⟩
     ·
      have h230 := h219.kbf 64 hg220
      refine V.re h230 [] 65 82 [(2, .bool false)] fun a h231 => k218 _ _ ?_
      have h232 := h231.only [(2, .bool false)]
      refine V.ret ?_
      refine V.r1 h232 (.bool false) ?_
      unfold okV
      rw [if_neg ht60]
      rw [if_pos ht179]
      exact ⟨congrArg (fun b => Ending.returned (Value.bool b)) (bP_no fun hq => by (obtain ⟨q1, q2, q3, q4, q5⟩ := hq; first | omega | exact absurd q1 (by assumption) | exact absurd (bP_yes q4).symm (by assumption) | exact absurd (nbP.2 (gT_false.1 q5)) (by assumption))), hF_210⟩
    ·
     have h233 := h203.kbf 31 hg204
     refine V.re h233 [] 32 36 [(4, .bool false)] fun a h234 => k181 _ _ ?_
     refine V.exit ?_
     refine V.blk_miss rfl ?_
     refine V.then_e ?_
     refine V.blk_miss rfl ?_
     refine V.then_e (V.blk_hit ?_)
     refine V.then_n (k39 _ _ ?_)
     refine V.sr h234 [] 63 82 [(2, .bool false)] fun a h237 => ?_
     refine V.ret ?_
     refine V.r1 h237 (.bool false) ?_
     unfold okV
     rw [if_neg ht60]
     rw [if_pos ht179]
     exact ⟨congrArg (fun b => Ending.returned (Value.bool b)) (bP_no fun hq => by (obtain ⟨q1, q2, q3, q4, q5⟩ := hq; first | omega | exact absurd q1 (by assumption) | exact absurd (bP_yes q4).symm (by assumption) | exact absurd (nbP.2 (gT_false.1 q5)) (by assumption))), hF_197⟩
   ·
    refine V.skip ?_
    refine V.then_n (k175 _ _ ?_)
    refine V.seq fun K238 k239 => ?_
    refine V.sr h178 [(0, .eq k 4)] 15 15 [(14, .bool (decide (k = 4)))] fun a h242 => ?_
    refine V.cp h242 (k = 4) (fun ht243 => ?_) (fun ht243 => ?_)
    ·
     refine V.exit (V.then_e (V.then_e ?_))
     refine V.blk_miss rfl ?_
     refine V.then_e ?_
     refine V.blk_miss rfl ?_
     refine V.then_e ?_
     refine V.blk_miss rfl ?_
     refine V.then_e (V.blk_hit ?_)
     refine V.then_n (k46 _ _ ?_)
     refine V.seq fun K244 k245 => ?_
     refine V.sg fun K246 k247 => ?_
     refine V.run h242 [] 1 1 0 [(37, .pointer (some ⟨b16, 3, none⟩))] fun a h251 => ?_
     refine V.go (V.stn b16 3 (.slice none 0 0) [.slice none 0 0] h251.e evc rfl rfl (by kernel_rfl) hB28 (by simp) [.int .i64 k, .string s, .slice Al l.length cl, .slice none 0 0, .slice Ah h.length ch] rfl ?_)
     intro w248 hB249 hF250 hsw248
     have hF_252 := hF_30.own hF250 (by simp <;> omega)
     have hSz_254 := hSz_32.fr hF250 (by simp <;> omega)
     have hB6_256 := hB6_34.fr1 hF250 (by omega)
     refine V.nt (k247 _ _ ?_)
     refine V.rg ?_
     refine V.run h251 [(1, .b hB6_256 3)] 3 38 39 [(40, .int .i64 ((z.length : Nat) : Int))] fun a h257 => ?_
     refine V.cl h257 (Go.Proofs.enters_of Tryz.func143 (by kernel_rfl) rfl) (sized_any w248 ((z.length : Nat) : Int)) ?_
     rintro _ w259 ⟨rfl, hF258⟩
     refine ⟨_, rfl, fun a h260 => ?_⟩
     have hsw259 := hF258.size
     have hF_261 := hF_252.new hF258
     have hSz_263 := hSz_254.fr0 hF258
     have hB6_265 := hB6_256.fr0 hF258
     have hB249_266 := hB249.fr0 hF258
     refine V.run h260 [] 1 1 0 [(42, .bool (bP (1 ≤ ((z.length : Nat) : Int) ∧ ((z.length : Nat) : Int) ≤ 65536)))] fun a h267 => ?_
     by_cases hg268 : (bP (1 ≤ ((z.length : Nat) : Int) ∧ ((z.length : Nat) : Int) ≤ 65536)) = true
     ·
      have h269 := h267.kbt 42 hg268
      refine V.run h269 [(1, .b hB6_265 3)] 2 43 43 [(44, .slice Az z.length cz)] fun a h270 => ?_
      refine V.clg h270 (Go.Proofs.enters_of Tryz.func146 (by kernel_rfl) rfl) (zset_any w259 Az cz z hSz_263.old (by first | omega | (have hq := bP_of (p := 1 ≤ ((z.length : Nat) : Int) ∧ ((z.length : Nat) : Int) ≤ 65536) (by assumption); omega)) hz) ?_
      rintro _ w272 ⟨rfl, hF271⟩
      refine ⟨_, rfl, fun a h273 => ?_⟩
      have hsw272 := hF271.size
      have hF_274 := hF_261.new hF271
      have hB249_279 := hB249_266.fr0 hF271
      refine V.re h273 [] 46 46 [(4, .bool (bP (AllG (gZ z) z.length ∧ (setOf (mTx z z.length)).length = z.length ∧ AllG (gR scR (ahd) z) z.length)))] fun a h280 => k245 _ _ ?_
      refine V.exit ?_
      refine V.blk_miss rfl ?_
      refine V.then_e (V.blk_hit ?_)
      refine V.then_n (k39 _ _ ?_)
      refine V.sg fun K281 k282 => ?_
      refine V.run h280 [] 2 63 63 [(64, .bool (bP (AllG (gZ z) z.length ∧ (setOf (mTx z z.length)).length = z.length ∧ AllG (gR scR (ahd) z) z.length)))] fun a h283 => ?_
      by_cases hg284 : (bP (AllG (gZ z) z.length ∧ (setOf (mTx z z.length)).length = z.length ∧ AllG (gR scR (ahd) z) z.length)) = true
      ·
       have h285 := h283.kbt 64 hg284
       refine V.run h285 [(1, .b hB249_279 1), (0, .seq s ⟨#[]⟩)] 5 65 68 [(69, .bool (decide (s = ⟨#[]⟩)))] fun a h286 => ?_
       by_cases hg287 : s = ⟨#[]⟩
       ·
        have h288 := h286.kt 69 hg287
        refine V.re h288 [(1, .b hB249_279 2), (2, .b hB249_279 3), (1, .i (((l.length : Nat) : Int) + 0)), (1, .b hB249_279 4), (1, .i ((((l.length : Nat) : Int) + 0) + ((h.length : Nat) : Int))), (0, .eq ((((l.length : Nat) : Int) + 0) + ((h.length : Nat) : Int)) 0)] 70 82 [(2, .bool (decide (((((l.length : Nat) : Int) + 0) + ((h.length : Nat) : Int)) = 0)))] fun a h289 => k282 _ _ ?_
        have h290 := h289.only [(2, .bool (decide (((((l.length : Nat) : Int) + 0) + ((h.length : Nat) : Int)) = 0)))]
        refine V.ret ?_
        refine V.r1 h290 (.bool (decide (((((l.length : Nat) : Int) + 0) + ((h.length : Nat) : Int)) = 0))) ?_
        unfold okV
        rw [if_neg ht60]
        rw [if_neg ht179]
        rw [if_neg ht98]
        rw [if_pos ht243]
        exact ⟨congrArg (fun b => Ending.returned (Value.bool b)) (bP_dec.trans (congrArg bP (propext ⟨fun q => ⟨hg287, by omega, by omega, bP_of hg268, ⟨gM_iff.2 ⟨(bP_of hg284).1, (bP_of hg284).2.2⟩, (bP_of hg284).2.1⟩⟩, fun q => by (obtain ⟨q1, q2, q3, q4, q5⟩ := q; omega)⟩))), hF_274⟩
       ·
        have h291 := h286.kf 69 hg287
        refine V.re h291 [] 70 82 [(2, .bool false)] fun a h292 => k282 _ _ ?_
        have h293 := h292.only [(2, .bool false)]
        refine V.ret ?_
        refine V.r1 h293 (.bool false) ?_
        unfold okV
        rw [if_neg ht60]
        rw [if_neg ht179]
        rw [if_neg ht98]
        rw [if_pos ht243]
        exact ⟨congrArg (fun b => Ending.returned (Value.bool b)) (bP_no fun hq => by (obtain ⟨q1, q2, q3, q4, q5⟩ := hq; first | omega | exact absurd q1 (by assumption) | exact absurd (bP_yes q4).symm (by assumption) | exact absurd (bP_yes (show AllG (gZ z) z.length ∧ (setOf (mTx z z.length)).length = z.length ∧ AllG (gR scR (ahd) z) z.length from ⟨(gM_iff.1 q5.1).1, q5.2, (gM_iff.1 q5.1).2⟩)).symm (by assumption))), hF_274⟩
      ·
       have h294 := h283.kbf 64 hg284
       refine V.re h294 [] 65 82 [(2, .bool false)] fun a h295 => k282 _ _ ?_
       have h296 := h295.only [(2, .bool false)]
       refine V.ret ?_
       refine V.r1 h296 (.bool false) ?_
       unfold okV
       rw [if_neg ht60]
       rw [if_neg ht179]
       rw [if_neg ht98]
       rw [if_pos ht243]
       exact ⟨congrArg (fun b => Ending.returned (Value.bool b)) (bP_no fun hq => by (obtain ⟨q1, q2, q3, q4, q5⟩ := hq; first | omega | exact absurd q1 (by assumption) | exact absurd (bP_yes q4).symm (by assumption) | exact absurd (bP_yes (show AllG (gZ z) z.length ∧ (setOf (mTx z z.length)).length = z.length ∧ AllG (gR scR (ahd) z) z.length from ⟨(gM_iff.1 q5.1).1, q5.2, (gM_iff.1 q5.1).2⟩)).symm (by assumption))), hF_274⟩
     ·
      have h297 := h267.kbf 42 hg268
      refine V.re h297 [] 43 46 [(4, .bool false)] fun a h298 => k245 _ _ ?_
      refine V.exit ?_
      refine V.blk_miss rfl ?_
      refine V.then_e (V.blk_hit ?_)
      refine V.then_n (k39 _ _ ?_)
      refine V.sr h298 [] 63 82 [(2, .bool false)] fun a h301 => ?_
      refine V.ret ?_
      refine V.r1 h301 (.bool false) ?_
      unfold okV
      rw [if_neg ht60]
      rw [if_neg ht179]
      rw [if_neg ht98]
      rw [if_pos ht243]
      exact ⟨congrArg (fun b => Ending.returned (Value.bool b)) (bP_no fun hq => by (obtain ⟨q1, q2, q3, q4, q5⟩ := hq; first | omega | exact absurd q1 (by assumption) | exact absurd (bP_yes q4).symm (by assumption) | exact absurd (bP_yes (show AllG (gZ z) z.length ∧ (setOf (mTx z z.length)).length = z.length ∧ AllG (gR scR (ahd) z) z.length from ⟨(gM_iff.1 q5.1).1, q5.2, (gM_iff.1 q5.1).2⟩)).symm (by assumption))), hF_261⟩
    ·
     refine V.skip ?_
     refine V.then_n (k239 _ _ ?_)
     refine V.sr h242 [(0, .eq k 5)] 17 17 [(16, .bool (decide (k = 5)))] fun a h304 => ?_
     refine V.cp h304 (k = 5) (fun ht305 => ?_) (fun ht305 => ?_)
     ·
      refine V.exit (V.then_e ?_)
      refine V.blk_miss rfl ?_
      refine V.then_e ?_
      refine V.blk_miss rfl ?_
      refine V.then_e ?_
      refine V.blk_miss rfl ?_
      refine V.then_e ?_
      refine V.blk_miss rfl ?_
      refine V.then_e (V.blk_hit ?_)
      refine V.then_n (k44 _ _ ?_)
      refine V.seq fun K306 k307 => ?_
      refine V.sg fun K308 k309 => ?_
      refine V.run h304 [] 1 1 0 [(47, .pointer (some ⟨b16, 4, none⟩))] fun a h313 => ?_
      refine V.go (V.stn b16 4 (.slice none 0 0) [.slice none 0 0] h313.e evc rfl rfl (by kernel_rfl) hB28 (by simp) [.int .i64 k, .string s, .slice Al l.length cl, .slice Az z.length cz, .slice none 0 0] rfl ?_)
      intro w310 hB311 hF312 hsw310
      have hF_314 := hF_30.own hF312 (by simp <;> omega)
      have hSh_317 := hSh_33.fr hF312 (by simp <;> omega)
      have hB6_318 := hB6_34.fr1 hF312 (by omega)
      refine V.nt (k309 _ _ ?_)
      refine V.rg ?_
      refine V.run h313 [(1, .b hB6_318 4)] 3 48 49 [(50, .int .i64 ((h.length : Nat) : Int))] fun a h319 => ?_
      refine V.cl h319 (Go.Proofs.enters_of Tryz.func143 (by kernel_rfl) rfl) (sized_any w310 ((h.length : Nat) : Int)) ?_
      rintro _ w321 ⟨rfl, hF320⟩
      refine ⟨_, rfl, fun a h322 => ?_⟩
      have hsw321 := hF320.size
      have hF_323 := hF_314.new hF320
      have hSh_326 := hSh_317.fr0 hF320
      have hB6_327 := hB6_318.fr0 hF320
      have hB311_328 := hB311.fr0 hF320
      refine V.run h322 [] 1 1 0 [(52, .bool (bP (1 ≤ ((h.length : Nat) : Int) ∧ ((h.length : Nat) : Int) ≤ 65536)))] fun a h329 => ?_
      by_cases hg330 : (bP (1 ≤ ((h.length : Nat) : Int) ∧ ((h.length : Nat) : Int) ≤ 65536)) = true
      ·
       have h331 := h329.kbt 52 hg330
       refine V.run h331 [(1, .b hB6_327 4)] 2 53 53 [(54, .slice Ah h.length ch)] fun a h332 => ?_
       refine V.clg h332 (Go.Proofs.enters_of Tryz.func147 (by kernel_rfl) rfl) (rising_fd w321 Ah ch h hSh_326.old) ?_
       rintro _ w334 ⟨rfl, hF333⟩
       refine ⟨_, rfl, fun a h335 => ?_⟩
       have hsw334 := hF333.size
       have hF_336 := hF_323.new hF333
       have hSh_339 := hSh_326.fr0 hF333
       have hB6_340 := hB6_327.fr0 hF333
       have hB311_341 := hB311_328.fr0 hF333
       refine V.run h335 [] 2 56 56 [(57, .bool (bP (AllG (gR fdR (fun x y => slt x.1 y.1) h) h.length)))] fun a h342 => ?_
       by_cases hg343 : (bP (AllG (gR fdR (fun x y => slt x.1 y.1) h) h.length)) = true
       ·
        have h344 := h342.kbt 57 hg343
        refine V.run h344 [(1, .b hB6_340 4)] 2 58 58 [(59, .slice Ah h.length ch)] fun a h345 => ?_
        refine V.clg h345 (Go.Proofs.enters_of Tryz.func149 (by kernel_rfl) rfl) (con_fd w334 Ah ch h hSh_339.old) ?_
        rintro _ w347 ⟨rfl, hF346⟩
        refine ⟨_, rfl, fun a h348 => ?_⟩
        have hsw347 := hF346.size
        have hF_349 := hF_336.new hF346
        have hB311_354 := hB311_341.fr0 hF346
        refine V.re h348 [] 61 62 [(4, .bool (!(bP (¬ AllG (gFs h) h.length))))] fun a h355 => k307 _ _ ?_
        refine V.exit (V.blk_hit ?_)
        refine V.then_n (k39 _ _ ?_)
        refine V.sg fun K356 k357 => ?_
        refine V.run h355 [] 2 63 63 [(64, .bool (!(bP (¬ AllG (gFs h) h.length))))] fun a h358 => ?_
        by_cases hg359 : (!(bP (¬ AllG (gFs h) h.length))) = true
        ·
         have h360 := h358.kbt 64 hg359
         refine V.run h360 [(1, .b hB311_354 1), (0, .seq s ⟨#[]⟩)] 5 65 68 [(69, .bool (decide (s = ⟨#[]⟩)))] fun a h361 => ?_
         by_cases hg362 : s = ⟨#[]⟩
         ·
          have h363 := h361.kt 69 hg362
          refine V.re h363 [(1, .b hB311_354 2), (2, .b hB311_354 3), (1, .i (((l.length : Nat) : Int) + ((z.length : Nat) : Int))), (1, .b hB311_354 4), (1, .i ((((l.length : Nat) : Int) + ((z.length : Nat) : Int)) + 0)), (0, .eq ((((l.length : Nat) : Int) + ((z.length : Nat) : Int)) + 0) 0)] 70 82 [(2, .bool (decide (((((l.length : Nat) : Int) + ((z.length : Nat) : Int)) + 0) = 0)))] fun a h364 => k357 _ _ ?_
          have h365 := h364.only [(2, .bool (decide (((((l.length : Nat) : Int) + ((z.length : Nat) : Int)) + 0) = 0)))]
          refine V.ret ?_
          refine V.r1 h365 (.bool (decide (((((l.length : Nat) : Int) + ((z.length : Nat) : Int)) + 0) = 0))) ?_
          unfold okV
          rw [if_neg ht60]
          rw [if_neg ht179]
          rw [if_neg ht98]
          rw [if_neg ht243]
          rw [if_pos ht305]
          exact ⟨congrArg (fun b => Ending.returned (Value.bool b)) (bP_dec.trans (congrArg bP (propext ⟨fun q => ⟨hg362, by omega, by omega, bP_of hg330, gF_iff.2 ⟨bP_of hg343, nbP.1 hg359⟩⟩, fun q => by (obtain ⟨q1, q2, q3, q4, q5⟩ := q; omega)⟩))), hF_349⟩
         ·
          have h366 := h361.kf 69 hg362
          refine V.re h366 [] 70 82 [(2, .bool false)] fun a h367 => k357 _ _ ?_
          have h368 := h367.only [(2, .bool false)]
          refine V.ret ?_
          refine V.r1 h368 (.bool false) ?_
          unfold okV
          rw [if_neg ht60]
          rw [if_neg ht179]
          rw [if_neg ht98]
          rw [if_neg ht243]
          rw [if_pos ht305]
          exact ⟨congrArg (fun b => Ending.returned (Value.bool b)) (bP_no fun hq => by (obtain ⟨q1, q2, q3, q4, q5⟩ := hq; first | omega | exact absurd q1 (by assumption) | exact absurd (bP_yes q4).symm (by assumption) | exact absurd (bP_yes (gF_iff.1 q5).1).symm (by assumption) | exact absurd (nbP.2 (gF_iff.1 q5).2) (by assumption))), hF_349⟩
        ·
         have h369 := h358.kbf 64 hg359
         refine V.re h369 [] 65 82 [(2, .bool false)] fun a h370 => k357 _ _ ?_
         have h371 := h370.only [(2, .bool false)]
         refine V.ret ?_
         refine V.r1 h371 (.bool false) ?_
         unfold okV
         rw [if_neg ht60]
         rw [if_neg ht179]
         rw [if_neg ht98]
         rw [if_neg ht243]
         rw [if_pos ht305]
         exact ⟨congrArg (fun b => Ending.returned (Value.bool b)) (bP_no fun hq => by (obtain ⟨q1, q2, q3, q4, q5⟩ := hq; first | omega | exact absurd q1 (by assumption) | exact absurd (bP_yes q4).symm (by assumption) | exact absurd (bP_yes (gF_iff.1 q5).1).symm (by assumption) | exact absurd (nbP.2 (gF_iff.1 q5).2) (by assumption))), hF_349⟩
       ·
        have h372 := h342.kbf 57 hg343
        refine V.re h372 [] 58 62 [(4, .bool false)] fun a h373 => k307 _ _ ?_
        refine V.exit (V.blk_hit ?_)
        refine V.then_n (k39 _ _ ?_)
        refine V.sr h373 [] 63 82 [(2, .bool false)] fun a h376 => ?_
        refine V.ret ?_
        refine V.r1 h376 (.bool false) ?_
        unfold okV
        rw [if_neg ht60]
        rw [if_neg ht179]
        rw [if_neg ht98]
        rw [if_neg ht243]
        rw [if_pos ht305]
        exact ⟨congrArg (fun b => Ending.returned (Value.bool b)) (bP_no fun hq => by (obtain ⟨q1, q2, q3, q4, q5⟩ := hq; first | omega | exact absurd q1 (by assumption) | exact absurd (bP_yes q4).symm (by assumption) | exact absurd (bP_yes (gF_iff.1 q5).1).symm (by assumption) | exact absurd (nbP.2 (gF_iff.1 q5).2) (by assumption))), hF_336⟩
      ·
       have h377 := h329.kbf 52 hg330
       refine V.re h377 [] 53 62 [(4, .bool false)] fun a h378 => k307 _ _ ?_
       refine V.exit (V.blk_hit ?_)
       refine V.then_n (k39 _ _ ?_)
       refine V.sr h378 [] 63 82 [(2, .bool false)] fun a h381 => ?_
       refine V.ret ?_
       refine V.r1 h381 (.bool false) ?_
       unfold okV
       rw [if_neg ht60]
       rw [if_neg ht179]
       rw [if_neg ht98]
       rw [if_neg ht243]
       rw [if_pos ht305]
       exact ⟨congrArg (fun b => Ending.returned (Value.bool b)) (bP_no fun hq => by (obtain ⟨q1, q2, q3, q4, q5⟩ := hq; first | omega | exact absurd q1 (by assumption) | exact absurd (bP_yes q4).symm (by assumption) | exact absurd (bP_yes (gF_iff.1 q5).1).symm (by assumption) | exact absurd (nbP.2 (gF_iff.1 q5).2) (by assumption))), hF_323⟩
     ·
      refine V.skip ?_
      refine V.then_n (k54 _ _ ?_)
      refine V.exit ?_
      refine V.blk_miss rfl ?_
      refine V.then_e ?_
      refine V.blk_miss rfl ?_
      refine V.then_e ?_
      refine V.blk_miss rfl ?_
      refine V.then_e ?_
      refine V.blk_miss rfl ?_
      refine V.then_e ?_
      refine V.blk_miss rfl ?_
      refine V.then_e (V.blk_hit ?_)
      refine V.then_n (k39 _ _ ?_)
      refine V.sr h304 [] 63 82 [(2, .bool false)] fun a h384 => ?_
      refine V.ret ?_
      refine V.r1 h384 (.bool false) ?_
      unfold okV
      rw [if_neg ht60]
      rw [if_neg ht179]
      rw [if_neg ht98]
      rw [if_neg ht243]
      rw [if_neg ht305]
      exact ⟨congrArg (fun b => Ending.returned (Value.bool b)) (bP_no id), hF_30⟩
/-- An entry that memory can hold. -/
def bndE (x : EnD) : Prop := x.l.length ≤ 140737488355328 ∧ x.z.length ≤ 140737488355328 ∧ x.h.length ≤ 140737488355328 ∧ ∀ y ∈ x.z, y.1.size ≤ maxLen
def gO (l : List EnD) (i : Nat) : Prop := okD (at_ enR l (i : Int))
theorem at_memE {l : List EnD} {i : Nat} (h : i < l.length) : at_ enR l (i : Int) ∈ l := List.mem_of_getElem? (at_some enR (xs := l) (i := (i : Int)) (by omega) (by omega))
theorem gE_iff {l : List EnD} {n : Nat} : AllG (gE l) n ↔ AllG (gR enR (fun x y => slt x.key y.key) l) n ∧ AllG (gO l) n :=
  ⟨fun h => ⟨fun i hi h0 => (h i hi).2 h0, fun i hi => (h i hi).1⟩, fun h i hi => ⟨h.2 i hi, fun h0 => h.1 i hi h0⟩⟩
theorem entry_any (w : World) (key : ByteArray) (k : Int) (s : ByteArray) (Al : Option Addr) (cl : Nat) (l : List ByteArray) (hSl : SlR Rp.str (fun k => k < w.heap.size) w (.slice Al l.length cl) l) (Az : Option Addr) (cz : Nat) (z : List (ByteArray × Int)) (hSz : SlR scR (fun k => k < w.heap.size) w (.slice Az z.length cz) z) (Ah : Option Addr) (ch : Nat) (h : List (ByteArray × ByteArray)) (hSh : SlR fdR (fun k => k < w.heap.size) w (.slice Ah h.length ch) h) (at' : Int) (hll : l.length ≤ 140737488355328) (hlz : z.length ≤ 140737488355328) (hlh : h.length ≤ 140737488355328) (hz : ∀ x ∈ z, x.1.size ≤ maxLen) : Calls Tryz.prog 81 #[.agg #[.string key, .int .i64 k, .string s, .slice Al l.length cl, .slice Az z.length cz, .slice Ah h.length ch, .int .i64 at']] w (fun e w' => e = .returned (.bool (bP (okE key at' (okV k s l z h)))) ∧ Fr [] w w') := by
 have hF := Fr.refl [] w
 refine V.en 21 Tryz.func81 fun a h1 => ?_
 refine V.sg fun K2 k3 => ?_
 refine V.go (V.mk [(0, .agg #[.string key, .int .i64 k, .string s, .slice Al l.length cl, .slice Az z.length cz, .slice Ah h.length ch, .int .i64 at'])] ⟨h1.e, trivial⟩ (by kernel_rfl) [.string key, .int .i64 k, .string s, .slice Al l.length cl, .slice Az z.length cz, .slice Ah h.length ch, .int .i64 at'] 39 (fun b => .pointer (some ⟨b, 0, none⟩)) (by kernel_rfl) ?_)
 intro w5 b4 heb4 hB6 hF7 hsb4
 have hF_8 := hF.new hF7
 have hSl_9 := hSl.fr0 hF7
 have hSz_10 := hSz.fr0 hF7
 have hSh_11 := hSh.fr0 hF7
 refine V.pt h1 fun a h12 => ?_
 refine V.re h12 [] 2 2 [] fun a h13 => k3 _ _ ?_
 refine V.sg fun K14 k15 => ?_
 refine V.run h13 [(1, .b hB6 0)] 2 3 3 [(4, .string key)] fun a h16 => ?_
 refine V.cl h16 (Go.Proofs.enters_of Tryz.func113 (by kernel_rfl) rfl) (short_any w5 key) ?_
 rintro _ w18 ⟨rfl, hF17⟩
 refine ⟨_, rfl, fun a h19 => ?_⟩
 have hsw18 := hF17.size
 have hF_20 := hF_8.new hF17
 have hSl_21 := hSl_9.fr0 hF17
 have hSz_22 := hSz_10.fr0 hF17
 have hSh_23 := hSh_11.fr0 hF17
 have hB6_24 := hB6.fr0 hF17
 refine V.run h19 [] 1 1 0 [(6, .bool (decide ((key.size : Int) ≤ 65536)))] fun a h25 => ?_
 by_cases hg26 : (key.size : Int) ≤ 65536
 ·
  have h27 := h25.kt 6 hg26
  refine V.run h27 [(1, .b hB6_24 6)] 5 7 10 [(11, .bool (decide (at' ≥ (-1))))] fun a h28 => ?_
  by_cases hg29 : at' ≥ (-1)
  ·
   have h30 := h28.kt 11 hg29
   refine V.run h30 [(1, .b hB6_24 6)] 5 12 15 [(16, .bool (decide (at' ≤ 1099511627776)))] fun a h31 => ?_
   by_cases hg32 : at' ≤ 1099511627776
   ·
    have h33 := h31.kt 16 hg32
    refine V.run h33 [(1, .bs hB6_24 1 [.int .i64 k, .string s, .slice Al l.length cl, .slice Az z.length cz, .slice Ah h.length ch])] 2 17 17 [(18, .agg #[.int .i64 k, .string s, .slice Al l.length cl, .slice Az z.length cz, .slice Ah h.length ch])] fun a h34 => ?_
    refine V.clg h34 (Go.Proofs.enters_of Tryz.func114 (by kernel_rfl) rfl) (right_any w18 k s Al cl l hSl_21.old Az cz z hSz_22.old Ah ch h hSh_23.old hll hlz hlh hz) ?_
    rintro _ w36 ⟨rfl, hF35⟩
    refine ⟨_, rfl, fun a h37 => ?_⟩
    have hsw36 := hF35.size
    have hF_38 := hF_20.new hF35
    refine V.re h37 [] 20 20 [(2, .bool (bP (okV k s l z h)))] fun a h43 => k15 _ _ ?_
    refine V.ret ?_
    refine V.r1 h43 (.bool (bP (okV k s l z h))) ?_
    exact ⟨congrArg (fun b => Ending.returned (Value.bool b)) (congrArg bP (propext ⟨fun q => ⟨by omega, by omega, q⟩, fun q => q.2.2⟩)), hF_38⟩
   ·
    have h44 := h31.kf 16 hg32
    refine V.re h44 [] 17 20 [(2, .bool false)] fun a h45 => k15 _ _ ?_
    refine V.ret ?_
    refine V.r1 h45 (.bool false) ?_
    exact ⟨congrArg (fun b => Ending.returned (Value.bool b)) (bP_no fun hq => by (obtain ⟨q1, q2, q3⟩ := hq; omega)), hF_20⟩
  ·
   have h46 := h28.kf 11 hg29
   refine V.re h46 [] 12 20 [(2, .bool false)] fun a h47 => k15 _ _ ?_
   refine V.ret ?_
   refine V.r1 h47 (.bool false) ?_
   exact ⟨congrArg (fun b => Ending.returned (Value.bool b)) (bP_no fun hq => by (obtain ⟨q1, q2, q3⟩ := hq; omega)), hF_20⟩
 ·
  have h48 := h25.kf 6 hg26
  refine V.re h48 [] 7 20 [(2, .bool false)] fun a h49 => k15 _ _ ?_
  refine V.ret ?_
  refine V.r1 h49 (.bool false) ?_
  exact ⟨congrArg (fun b => Ending.returned (Value.bool b)) (bP_no fun hq => by (obtain ⟨q1, q2, q3⟩ := hq; omega)), hF_20⟩
theorem chk1_any (w : World) (key : ByteArray) (k : Int) (s : ByteArray) (Al : Option Addr) (cl : Nat) (l : List ByteArray) (hSl : SlR Rp.str (fun k => k < w.heap.size) w (.slice Al l.length cl) l) (Az : Option Addr) (cz : Nat) (z : List (ByteArray × Int)) (hSz : SlR scR (fun k => k < w.heap.size) w (.slice Az z.length cz) z) (Ah : Option Addr) (ch : Nat) (h : List (ByteArray × ByteArray)) (hSh : SlR fdR (fun k => k < w.heap.size) w (.slice Ah h.length ch) h) (at' : Int) (hll : l.length ≤ 140737488355328) (hlz : z.length ≤ 140737488355328) (hlh : h.length ≤ 140737488355328) (hz : ∀ x ∈ z, x.1.size ≤ maxLen) : Calls Tryz.prog 80 #[.agg #[.string key, .int .i64 k, .string s, .slice Al l.length cl, .slice Az z.length cz, .slice Ah h.length ch, .int .i64 at']] w (fun e w' => e = .returned (.bool (!bP (okE key at' (okV k s l z h)))) ∧ Fr [] w w') := by
 have hF := Fr.refl [] w
 refine V.en 6 Tryz.func80 fun a h1 => ?_
 refine V.sg fun K2 k3 => ?_
 refine V.go (V.mk [(0, .agg #[.string key, .int .i64 k, .string s, .slice Al l.length cl, .slice Az z.length cz, .slice Ah h.length ch, .int .i64 at'])] ⟨h1.e, trivial⟩ (by kernel_rfl) [.string key, .int .i64 k, .string s, .slice Al l.length cl, .slice Az z.length cz, .slice Ah h.length ch, .int .i64 at'] 39 (fun b => .pointer (some ⟨b, 0, none⟩)) (by kernel_rfl) ?_)
 intro w5 b4 heb4 hB6 hF7 hsb4
 have hF_8 := hF.new hF7
 have hSl_9 := hSl.fr0 hF7
 have hSz_10 := hSz.fr0 hF7
 have hSh_11 := hSh.fr0 hF7
 refine V.pt h1 fun a h12 => ?_
 refine V.re h12 [] 2 2 [] fun a h13 => k3 _ _ ?_
 refine V.sg fun K14 k15 => ?_
 refine V.run h13 [(0, .bs hB6 0 [.string key, .int .i64 k, .string s, .slice Al l.length cl, .slice Az z.length cz, .slice Ah h.length ch, .int .i64 at'])] 1 1 0 [(3, .agg #[.string key, .int .i64 k, .string s, .slice Al l.length cl, .slice Az z.length cz, .slice Ah h.length ch, .int .i64 at'])] fun a h16 => ?_
 refine V.cl h16 (Go.Proofs.enters_of Tryz.func81 (by kernel_rfl) rfl) (entry_any w5 key k s Al cl l hSl_9.old Az cz z hSz_10.old Ah ch h hSh_11.old at' hll hlz hlh hz) ?_
 rintro _ w18 ⟨rfl, hF17⟩
 refine ⟨_, rfl, fun a h19 => ?_⟩
 have hsw18 := hF17.size
 have hF_20 := hF_8.new hF17
 refine V.re h19 [] 5 5 [(2, .bool (!(bP (okE key at' (okV k s l z h)))))] fun a h25 => k15 _ _ ?_
 refine V.ret ?_
 refine V.r1 h25 (.bool (!(bP (okE key at' (okV k s l z h))))) ?_
 exact ⟨rfl, hF_20⟩
theorem ix_en (w : World) (Al : Option Addr) (cl : Nat) (l : List EnD) (hSl : SlR enR (fun k => k < w.heap.size) w (.slice Al l.length cl) l) (hbn : ∀ x ∈ l, bndE x) : Calls Tryz.prog 112 #[.slice Al l.length cl, .func (.func 80) #[] #[]] w (fun e w' => ∃ r : Int, e = .returned (.int .i64 r) ∧ Fr [] w w' ∧ ((r = -1 ∧ AllG (gO l) l.length) ∨ (0 ≤ r ∧ ¬ AllG (gO l) l.length))) := by
 have hF := Fr.refl [] w
 have hlen0 := hSl.len_le
 refine V.en 19 Tryz.func112 fun a h1 => ?_
 refine V.sr h1 [] 4 4 [] fun a h4 => ?_
 refine V.seq fun K5 k6 => ?_
 refine V.sr h4 [] 6 6 [(7, .int .i64 ((l.length : Nat) : Int)), (8, .int .i64 0)] fun a h9 => ?_
 refine V.block ?_
 refine V.loop1 (fun (i : Nat) a_ w_ => En 19 [] a_ [(0, .slice Al l.length cl), (1, .func (.func 80) #[] #[]), (7, .int .i64 ((l.length : Nat) : Int)), (8, .int .i64 (i : Int))] ∧ Fr [] w w_ ∧ SlR enR (fun k => k < w.heap.size) w_ (.slice Al l.length cl) l ∧ (i ≤ l.length) ∧ (AllG (gO l) i)) (fun (i : Nat) => l.length - i) 0 ?_ ?_
 ·
  refine ⟨(h9.eq 8 (v := (.int .i64 0)) (u := (.int .i64 (0 : Int))) (V.int_eq (by omega))).only _, hF, hSl, (by omega), (AllG.zero _)⟩
 ·
  rintro i a10 w11 ⟨h12, hF_13, hSl_14, hi, hG⟩
  have hfs15 := hF_13.size
  refine V.sr h12 [] 1 0 [(9, .bool (decide ((i : Int) < ((l.length : Nat) : Int))))] fun a h18 => ?_
  refine V.seq fun K19 k20 => ?_
  refine V.cp h18 ((i : Int) < ((l.length : Nat) : Int)) (fun ht21 => ?_) (fun ht21 => ?_)
  ·
   refine V.skip ?_
   refine V.then_n (k20 _ _ ?_)
   refine V.seq fun K22 k23 => ?_
   refine V.block ?_
   refine V.sr h18 [] 10 10 [(5, .int .i64 (i : Int))] fun a h26 => ?_
   obtain ⟨g29, o30, hA31, hA31l, hA31z⟩ := hSl_14.addr (by omega)
   obtain ⟨cs32, hok33, hE34⟩ := hSl_14.els hA31 (i : Int) (by omega) (by omega)
   obtain ⟨Al35, cl36, Az37, cz38, Ah39, ch40, rfl, hS41, hS42, hS43⟩ := en_open hok33
   refine V.sg fun K27 k28 => ?_
   refine V.run h26 [(3, .ix g29 o30 l.length cl .i64 (i : Int) 7 hA31), (0, .ls ⟨g29, o30 + (i : Int).toNat * 7, none⟩ [.string ((at_ enR l (i : Int)).key), .int .i64 ((at_ enR l (i : Int)).k), .string ((at_ enR l (i : Int)).s), .slice Al35 ((at_ enR l (i : Int)).l.length) cl36, .slice Az37 ((at_ enR l (i : Int)).z.length) cz38, .slice Ah39 ((at_ enR l (i : Int)).h.length) ch40, .int .i64 ((at_ enR l (i : Int)).till)] (hE34.cells 0 _ rfl))] 5 12 14 [(11, .func (.func 80) #[] #[]), (15, .agg #[.string ((at_ enR l (i : Int)).key), .int .i64 ((at_ enR l (i : Int)).k), .string ((at_ enR l (i : Int)).s), .slice Al35 ((at_ enR l (i : Int)).l.length) cl36, .slice Az37 ((at_ enR l (i : Int)).z.length) cz38, .slice Ah39 ((at_ enR l (i : Int)).h.length) ch40, .int .i64 ((at_ enR l (i : Int)).till)])] fun a h44 => ?_
   refine V.cl h44 (Go.Proofs.enters_of Tryz.func80 (by kernel_rfl) rfl) (chk1_any w11 ((at_ enR l (i : Int)).key) ((at_ enR l (i : Int)).k) ((at_ enR l (i : Int)).s) Al35 cl36 ((at_ enR l (i : Int)).l) hS41.old Az37 cz38 ((at_ enR l (i : Int)).z) hS42.old Ah39 ch40 ((at_ enR l (i : Int)).h) hS43.old ((at_ enR l (i : Int)).till) (hbn _ (at_memE (by omega))).1 (hbn _ (at_memE (by omega))).2.1 (hbn _ (at_memE (by omega))).2.2.1 (hbn _ (at_memE (by omega))).2.2.2) ?_
   rintro _ w46 ⟨rfl, hF45⟩
   refine ⟨_, rfl, fun a h47 => ?_⟩
   have hsw46 := hF45.size
   have hF_48 := hF_13.new hF45
   have hSl_49 := hSl_14.fr0 hF45
   refine V.nt (k28 _ _ ?_)
   refine V.cb h47 (!bP (okE ((at_ enR l (i : Int)).key) ((at_ enR l (i : Int)).till) (okV ((at_ enR l (i : Int)).k) ((at_ enR l (i : Int)).s) ((at_ enR l (i : Int)).l) ((at_ enR l (i : Int)).z) ((at_ enR l (i : Int)).h)))) (fun ht54 => ?_) (fun ht54 => ?_)
   ·
    refine V.sr h47 [] 17 17 [(4, .int .i64 (i : Int))] fun a h57 => ?_
    refine V.ret (V.blk_r (V.then_r (V.then_r (V.blk_r (V.then_r ?_)))))
    refine V.r1 h57 (.int .i64 (i : Int)) ?_
    exact ⟨_, rfl, hF_48, .inr ⟨by omega, AllG.no (i := i) (by omega) fun hg => by unfold gO okD at hg; have h1 := (bP_yes hg).symm; have hq := ht54; rw [h1] at hq; simp at hq⟩⟩
   ·
    refine V.skip (V.blk_n ?_)
    refine V.then_n (k23 _ _ ?_)
    refine V.rr h47 [(0, .i ((i : Int) + 1))] 18 18 [(8, .int .i64 ((i : Int) + 1))] fun a h58 => ?_
    refine V.then_n ?_
    refine ⟨i + 1, by omega, ?_⟩
    refine ⟨(h58.eq 8 (v := (.int .i64 ((i : Int) + 1))) (u := (.int .i64 ((i + 1) : Int))) (V.int_eq (by omega))).only _, hF_48, hSl_49, (by omega), (hG.step (bP_of (by have hq := ht54; simp at hq; exact hq)))⟩
  ·
   refine V.exit (V.then_e (V.then_e (V.blk_hit ?_)))
   refine V.then_n (k6 _ _ ?_)
   refine V.sr h18 [] 1 0 [(4, .int .i64 (-1))] fun a h61 => ?_
   refine V.ret ?_
   refine V.r1 h61 (.int .i64 (-1)) ?_
   exact ⟨_, rfl, hF_13, .inl ⟨rfl, hG.le (by omega)⟩⟩
theorem con_en (w : World) (Al : Option Addr) (cl : Nat) (l : List EnD) (hSl : SlR enR (fun k => k < w.heap.size) w (.slice Al l.length cl) l) (hbn : ∀ x ∈ l, bndE x) : Calls Tryz.prog 79 #[.slice Al l.length cl, .func (.func 80) #[] #[]] w (fun e w' => e = .returned (.bool (bP (¬ AllG (gO l) l.length))) ∧ Fr [] w w') := by
 have hF := Fr.refl [] w
 refine V.en 9 Tryz.func79 fun a h1 => ?_
 refine V.sr h1 [] 4 4 [] fun a h4 => ?_
 refine V.sg fun K5 k6 => ?_
 refine V.run h4 [] 2 1 0 [(5, .slice Al l.length cl), (6, .func (.func 80) #[] #[])] fun a h7 => ?_
 refine V.cl h7 (Go.Proofs.enters_of Tryz.func112 (by kernel_rfl) rfl) (ix_en w Al cl l hSl.old hbn) ?_
 rintro _ w11 ⟨r8, rfl, hF9, hr10⟩
 refine ⟨_, rfl, fun a h12 => ?_⟩
 have hsw11 := hF9.size
 have hF_13 := hF.new hF9
 refine V.re h12 [] 8 8 [(4, .bool (decide (r8 ≥ 0)))] fun a h15 => k6 _ _ ?_
 refine V.ret ?_
 refine V.r1 h15 (.bool (decide (r8 ≥ 0))) ?_
 exact ⟨congrArg (fun b => Ending.returned (Value.bool b)) (bP_dec.trans (congrArg bP (propext ⟨fun h => by (rcases hr10 with h1 | h1; omega; exact h1.2), fun h => by (rcases hr10 with h1 | h1; exact absurd h1.2 h; omega)⟩))), hF_13⟩
theorem check_any (w : World) (Al : Option Addr) (cl : Nat) (l : List EnD) (hSl : SlR enR (fun k => k < w.heap.size) w (.slice Al l.length cl) l) (hbn : ∀ x ∈ l, bndE x) : Calls Tryz.prog 45 #[.slice Al l.length cl] w (fun e w' => e = .returned (.int .i64 (imgN l)) ∧ Fr [] w w') := by
 have hF := Fr.refl [] w
 have hlen0 := hSl.len_le
 refine V.en 13 Tryz.func45 fun a h1 => ?_
 refine V.sr h1 [] 2 2 [] fun a h4 => ?_
 refine V.seq fun K5 k6 => ?_
 refine V.sr h4 [] 3 4 [(5, .bool (decide (((l.length : Nat) : Int) > 65536)))] fun a h9 => ?_
 refine V.cp h9 (((l.length : Nat) : Int) > 65536) (fun ht10 => ?_) (fun ht10 => ?_)
 ·
  refine V.sr h9 [] 1 0 [(2, .int .i64 3)] fun a h13 => ?_
  refine V.ret (V.then_r ?_)
  refine V.r1 h13 (.int .i64 3) ?_
  exact ⟨congrArg (fun b => Ending.returned (Value.int .i64 b)) (imgN_many (by omega)).symm, hF⟩
 ·
  refine V.skip ?_
  refine V.then_n (k6 _ _ ?_)
  refine V.seq fun K14 k15 => ?_
  refine V.sg fun K16 k17 => ?_
  refine V.run h9 [] 1 1 0 [(6, .slice Al l.length cl)] fun a h18 => ?_
  refine V.cl h18 (Go.Proofs.enters_of Tryz.func77 (by kernel_rfl) rfl) (rising_en w Al cl l hSl.old) ?_
  rintro _ w20 ⟨rfl, hF19⟩
  refine ⟨_, rfl, fun a h21 => ?_⟩
  have hsw20 := hF19.size
  have hF_22 := hF.new hF19
  have hSl_23 := hSl.fr0 hF19
  refine V.run h21 [] 2 8 8 [(9, .bool (!(bP (AllG (gR enR (fun x y => slt x.key y.key) l) l.length))))] fun a h24 => ?_
  by_cases hg25 : (!(bP (AllG (gR enR (fun x y => slt x.key y.key) l) l.length))) = true
  ·
   have h26 := h24.kbt 9 hg25
   refine V.re h26 [] 10 11 [(12, .bool true)] fun a h27 => k17 _ _ ?_
   refine V.ct h27 ?_
   refine V.sr h27 [] 1 0 [(2, .int .i64 90)] fun a h30 => ?_
   refine V.ret (V.then_r ?_)
   refine V.r1 h30 (.int .i64 90) ?_
   exact ⟨congrArg (fun b => Ending.returned (Value.int .i64 b)) (imgN_no (by omega) fun hg => by first | (have h1 := (bP_yes (gE_iff.1 hg).1).symm; have hq := hg25; rw [h1] at hq; simp at hq; done) | (have h2 := nbP.2 (gE_iff.1 hg).2; have hq := hg25; rw [hq] at h2; simp at h2)).symm, hF_22⟩
  ·
   have h31 := h24.kbf 9 hg25
   refine V.run h31 [] 1 1 0 [(10, .slice Al l.length cl)] fun a h32 => ?_
   refine V.clg h32 (Go.Proofs.enters_of Tryz.func79 (by kernel_rfl) rfl) (con_en w20 Al cl l hSl_23.old hbn) ?_
   rintro _ w34 ⟨rfl, hF33⟩
   refine ⟨_, rfl, fun a h35 => ?_⟩
   have hsw34 := hF33.size
   have hF_36 := hF_22.new hF33
   refine V.re h35 [] 1 0 [(12, .bool (bP (¬ AllG (gO l) l.length)))] fun a h38 => k17 _ _ ?_
   refine V.cb h38 (bP (¬ AllG (gO l) l.length)) (fun ht39 => ?_) (fun ht39 => ?_)
   ·
    refine V.sr h38 [] 1 0 [(2, .int .i64 90)] fun a h42 => ?_
    refine V.ret (V.then_r ?_)
    refine V.r1 h42 (.int .i64 90) ?_
    exact ⟨congrArg (fun b => Ending.returned (Value.int .i64 b)) (imgN_no (by omega) fun hg => by first | (have h1 := (bP_yes (gE_iff.1 hg).1).symm; have hq := hg25; rw [h1] at hq; simp at hq; done) | (have h2 := nbP.2 (gE_iff.1 hg).2; have hq := ht39; rw [hq] at h2; simp at h2)).symm, hF_36⟩
   ·
    refine V.skip ?_
    refine V.then_n (k15 _ _ ?_)
    refine V.sr h38 [] 1 0 [(2, .int .i64 0)] fun a h45 => ?_
    refine V.ret ?_
    refine V.r1 h45 (.int .i64 0) ?_
    exact ⟨congrArg (fun b => Ending.returned (Value.int .i64 b)) (imgN_ok (by omega) (gE_iff.2 ⟨bP_of (by have hq := hg25; simpa using hq), nbP.1 (by have hq := ht39; simpa using hq)⟩)).symm, hF_36⟩
theorem info107 : (Tryz.prog.info? 107).map (fun i => (i.zero, i.size, i.bytes)) = some (some (.agg #[.string ⟨#[]⟩, .int .i64 0]), 2, 24) := by kernel_rfl
theorem info110 : (Tryz.prog.info? 110).map (fun i => (i.zero, i.size, i.bytes)) = some (some (.agg #[.string ⟨#[]⟩, .string ⟨#[]⟩]), 2, 32) := by kernel_rfl
theorem clone_str (w : World) (ad : Addr) (c : Nat) (l : List ByteArray) (hS : SlR Rp.str (fun k => k < w.heap.size) w (.slice (some ad) l.length c) l) (hl : l.length ≤ 1099511627776) : Calls Tryz.prog 66 #[.slice (some ad) l.length c] w (fun e w' => ∃ A' c', e = .returned (.slice A' l.length c') ∧ OwR Rp.str NoZ w' w.heap.size 9 (.slice A' l.length c') l ∧ Fr [] w w') := by
 have hF := Fr.refl [] w
 refine V.en 8 Tryz.func66 fun a h1 => ?_
 refine V.sr h1 [] 2 2 [] fun a h4 => ?_
 refine V.seq fun K5 k6 => ?_
 refine V.sr h4 [] 3 3 [(4, .bool false)] fun a h9 => ?_
 refine V.cf h9 ?_
 refine V.skip ?_
 refine V.then_n (k6 _ _ ?_)
 refine V.sg fun K10 k11 => ?_
 refine V.go (V.mk [] trivial (by kernel_rfl) [] 9 (fun b => .slice (some ⟨b, 0, none⟩) 0 0) (by kernel_rfl) ?_)
 intro w13 b12 heb12 hB14 hF15 hsb12
 have hF_16 := hF.new hF15
 have hS_17 := hS.fr0 hF15
 refine V.pt h9 fun a h18 => ?_
 have hO19 := OwR.empty (R := Rp.str) (base := b12) hB14 (Nat.le_refl _)
 refine V.run h18 [] 1 1 0 [(6, .slice (some ad) l.length c)] fun a h25 => ?_
 refine V.go (V.appS (R := Rp.str) (h25.e (v := (.slice (some ⟨b12, 0, none⟩) 0 0))) (h25.e (v := (.slice (some ad) l.length c))) (by kernel_rfl) info9 (by kernel_rfl) (by decide) hO19 hS_17 (fun _ _ h => h) (by (try simp only [List.length_nil]); omega) (by decide) (by omega) ?_)
 intro A20 c21 w22 hO23 hF24
 have hsw22 := hF24.size
 have hF_26 := hF_16.own hF24 (own_ge hO19 (by omega))
 refine V.pt h25 fun a h28 => ?_
 refine V.re h28 [] 1 0 [(2, .slice A20 ((([] : List ByteArray)).length + (l).length) c21)] fun a h29 => k11 _ _ ?_
 refine V.ret ?_
 refine V.r1 h29 (.slice A20 ((([] : List ByteArray)).length + (l).length) c21) ?_
 have hq := hO23.rebase (base' := w.heap.size) (by omega)
 simp only [List.nil_append, List.length_nil, Nat.zero_add] at hq ⊢
 exact ⟨_, _, rfl, hq, hF_26⟩
theorem clonen_str (w : World) (c : Nat) : Calls Tryz.prog 66 #[.slice none 0 c] w (fun e w' => e = .returned (.slice none 0 0) ∧ Fr [] w w') := by
 have hF := Fr.refl [] w
 refine V.en 8 Tryz.func66 fun a h1 => ?_
 refine V.sr h1 [] 2 2 [] fun a h4 => ?_
 refine V.seq fun K5 k6 => ?_
 refine V.sr h4 [] 3 3 [(4, .bool true)] fun a h9 => ?_
 refine V.ct h9 ?_
 refine V.sr h9 [] 1 0 [(2, .slice none 0 0)] fun a h12 => ?_
 refine V.ret (V.then_r ?_)
 refine V.r1 h12 (.slice none 0 0) ?_
 exact ⟨rfl, hF⟩
theorem clone_sc (w : World) (ad : Addr) (c : Nat) (l : List (ByteArray × Int)) (hS : SlR scR (fun k => k < w.heap.size) w (.slice (some ad) l.length c) l) (hl : l.length ≤ 1099511627776) : Calls Tryz.prog 67 #[.slice (some ad) l.length c] w (fun e w' => ∃ A' c', e = .returned (.slice A' l.length c') ∧ OwR scR NoZ w' w.heap.size 107 (.slice A' l.length c') l ∧ Fr [] w w') := by
 have hF := Fr.refl [] w
 refine V.en 8 Tryz.func67 fun a h1 => ?_
 refine V.sr h1 [] 2 2 [] fun a h4 => ?_
 refine V.seq fun K5 k6 => ?_
 refine V.sr h4 [] 3 3 [(4, .bool false)] fun a h9 => ?_
 refine V.cf h9 ?_
 refine V.skip ?_
 refine V.then_n (k6 _ _ ?_)
 refine V.sg fun K10 k11 => ?_
 refine V.go (V.mk [] trivial (by kernel_rfl) [] 107 (fun b => .slice (some ⟨b, 0, none⟩) 0 0) (by kernel_rfl) ?_)
 intro w13 b12 heb12 hB14 hF15 hsb12
 have hF_16 := hF.new hF15
 have hS_17 := hS.fr0 hF15
 refine V.pt h9 fun a h18 => ?_
 have hO19 := OwR.empty (R := scR) (base := b12) hB14 (Nat.le_refl _)
 refine V.run h18 [] 1 1 0 [(6, .slice (some ad) l.length c)] fun a h25 => ?_
 refine V.go (V.appS (R := scR) (h25.e (v := (.slice (some ⟨b12, 0, none⟩) 0 0))) (h25.e (v := (.slice (some ad) l.length c))) (by kernel_rfl) info107 (by kernel_rfl) (by decide) hO19 hS_17 (fun _ _ h => h) (by (try simp only [List.length_nil]); omega) (by decide) (by omega) ?_)
 intro A20 c21 w22 hO23 hF24
 have hsw22 := hF24.size
 have hF_26 := hF_16.own hF24 (own_ge hO19 (by omega))
 refine V.pt h25 fun a h28 => ?_
 refine V.re h28 [] 1 0 [(2, .slice A20 ((([] : List (ByteArray × Int))).length + (l).length) c21)] fun a h29 => k11 _ _ ?_
 refine V.ret ?_
 refine V.r1 h29 (.slice A20 ((([] : List (ByteArray × Int))).length + (l).length) c21) ?_
 have hq := hO23.rebase (base' := w.heap.size) (by omega)
 simp only [List.nil_append, List.length_nil, Nat.zero_add] at hq ⊢
 exact ⟨_, _, rfl, hq, hF_26⟩
theorem clonen_sc (w : World) (c : Nat) : Calls Tryz.prog 67 #[.slice none 0 c] w (fun e w' => e = .returned (.slice none 0 0) ∧ Fr [] w w') := by
 have hF := Fr.refl [] w
 refine V.en 8 Tryz.func67 fun a h1 => ?_
 refine V.sr h1 [] 2 2 [] fun a h4 => ?_
 refine V.seq fun K5 k6 => ?_
 refine V.sr h4 [] 3 3 [(4, .bool true)] fun a h9 => ?_
 refine V.ct h9 ?_
 refine V.sr h9 [] 1 0 [(2, .slice none 0 0)] fun a h12 => ?_
 refine V.ret (V.then_r ?_)
 refine V.r1 h12 (.slice none 0 0) ?_
 exact ⟨rfl, hF⟩
theorem clone_fd (w : World) (ad : Addr) (c : Nat) (l : List (ByteArray × ByteArray)) (hS : SlR fdR (fun k => k < w.heap.size) w (.slice (some ad) l.length c) l) (hl : l.length ≤ 1099511627776) : Calls Tryz.prog 68 #[.slice (some ad) l.length c] w (fun e w' => ∃ A' c', e = .returned (.slice A' l.length c') ∧ OwR fdR NoZ w' w.heap.size 110 (.slice A' l.length c') l ∧ Fr [] w w') := by
 have hF := Fr.refl [] w
 refine V.en 8 Tryz.func68 fun a h1 => ?_
 refine V.sr h1 [] 2 2 [] fun a h4 => ?_
 refine V.seq fun K5 k6 => ?_
 refine V.sr h4 [] 3 3 [(4, .bool false)] fun a h9 => ?_
 refine V.cf h9 ?_
 refine V.skip ?_
 refine V.then_n (k6 _ _ ?_)
 refine V.sg fun K10 k11 => ?_
 refine V.go (V.mk [] trivial (by kernel_rfl) [] 110 (fun b => .slice (some ⟨b, 0, none⟩) 0 0) (by kernel_rfl) ?_)
 intro w13 b12 heb12 hB14 hF15 hsb12
 have hF_16 := hF.new hF15
 have hS_17 := hS.fr0 hF15
 refine V.pt h9 fun a h18 => ?_
 have hO19 := OwR.empty (R := fdR) (base := b12) hB14 (Nat.le_refl _)
 refine V.run h18 [] 1 1 0 [(6, .slice (some ad) l.length c)] fun a h25 => ?_
 refine V.go (V.appS (R := fdR) (h25.e (v := (.slice (some ⟨b12, 0, none⟩) 0 0))) (h25.e (v := (.slice (some ad) l.length c))) (by kernel_rfl) info110 (by kernel_rfl) (by decide) hO19 hS_17 (fun _ _ h => h) (by (try simp only [List.length_nil]); omega) (by decide) (by omega) ?_)
 intro A20 c21 w22 hO23 hF24
 have hsw22 := hF24.size
 have hF_26 := hF_16.own hF24 (own_ge hO19 (by omega))
 refine V.pt h25 fun a h28 => ?_
 refine V.re h28 [] 1 0 [(2, .slice A20 ((([] : List (ByteArray × ByteArray))).length + (l).length) c21)] fun a h29 => k11 _ _ ?_
 refine V.ret ?_
 refine V.r1 h29 (.slice A20 ((([] : List (ByteArray × ByteArray))).length + (l).length) c21) ?_
 have hq := hO23.rebase (base' := w.heap.size) (by omega)
 simp only [List.nil_append, List.length_nil, Nat.zero_add] at hq ⊢
 exact ⟨_, _, rfl, hq, hF_26⟩
theorem clonen_fd (w : World) (c : Nat) : Calls Tryz.prog 68 #[.slice none 0 c] w (fun e w' => e = .returned (.slice none 0 0) ∧ Fr [] w w') := by
 have hF := Fr.refl [] w
 refine V.en 8 Tryz.func68 fun a h1 => ?_
 refine V.sr h1 [] 2 2 [] fun a h4 => ?_
 refine V.seq fun K5 k6 => ?_
 refine V.sr h4 [] 3 3 [(4, .bool true)] fun a h9 => ?_
 refine V.ct h9 ?_
 refine V.sr h9 [] 1 0 [(2, .slice none 0 0)] fun a h12 => ?_
 refine V.ret (V.then_r ?_)
 refine V.r1 h12 (.slice none 0 0) ?_
 exact ⟨rfl, hF⟩
/-- Three rows that share no block. -/
def Dis3 (a b c : Value) : Prop := (∀ k, a.ownBlock = some k → b.ownBlock ≠ some k) ∧ (∀ k, a.ownBlock = some k → c.ownBlock ≠ some k) ∧ (∀ k, b.ownBlock = some k → c.ownBlock ≠ some k)
theorem Dis3.nil {m n : Nat} (c : Value) {k l : Nat} : Dis3 (.slice none m n) (.slice none k l) c := ⟨fun _ h => (by cases h), fun _ h => (by cases h), fun _ h => (by cases h)⟩
theorem cl_str (w : World) (A : Option Addr) (c : Nat) (l : List ByteArray) (hS : SlR Rp.str (fun k => k < w.heap.size) w (.slice A l.length c) l) (hl : l.length ≤ 1099511627776) :
    Calls Tryz.prog 66 #[.slice A l.length c] w (fun e w' => ∃ A' c', e = .returned (.slice A' l.length c') ∧ OwR Rp.str NoZ w' w.heap.size 9 (.slice A' l.length c') l ∧ Fr [] w w') := by
  cases A with
  | none =>
    have hl0 : l = [] := by
      cases l with
      | nil => rfl
      | cons x l => obtain ⟨g, o, h, _⟩ := hS.addr (by simp); cases h
    subst hl0
    exact (clonen_str w c).mono fun e w' ⟨h1, h2⟩ => ⟨none, 0, h1, OwR.nil .., h2⟩
  | some ad => exact clone_str w ad c l hS hl
theorem cl_sc (w : World) (A : Option Addr) (c : Nat) (l : List (ByteArray × Int)) (hS : SlR scR (fun k => k < w.heap.size) w (.slice A l.length c) l) (hl : l.length ≤ 1099511627776) :
    Calls Tryz.prog 67 #[.slice A l.length c] w (fun e w' => ∃ A' c', e = .returned (.slice A' l.length c') ∧ OwR scR NoZ w' w.heap.size 107 (.slice A' l.length c') l ∧ Fr [] w w') := by
  cases A with
  | none =>
    have hl0 : l = [] := by
      cases l with
      | nil => rfl
      | cons x l => obtain ⟨g, o, h, _⟩ := hS.addr (by simp); cases h
    subst hl0
    exact (clonen_sc w c).mono fun e w' ⟨h1, h2⟩ => ⟨none, 0, h1, OwR.nil .., h2⟩
  | some ad => exact clone_sc w ad c l hS hl
theorem cl_fd (w : World) (A : Option Addr) (c : Nat) (l : List (ByteArray × ByteArray)) (hS : SlR fdR (fun k => k < w.heap.size) w (.slice A l.length c) l) (hl : l.length ≤ 1099511627776) :
    Calls Tryz.prog 68 #[.slice A l.length c] w (fun e w' => ∃ A' c', e = .returned (.slice A' l.length c') ∧ OwR fdR NoZ w' w.heap.size 110 (.slice A' l.length c') l ∧ Fr [] w w') := by
  cases A with
  | none =>
    have hl0 : l = [] := by
      cases l with
      | nil => rfl
      | cons x l => obtain ⟨g, o, h, _⟩ := hS.addr (by simp); cases h
    subst hl0
    exact (clonen_fd w c).mono fun e w' ⟨h1, h2⟩ => ⟨none, 0, h1, OwR.nil .., h2⟩
  | some ad => exact clone_fd w ad c l hS hl
theorem copied_any (w : World) (k : Int) (s : ByteArray) (Al : Option Addr) (cl : Nat) (l : List ByteArray) (hSl : SlR Rp.str (fun k => k < w.heap.size) w (.slice Al l.length cl) l) (Az : Option Addr) (cz : Nat) (z : List (ByteArray × Int)) (hSz : SlR scR (fun k => k < w.heap.size) w (.slice Az z.length cz) z) (Ah : Option Addr) (ch : Nat) (h : List (ByteArray × ByteArray)) (hSh : SlR fdR (fun k => k < w.heap.size) w (.slice Ah h.length ch) h) (hll : l.length ≤ 1099511627776) (hlz : z.length ≤ 1099511627776) (hlh : h.length ≤ 1099511627776) : Calls Tryz.prog 33 #[.agg #[.int .i64 k, .string s, .slice Al l.length cl, .slice Az z.length cz, .slice Ah h.length ch]] w (fun e w' => ∃ Al' cl' Az' cz' Ah' ch', e = .returned (.agg #[.int .i64 k, .string s, .slice Al' l.length cl', .slice Az' z.length cz', .slice Ah' h.length ch']) ∧ OwR Rp.str NoZ w' w.heap.size 9 (.slice Al' l.length cl') l ∧ OwR scR NoZ w' w.heap.size 107 (.slice Az' z.length cz') z ∧ OwR fdR NoZ w' w.heap.size 110 (.slice Ah' h.length ch') h ∧ Dis3 (.slice Al' l.length cl') (.slice Az' z.length cz') (.slice Ah' h.length ch') ∧ Fr [] w w') := by
 have hF := Fr.refl [] w
 refine V.en 16 Tryz.func33 fun a h1 => ?_
 refine V.sg fun K2 k3 => ?_
 refine V.go (V.mk [(0, .agg #[.int .i64 k, .string s, .slice Al l.length cl, .slice Az z.length cz, .slice Ah h.length ch])] ⟨h1.e, trivial⟩ (by kernel_rfl) [.int .i64 k, .string s, .slice Al l.length cl, .slice Az z.length cz, .slice Ah h.length ch] 37 (fun b => .pointer (some ⟨b, 0, none⟩)) (by kernel_rfl) ?_)
 intro w5 b4 heb4 hB6 hF7 hsb4
 have hF_8 := hF.new hF7
 have hSl_9 := hSl.fr0 hF7
 have hSz_10 := hSz.fr0 hF7
 have hSh_11 := hSh.fr0 hF7
 refine V.pt h1 fun a h12 => ?_
 refine V.go (V.mk [] trivial (by kernel_rfl) [.int .i64 0, .string ⟨#[]⟩, .slice none 0 0, .slice none 0 0, .slice none 0 0] 37 (fun b => .pointer (some ⟨b, 0, none⟩)) (by kernel_rfl) ?_)
 intro w14 b13 heb13 hB15 hF16 hsb13
 have hF_17 := hF_8.new hF16
 have hSl_18 := hSl_9.fr0 hF16
 have hSz_19 := hSz_10.fr0 hF16
 have hSh_20 := hSh_11.fr0 hF16
 have hB6_21 := hB6.fr0 hF16
 refine V.pt h12 fun a h22 => ?_
 refine V.nt (k3 _ _ ?_)
 refine V.seq fun K23 k24 => ?_
 refine V.pl [([0,1,3,4,6,7],some (2,[4,7])),([9],some (5,[7])),([],some (8,[])),([],some (10,[])),([11],some (12,[])),([13],some (14,[])),([],none)] fun w25 hF26 hsw25 => ?_
 have hF_27 := hF_17.new hF26
 have hSl_28 := hSl_18.fr0 hF26
 have hSz_29 := hSz_19.fr0 hF26
 have hSh_30 := hSh_20.fr0 hF26
 have hB6_31 := hB6_21.fr0 hF26
 have hB15_32 := hB15.fr0 hF26
 refine V.pe h22 [(1, .b hB6_31 2), (1, .b hB6_31 3), (1, .b hB6_31 4)] 3 3 [(4, .slice Al l.length cl), (6, .pointer (some ⟨b4, 3, none⟩)), (7, .slice Az z.length cz), (9, .pointer (some ⟨b4, 4, none⟩)), (10, .slice Ah h.length ch)] fun a h33 => ?_
 refine V.cl h33 (Go.Proofs.enters_of Tryz.func66 (by kernel_rfl) rfl) (cl_str w25 Al cl l hSl_28.old (by omega)) ?_
 rintro _ w39 ⟨A34, c35, rfl, hO36, hF37⟩
 refine ⟨_, rfl, fun a h40 => ?_⟩
 have hsw39 := hF37.size
 have hF_41 := hF_27.new hF37
 have hSz_43 := hSz_29.fr0 hF37
 have hSh_44 := hSh_30.fr0 hF37
 have hB6_45 := hB6_31.fr0 hF37
 have hB15_46 := hB15_32.fr0 hF37
 have hl38 := hO36.lt
 refine V.eh ⟨(fun _ => held_blk (n := 1) (hx := (h33.e (v := (.pointer (some ⟨b4, 3, none⟩))))) hB6_31 hB6_45 (by kernel_rfl) rfl (by simp only [List.length]; omega)), (fun _ => held_blk (n := 1) (hx := (h33.e (v := (.pointer (some ⟨b4, 4, none⟩))))) hB6_31 hB6_45 (by kernel_rfl) rfl (by simp only [List.length]; omega))⟩ ?_
 refine V.pe h40 [] 1 0 [(12, .pointer (some ⟨b4, 2, none⟩))] fun a h47 => ?_
 refine V.cl h47 (Go.Proofs.enters_of Tryz.func67 (by kernel_rfl) rfl) (cl_sc w39 Az cz z hSz_43.old (by omega)) ?_
 rintro _ w53 ⟨A48, c49, rfl, hO50, hF51⟩
 refine ⟨_, rfl, fun a h54 => ?_⟩
 have hsw53 := hF51.size
 have hF_55 := hF_41.new hF51
 have hSh_58 := hSh_44.fr0 hF51
 have hB6_59 := hB6_45.fr0 hF51
 have hB15_60 := hB15_46.fr0 hF51
 have hO36_61 := hO36.fr0 hF51
 have hl52 := hO50.lt
 refine V.eh (fun _ => held_blk (n := 1) (hx := (h47.e (v := (.pointer (some ⟨b4, 4, none⟩))))) hB6_45 hB6_59 (by kernel_rfl) rfl (by simp only [List.length]; omega)) ?_
 refine V.pe h54 [] 1 0 [] fun a h62 => ?_
 refine V.cl h62 (Go.Proofs.enters_of Tryz.func68 (by kernel_rfl) rfl) (cl_fd w53 Ah ch h hSh_58.old (by omega)) ?_
 rintro _ w68 ⟨A63, c64, rfl, hO65, hF66⟩
 refine ⟨_, rfl, fun a h69 => ?_⟩
 have hsw68 := hF66.size
 have hF_70 := hF_55.new hF66
 have hB6_74 := hB6_59.fr0 hF66
 have hB15_75 := hB15_60.fr0 hF66
 have hO36_76 := hO36_61.fr0 hF66
 have hO50_77 := hO50.fr0 hF66
 have hl67 := hO65.lt
 refine V.eh trivial ?_
 refine V.pe h69 [] 1 0 [] fun a h78 => ?_
 refine V.go (V.stn b4 2 (.slice A34 l.length c35) [.slice A34 l.length c35] h78.e h78.e rfl rfl (by kernel_rfl) hB6_74 (by simp) [.int .i64 k, .string s, .slice A34 l.length c35, .slice Az z.length cz, .slice Ah h.length ch] rfl ?_)
 intro w79 hB80 hF81 hsw79
 have hF_82 := hF_70.own hF81 (by simp <;> omega)
 have hB15_86 := hB15_75.fr1 hF81 (by omega)
 have hO36_87 := hO36_76.frn hF81 (fun h => h) (fun e => by have := hl38 _ e; omega)
 have hO50_88 := hO50_77.frn hF81 (fun h => h) (fun e => by have := hl52 _ e; omega)
 have hO65_89 := hO65.frn hF81 (fun h => h) (fun e => by have := hl67 _ e; omega)
 refine V.eh trivial ?_
 refine V.pe h78 [] 1 0 [(13, .pointer (some ⟨b4, 3, none⟩))] fun a h90 => ?_
 refine V.go (V.stn b4 3 (.slice A48 z.length c49) [.slice A48 z.length c49] h90.e h90.e rfl rfl (by kernel_rfl) hB80 (by simp) [.int .i64 k, .string s, .slice A34 l.length c35, .slice A48 z.length c49, .slice Ah h.length ch] rfl ?_)
 intro w91 hB92 hF93 hsw91
 have hF_94 := hF_82.own hF93 (by simp <;> omega)
 have hB15_98 := hB15_86.fr1 hF93 (by omega)
 have hO36_99 := hO36_87.frn hF93 (fun h => h) (fun e => by have := hl38 _ e; omega)
 have hO50_100 := hO50_88.frn hF93 (fun h => h) (fun e => by have := hl52 _ e; omega)
 have hO65_101 := hO65_89.frn hF93 (fun h => h) (fun e => by have := hl67 _ e; omega)
 refine V.eh trivial ?_
 refine V.pe h90 [] 1 0 [(14, .pointer (some ⟨b4, 4, none⟩))] fun a h102 => ?_
 refine V.go (V.stn b4 4 (.slice A63 h.length c64) [.slice A63 h.length c64] h102.e h102.e rfl rfl (by kernel_rfl) hB92 (by simp) [.int .i64 k, .string s, .slice A34 l.length c35, .slice A48 z.length c49, .slice A63 h.length c64] rfl ?_)
 intro w103 hB104 hF105 hsw103
 have hF_106 := hF_94.own hF105 (by simp <;> omega)
 have hB15_110 := hB15_98.fr1 hF105 (by omega)
 have hO36_111 := hO36_99.frn hF105 (fun h => h) (fun e => by have := hl38 _ e; omega)
 have hO50_112 := hO50_100.frn hF105 (fun h => h) (fun e => by have := hl52 _ e; omega)
 have hO65_113 := hO65_101.frn hF105 (fun h => h) (fun e => by have := hl67 _ e; omega)
 refine V.eh trivial ?_
 refine V.pz h102 [] 1 0 [] fun a h114 => k24 _ _ ?_
 refine V.sg fun K115 k116 => ?_
 refine V.run h114 [(0, .bs hB104 0 [.int .i64 k, .string s, .slice A34 l.length c35, .slice A48 z.length c49, .slice A63 h.length c64])] 1 1 0 [(15, .agg #[.int .i64 k, .string s, .slice A34 l.length c35, .slice A48 z.length c49, .slice A63 h.length c64])] fun a h120 => ?_
 refine V.go (V.stn b13 0 (.agg #[.int .i64 k, .string s, .slice A34 l.length c35, .slice A48 z.length c49, .slice A63 h.length c64]) [.int .i64 k, .string s, .slice A34 l.length c35, .slice A48 z.length c49, .slice A63 h.length c64] h120.e h120.e rfl rfl (by kernel_rfl) hB15_110 (by simp) [.int .i64 k, .string s, .slice A34 l.length c35, .slice A48 z.length c49, .slice A63 h.length c64] rfl ?_)
 intro w117 hB118 hF119 hsw117
 have hF_121 := hF_106.own hF119 (by simp <;> omega)
 have hO36_125 := hO36_111.frn hF119 (fun h => h) (fun e => by have := hl38 _ e; omega)
 have hO50_126 := hO50_112.frn hF119 (fun h => h) (fun e => by have := hl52 _ e; omega)
 have hO65_127 := hO65_113.frn hF119 (fun h => h) (fun e => by have := hl67 _ e; omega)
 refine V.nt (k116 _ _ ?_)
 refine V.ret ?_
 refine V.retC h120.sd rfl _ (h120.e (v := (.pointer (some ⟨b13, 0, none⟩)))) (V.run_loadVar_agg (cs := [.int .i64 k, .string s, .slice A34 l.length c35, .slice A48 z.length c49, .slice A63 h.length c64]) (by kernel_rfl) (blk_cells hB118 0 _ rfl)) ?_
 exact ⟨_, _, _, _, _, _, rfl, hO36_125.rebase (base' := w.heap.size) (by omega), hO50_126.rebase (base' := w.heap.size) (by omega), hO65_127.rebase (base' := w.heap.size) (by omega), ⟨fun b h1 h2 => by have q1 := hl38 b h1; have q2 := hl52 b h2; omega, fun b h1 h2 => by have q1 := hl38 b h1; have q2 := hl67 b h2; omega, fun b h1 h2 => by have q1 := hl52 b h1; have q2 := hl67 b h2; omega⟩, hF_121⟩
end Go.Proofs.YtjkegckfncfoaaaGreat
end
section
namespace Go.V
open Go.Plan (wpL)
open Go.RowKit Go.Base
set_option linter.unusedVariables false
set_option linter.unusedSimpArgs false
theorem hss (s s' : ByteArray) : (s.toList == s'.toList) = decide (s = s') := by
  rw [Bool.eq_iff_iff, beq_iff_eq, decide_eq_true_eq]
  exact ⟨fun h => by have := congrArg Value.bool (show (s.toList == s'.toList) = true by rw [h]; exact beq_self_eq_true _); rw [t_seql] at this; injection this with this; exact of_decide_eq_true this, fun h => by rw [h]⟩
section
variable {P : Program}
def strU (P : Program) (t : TypeId) : Bool := match P.underlying t with
  | some .string => true
  | _ => false
/-- A struct of a text and a number. -/
def aggSS (P : Program) (t : TypeId) : Bool := match P.underlying t with
  | some (.struct fs) => (match fs.toList with
    | [f0, f1] => f0.name != "_" && scalar P f0.type && strU P f0.type && f0.offset == 0 && (f1.name != "_" && scalar P f1.type && strU P f1.type && f1.offset == 1)
    | _ => false) && !P.stoodInHeld t && !P.eqGuardType P.depth t
  | _ => false
theorem equalIn_SS {t : TypeId} {s s' : ByteArray} {n n' : ByteArray} {w : World} (h : aggSS P t = true) :
    (Op.equalIn 10000 t (.agg #[.string s, .string n]) (.agg #[.string s', .string n'])).run P w = .ok (decide (s = s' ∧ n = n')) w ∧ P.eqGuardType P.depth t = false := by
  unfold aggSS at h
  split at h
  · rename_i fs hu
    simp only [Bool.and_eq_true, Bool.not_eq_true'] at h
    obtain ⟨⟨h1, h2⟩, h3⟩ := h
    refine ⟨?_, h3⟩
    split at h1
    · rename_i f0 f1 hfs
      simp only [Bool.and_eq_true, bne_iff_ne, beq_iff_eq] at h1
      obtain ⟨⟨⟨⟨a1, a2⟩, a3⟩, a4⟩, ⟨⟨b1, b2⟩, b3⟩, b4⟩ := h1
      have hfo : P.fieldsOf t = fs := by unfold Program.fieldsOf; rw [hu]
      have hs : P.underlying f0.type = some .string := by unfold strU at a3; split at a3 <;> first | assumption | cases a3
      have hk : P.underlying f1.type = some .string := by unfold strU at b3; split at b3 <;> first | assumption | cases b3
      have e0 : (#[Value.string s, .string n] : Array Value)[0]? = some (.string s) := rfl
      have e0' : (#[Value.string s', .string n'] : Array Value)[0]? = some (.string s') := rfl
      have e1 : (#[Value.string s, .string n] : Array Value)[1]? = some (.string n) := rfl
      have e1' : (#[Value.string s', .string n'] : Array Value)[1]? = some (.string n') := rfl
      rw [show (10000 : Nat) = 9998 + 1 + 1 from rfl, run_equalIn_agg w (9998 + 1) t _ _ (by rw [hfo]; exact hu) h2, hfo, hfs]
      simp only [Op.eqFields]
      rw [if_pos a1, Sem.run_bind, a4, run_part a2 e0]
      simp only [Result.andThen_ok]
      rw [Sem.run_bind, run_part a2 e0']
      simp only [Result.andThen_ok]
      rw [Sem.run_bind, run_equalIn_string w 9998 f0.type _ _ hs]
      simp only [Result.andThen_ok, hss s s']
      by_cases hq : s = s'
      · rw [decide_eq_true hq, Bool.not_true, if_neg (by decide), if_pos b1, Sem.run_bind, b4, run_part b2 e1]
        simp only [Result.andThen_ok]
        rw [Sem.run_bind, run_part b2 e1']
        simp only [Result.andThen_ok]
        rw [Sem.run_bind, run_equalIn_string w 9998 f1.type _ _ hk]
        simp only [Result.andThen_ok, hss n n']
        by_cases hn : n = n'
        · rw [decide_eq_true hn, Bool.not_true, if_neg (by decide), decide_eq_true ⟨hq, hn⟩]; rfl
        · rw [decide_eq_false hn, Bool.not_false, if_pos rfl, decide_eq_false (fun h => hn h.2)]; rfl
      · rw [decide_eq_false hq, Bool.not_false, if_pos rfl, decide_eq_false (fun h => hq h.1)]; rfl
    · cases h1
  · cases h
end
section
variable {P : Program} {ro : Option Nat} {Q : Exit → Act → World → Prop} {a : Act} {w : World} {ops : Array Oper} {rest : List Oper} {d : Option Tmp} {ty : TypeId} {pos : String} {aft : Array Edge} {g : Option (Nat × Bool)}
theorem neqSS {t t' : TypeId} {x y : Operand} (s s' n n' : ByteArray) (hx : a.eval x = .agg #[.string s, .string n]) (hy : a.eval y = .agg #[.string s', .string n']) (h : aggSS P t = true)
    (kk : L ro P ops Q rest (a.put d (.bool (decide (¬ (s = s' ∧ n = n'))))) w) : St ro P ops Q rest ⟨d, .binOp .neq t x y t', ty, pos, aft, g⟩ a w := by
  obtain ⟨h1, h2⟩ := equalIn_SS (s := s) (s' := s') (n := n) (n' := n') (w := w) h
  refine St.val (v := .bool (decide (¬ (s = s' ∧ n = n')))) (w' := w) ?_ kk
  simp only [execOp, hx, hy]
  rw [Sem.run_bind, Sem.run_bind, run_eqGuard_agg w .neq t x y _ _ h2]
  simp only [Result.andThen_ok]
  rw [run_neq_struct, h1]
  simp [Result.andThen, Sem.run_pure]
end
section
variable {P : Program}
def strT (P : Program) (t : TypeId) : Bool := match P.underlying t with
  | some .string => true
  | _ => false
/-- A struct of a text and a number. -/
def aggSI (P : Program) (t : TypeId) : Bool := match P.underlying t with
  | some (.struct fs) => (match fs.toList with
    | [f0, f1] => f0.name != "_" && scalar P f0.type && strT P f0.type && f0.offset == 0 && (f1.name != "_" && scalar P f1.type && intT P f1.type && f1.offset == 1)
    | _ => false) && !P.stoodInHeld t && !P.eqGuardType P.depth t
  | _ => false
theorem equalIn_SI {t : TypeId} {s s' : ByteArray} {n n' : Int} {k : IntKind} {w : World} (h : aggSI P t = true) :
    (Op.equalIn 10000 t (.agg #[.string s, .int k n]) (.agg #[.string s', .int k n'])).run P w = .ok (decide (s = s' ∧ n = n')) w ∧ P.eqGuardType P.depth t = false := by
  unfold aggSI at h
  split at h
  · rename_i fs hu
    simp only [Bool.and_eq_true, Bool.not_eq_true'] at h
    obtain ⟨⟨h1, h2⟩, h3⟩ := h
    refine ⟨?_, h3⟩
    split at h1
    · rename_i f0 f1 hfs
      simp only [Bool.and_eq_true, bne_iff_ne, beq_iff_eq] at h1
      obtain ⟨⟨⟨⟨a1, a2⟩, a3⟩, a4⟩, ⟨⟨b1, b2⟩, b3⟩, b4⟩ := h1
      have hfo : P.fieldsOf t = fs := by unfold Program.fieldsOf; rw [hu]
      have hs : P.underlying f0.type = some .string := by unfold strT at a3; split at a3 <;> first | assumption | cases a3
      obtain ⟨k', hk⟩ : ∃ k', P.underlying f1.type = some (.int k') := by unfold intT at b3; split at b3 <;> first | exact ⟨_, ‹_›⟩ | cases b3
      have e0 : (#[Value.string s, .int k n] : Array Value)[0]? = some (.string s) := rfl
      have e0' : (#[Value.string s', .int k n'] : Array Value)[0]? = some (.string s') := rfl
      have e1 : (#[Value.string s, .int k n] : Array Value)[1]? = some (.int k n) := rfl
      have e1' : (#[Value.string s', .int k n'] : Array Value)[1]? = some (.int k n') := rfl
      have hss : (s.toList == s'.toList) = decide (s = s') := by
        rw [Bool.eq_iff_iff, beq_iff_eq, decide_eq_true_eq]
        exact ⟨fun h => by have := congrArg Value.bool (show (s.toList == s'.toList) = true by rw [h]; exact beq_self_eq_true _); rw [t_seql] at this; injection this with this; exact of_decide_eq_true this, fun h => by rw [h]⟩
      rw [show (10000 : Nat) = 9998 + 1 + 1 from rfl, run_equalIn_agg w (9998 + 1) t _ _ (by rw [hfo]; exact hu) h2, hfo, hfs]
      simp only [Op.eqFields]
      rw [if_pos a1, Sem.run_bind, a4, run_part a2 e0]
      simp only [Result.andThen_ok]
      rw [Sem.run_bind, run_part a2 e0']
      simp only [Result.andThen_ok]
      rw [Sem.run_bind, run_equalIn_string w 9998 f0.type _ _ hs]
      simp only [Result.andThen_ok, hss]
      by_cases hq : s = s'
      · rw [decide_eq_true hq, Bool.not_true, if_neg (by decide), if_pos b1, Sem.run_bind, b4, run_part b2 e1]
        simp only [Result.andThen_ok]
        rw [Sem.run_bind, run_part b2 e1']
        simp only [Result.andThen_ok]
        rw [Sem.run_bind, run_equalIn_int w 9998 f1.type k k' _ _ hk]
        simp only [Result.andThen_ok]
        by_cases hn : n = n'
        · rw [hn, beq_self_eq_true, Bool.not_true, if_neg (by decide), decide_eq_true ⟨hq, rfl⟩]; rfl
        · rw [show (n == n') = false from by simpa using hn, Bool.not_false, if_pos rfl, decide_eq_false (fun h => hn h.2)]; rfl
      · rw [decide_eq_false hq, Bool.not_false, if_pos rfl, decide_eq_false (fun h => hq h.1)]; rfl
    · cases h1
  · cases h
end
section
variable {P : Program} {ro : Option Nat} {Q : Exit → Act → World → Prop} {a : Act} {w : World} {ops : Array Oper} {rest : List Oper} {d : Option Tmp} {ty : TypeId} {pos : String} {aft : Array Edge} {g : Option (Nat × Bool)}
theorem neqSI {t t' : TypeId} {x y : Operand} (k : IntKind) (s s' : ByteArray) (n n' : Int) (hx : a.eval x = .agg #[.string s, .int k n]) (hy : a.eval y = .agg #[.string s', .int k n']) (h : aggSI P t = true)
    (kk : L ro P ops Q rest (a.put d (.bool (decide (¬ (s = s' ∧ n = n'))))) w) : St ro P ops Q rest ⟨d, .binOp .neq t x y t', ty, pos, aft, g⟩ a w := by
  obtain ⟨h1, h2⟩ := equalIn_SI (k := k) (s := s) (s' := s') (n := n) (n' := n') (w := w) h
  refine St.val (v := .bool (decide (¬ (s = s' ∧ n = n')))) (w' := w) ?_ kk
  simp only [execOp, hx, hy]
  rw [Sem.run_bind, Sem.run_bind, run_eqGuard_agg w .neq t x y _ _ h2]
  simp only [Result.andThen_ok]
  rw [run_neq_struct, h1]
  simp [Result.andThen, Sem.run_pure]
end
end Go.V
end
section
namespace Go.Proofs.YtjkegckfncfoaaaGreat
open Go.V Go.Base
open Go.RowKit (Below)
attribute [local irreducible] Act.put Act.eval
set_option linter.unusedVariables false
set_option linter.unusedSimpArgs false
set_option maxHeartbeats 4000000
set_option maxRecDepth 20000
theorem samesc_any (w : World) (Al : Option Addr) (cl : Nat) (l : List (ByteArray × Int)) (hSl : SlR scR (fun k => k < w.heap.size) w (.slice Al l.length cl) l) (A2 : Option Addr) (c2 : Nat) (hS2 : SlR scR (fun k => k < w.heap.size) w (.slice A2 l.length c2) l) : Calls Tryz.prog 71 #[.slice Al l.length cl, .slice A2 l.length c2] w (fun e w' => e = .returned (.bool (true)) ∧ Fr [] w w') := by
 have hF := Fr.refl [] w
 have hlen0 := hSl.len_le
 refine V.en 26 Tryz.func71 fun a h1 => ?_
 refine V.sr h1 [] 4 4 [] fun a h4 => ?_
 refine V.seq fun K5 k6 => ?_
 refine V.sr h4 [(4, .q (.bool false) (V.t_nsame ((l.length : Nat) : Int)))] 6 9 [(10, .bool false)] fun a h9 => ?_
 refine V.cf h9 ?_
 refine V.skip ?_
 refine V.then_n (k6 _ _ ?_)
 refine V.seq fun K10 k11 => ?_
 refine V.sr h9 [] 1 0 [(5, .int .i64 0)] fun a h14 => ?_
 refine V.block ?_
 refine V.loop1 (fun (i : Nat) a_ w_ => En 26 [] a_ [(0, .slice Al l.length cl), (1, .slice A2 l.length c2), (5, .int .i64 (i : Int))] ∧ Fr [] w w_ ∧ SlR scR (fun k => k < w.heap.size) w_ (.slice Al l.length cl) l ∧ SlR scR (fun k => k < w.heap.size) w_ (.slice A2 l.length c2) l ∧ (i ≤ l.length)) (fun (i : Nat) => l.length - i) 0 ?_ ?_
 ·
  refine ⟨(h14.eq 5 (v := (.int .i64 0)) (u := (.int .i64 (0 : Int))) (V.int_eq (by omega))).only _, hF, hSl, hS2, (by omega)⟩
 ·
  rintro i a15 w16 ⟨h17, hF_18, hSl_19, hS2_20, hi⟩
  have hfs21 := hF_18.size
  refine V.seq fun K22 k23 => ?_
  refine V.sr h17 [] 11 13 [(14, .bool (decide ((i : Int) < ((l.length : Nat) : Int))))] fun a h26 => ?_
  refine V.cp h26 ((i : Int) < ((l.length : Nat) : Int)) (fun ht27 => ?_) (fun ht27 => ?_)
  ·
   refine V.skip ?_
   refine V.then_n (k23 _ _ ?_)
   refine V.seq fun K28 k29 => ?_
   refine V.block ?_
   refine V.seq fun K30 k31 => ?_
   refine V.pl [([0,1,2,3,4,5,6,7],some (8,[])),([],none)] fun w32 hF33 hsw32 => ?_
   have hF_34 := hF_18.new hF33
   have hSl_35 := hSl_19.fr0 hF33
   have hS2_36 := hS2_20.fr0 hF33
   obtain ⟨g37, o38, hA39, hA39l, hA39z⟩ := hSl_35.addr (by omega)
   obtain ⟨cs40, hok41, hE42⟩ := hSl_35.els hA39 (i : Int) (by omega) (by omega)
   obtain rfl : cs40 = [.string (at_ scR l (i : Int)).1, .int .i64 (at_ scR l (i : Int)).2] := hok41
   obtain ⟨g43, o44, hA45, hA45l, hA45z⟩ := hS2_36.addr (by omega)
   obtain ⟨cs46, hok47, hE48⟩ := hS2_36.els hA45 (i : Int) (by omega) (by omega)
   obtain rfl : cs46 = [.string (at_ scR l (i : Int)).1, .int .i64 (at_ scR l (i : Int)).2] := hok47
   refine V.pe h26 [(2, .ix g37 o38 l.length cl .i64 (i : Int) 2 hA39), (0, .ls ⟨g37, o38 + (i : Int).toNat * 2, none⟩ [.string ((at_ scR l (i : Int)).1), .int .i64 ((at_ scR l (i : Int)).2)] (hE42.cells 0 _ rfl)), (2, .ix g43 o44 l.length c2 .i64 (i : Int) 2 hA45), (0, .ls ⟨g43, o44 + (i : Int).toNat * 2, none⟩ [.string ((at_ scR l (i : Int)).1), .int .i64 ((at_ scR l (i : Int)).2)] (hE48.cells 0 _ rfl))] 17 23 [(20, .agg #[.string ((at_ scR l (i : Int)).1), .int .i64 ((at_ scR l (i : Int)).2)]), (24, .agg #[.string ((at_ scR l (i : Int)).1), .int .i64 ((at_ scR l (i : Int)).2)])] fun a h49 => ?_
   refine V.go (V.neqSI .i64 ((at_ scR l (i : Int)).1) ((at_ scR l (i : Int)).1) ((at_ scR l (i : Int)).2) ((at_ scR l (i : Int)).2) h49.e h49.e (by kernel_rfl) ?_)
   refine V.pt h49 fun a h50 => ?_
   refine V.eh trivial ?_
   refine V.pz h50 [] 1 0 [] fun a h51 => k31 _ _ ?_
   refine V.cp h51 (¬ (((at_ scR l (i : Int)).1) = ((at_ scR l (i : Int)).1) ∧ ((at_ scR l (i : Int)).2) = ((at_ scR l (i : Int)).2))) (fun ht52 => ?_) (fun ht52 => ?_)
   ·
    refine V.sr h51 [] 1 0 [(4, .bool false)] fun a h55 => ?_
    refine V.ret (V.blk_r (V.then_r (V.then_r (V.blk_r (V.then_r ?_)))))
    refine V.r1 h55 (.bool false) ?_
    exact absurd ⟨rfl, rfl⟩ ht52
   ·
    refine V.skip (V.blk_n ?_)
    refine V.then_n (k29 _ _ ?_)
    refine V.rr h51 [(1, .i ((i : Int) + 1))] 15 16 [(5, .int .i64 ((i : Int) + 1))] fun a h56 => ?_
    refine V.then_n ?_
    refine ⟨i + 1, by omega, ?_⟩
    refine ⟨(h56.eq 5 (v := (.int .i64 ((i : Int) + 1))) (u := (.int .i64 ((i + 1) : Int))) (V.int_eq (by omega))).only _, hF_34, hSl_35, hS2_36, (by omega)⟩
  ·
   refine V.exit (V.then_e (V.then_e (V.blk_hit ?_)))
   refine V.then_n (k11 _ _ ?_)
   refine V.sr h26 [] 1 0 [(4, .bool true)] fun a h59 => ?_
   refine V.ret ?_
   refine V.r1 h59 (.bool true) ?_
   exact ⟨rfl, hF_18⟩
theorem samev_any (w : World) (k : Int) (s : ByteArray) (Al : Option Addr) (cl : Nat) (l : List ByteArray) (hSl : SlR Rp.str (fun k => k < w.heap.size) w (.slice Al l.length cl) l) (Az : Option Addr) (cz : Nat) (z : List (ByteArray × Int)) (hSz : SlR scR (fun k => k < w.heap.size) w (.slice Az z.length cz) z) (Ah : Option Addr) (ch : Nat) (h : List (ByteArray × ByteArray)) (hSh : SlR fdR (fun k => k < w.heap.size) w (.slice Ah h.length ch) h) (A2 : Option Addr) (c2 : Nat) (hS2 : SlR Rp.str (fun k => k < w.heap.size) w (.slice A2 l.length c2) l) (A3 : Option Addr) (c3 : Nat) (hS3 : SlR scR (fun k => k < w.heap.size) w (.slice A3 z.length c3) z) (A4 : Option Addr) (c4 : Nat) (hS4 : SlR fdR (fun k => k < w.heap.size) w (.slice A4 h.length c4) h) : Calls Tryz.prog 40 #[.agg #[.int .i64 k, .string s, .slice Al l.length cl, .slice Az z.length cz, .slice Ah h.length ch], .agg #[.int .i64 k, .string s, .slice A2 l.length c2, .slice A3 z.length c3, .slice A4 h.length c4]] w (fun e w' => e = .returned (.bool (true)) ∧ Fr [] w w') := by
 have hF := Fr.refl [] w
 have hlen0 := hSl.len_le
 have hlen1 := hSh.len_le
 refine V.en 81 Tryz.func40 fun a h1 => ?_
 refine V.sg fun K2 k3 => ?_
 refine V.go (V.mk [(0, .agg #[.int .i64 k, .string s, .slice Al l.length cl, .slice Az z.length cz, .slice Ah h.length ch])] ⟨h1.e, trivial⟩ (by kernel_rfl) [.int .i64 k, .string s, .slice Al l.length cl, .slice Az z.length cz, .slice Ah h.length ch] 37 (fun b => .pointer (some ⟨b, 0, none⟩)) (by kernel_rfl) ?_)
 intro w5 b4 heb4 hB6 hF7 hsb4
 have hF_8 := hF.new hF7
 have hSl_9 := hSl.fr0 hF7
 have hSz_10 := hSz.fr0 hF7
 have hSh_11 := hSh.fr0 hF7
 have hS2_12 := hS2.fr0 hF7
 have hS3_13 := hS3.fr0 hF7
 have hS4_14 := hS4.fr0 hF7
 refine V.pt h1 fun a h15 => ?_
 refine V.go (V.mk [(1, .agg #[.int .i64 k, .string s, .slice A2 l.length c2, .slice A3 z.length c3, .slice A4 h.length c4])] ⟨h15.e, trivial⟩ (by kernel_rfl) [.int .i64 k, .string s, .slice A2 l.length c2, .slice A3 z.length c3, .slice A4 h.length c4] 37 (fun b => .pointer (some ⟨b, 0, none⟩)) (by kernel_rfl) ?_)
 intro w17 b16 heb16 hB18 hF19 hsb16
 have hF_20 := hF_8.new hF19
 have hSl_21 := hSl_9.fr0 hF19
 have hSz_22 := hSz_10.fr0 hF19
 have hSh_23 := hSh_11.fr0 hF19
 have hS2_24 := hS2_12.fr0 hF19
 have hS3_25 := hS3_13.fr0 hF19
 have hS4_26 := hS4_14.fr0 hF19
 have hB6_27 := hB6.fr0 hF19
 refine V.pt h15 fun a h28 => ?_
 refine V.re h28 [] 4 4 [] fun a h29 => k3 _ _ ?_
 refine V.seq fun K30 k31 => ?_
 refine V.sg fun K32 k33 => ?_
 refine V.run h29 [(1, .b hB6_27 0), (1, .b hB18 0), (0, .q (.bool false) (V.t_nsame k)), (2, .b hB6_27 1), (1, .b hB18 1), (0, .q (.bool false) (V.t_snsame s)), (3, .b hB6_27 2), (2, .b hB18 2), (1, .q (.bool false) (V.t_nsame ((l.length : Nat) : Int))), (3, .b hB6_27 3), (1, .b hB18 3)] 26 7 31 [(28, .bool false), (30, .slice Az z.length cz), (32, .slice A3 z.length c3)] fun a h34 => ?_
 refine V.clg h34 (Go.Proofs.enters_of Tryz.func71 (by kernel_rfl) rfl) (samesc_any w17 Az cz z hSz_22.old A3 c3 hS3_25.old) ?_
 rintro _ w36 ⟨rfl, hF35⟩
 refine ⟨_, rfl, fun a h37 => ?_⟩
 have hsw36 := hF35.size
 have hF_38 := hF_20.new hF35
 have hSl_39 := hSl_21.fr0 hF35
 have hSz_40 := hSz_22.fr0 hF35
 have hSh_41 := hSh_23.fr0 hF35
 have hS2_42 := hS2_24.fr0 hF35
 have hS3_43 := hS3_25.fr0 hF35
 have hS4_44 := hS4_26.fr0 hF35
 have hB6_45 := hB6_27.fr0 hF35
 have hB18_46 := hB18.fr0 hF35
 refine V.re h37 [(4, .b hB6_45 4), (2, .b hB18_46 4), (1, .q (.bool false) (V.t_nsame ((h.length : Nat) : Int)))] 34 43 [(44, .bool false)] fun a h47 => k33 _ _ ?_
 have h48 := h47.only [(2, .pointer (some ⟨b4, 0, none⟩)), (3, .pointer (some ⟨b16, 0, none⟩)), (44, .bool false)]
 refine V.cf h48 ?_
 refine V.skip ?_
 refine V.then_n (k31 _ _ ?_)
 refine V.seq fun K49 k50 => ?_
 refine V.sr h48 [] 1 0 [(5, .int .i64 0)] fun a h53 => ?_
 refine V.block ?_
 refine V.loop1 (fun (i5 : Nat) a_ w_ => En 81 [] a_ [(2, .pointer (some ⟨b4, 0, none⟩)), (3, .pointer (some ⟨b16, 0, none⟩)), (5, .int .i64 (i5 : Int))] ∧ Fr [] w w_ ∧ SlR Rp.str (fun k => k < w.heap.size) w_ (.slice Al l.length cl) l ∧ SlR scR (fun k => k < w.heap.size) w_ (.slice Az z.length cz) z ∧ SlR fdR (fun k => k < w.heap.size) w_ (.slice Ah h.length ch) h ∧ SlR Rp.str (fun k => k < w.heap.size) w_ (.slice A2 l.length c2) l ∧ SlR scR (fun k => k < w.heap.size) w_ (.slice A3 z.length c3) z ∧ SlR fdR (fun k => k < w.heap.size) w_ (.slice A4 h.length c4) h ∧ Blk w_ b4 [.int .i64 k, .string s, .slice Al l.length cl, .slice Az z.length cz, .slice Ah h.length ch] 37 ∧ Blk w_ b16 [.int .i64 k, .string s, .slice A2 l.length c2, .slice A3 z.length c3, .slice A4 h.length c4] 37 ∧ (i5 ≤ l.length)) (fun (i5 : Nat) => l.length - i5) 0 ?_ ?_
 ·
  refine ⟨(h53.eq 5 (v := (.int .i64 0)) (u := (.int .i64 (0 : Int))) (V.int_eq (by omega))).only _, hF_38, hSl_39, hSz_40, hSh_41, hS2_42, hS3_43, hS4_44, hB6_45, hB18_46, (by omega)⟩
 ·
  rintro i5 a54 w55 ⟨h56, hF_57, hSl_58, hSz_59, hSh_60, hS2_61, hS3_62, hS4_63, hB6_64, hB18_65, hi5⟩
  have hfs66 := hF_57.size
  have hlt67 := hB6_64.lt
  have hlt68 := hB18_65.lt
  refine V.seq fun K69 k70 => ?_
  refine V.sr h56 [(2, .b hB6_64 2)] 45 48 [(49, .bool (decide ((i5 : Int) < ((l.length : Nat) : Int))))] fun a h73 => ?_
  refine V.cp h73 ((i5 : Int) < ((l.length : Nat) : Int)) (fun ht74 => ?_) (fun ht74 => ?_)
  ·
   refine V.skip ?_
   refine V.then_n (k70 _ _ ?_)
   refine V.seq fun K75 k76 => ?_
   refine V.block ?_
   refine V.seq fun K77 k78 => ?_
   refine V.pl [([0,1,2,3,4,5,6,7,8,9,10],none)] fun w79 hF80 hsw79 => ?_
   have hF_81 := hF_57.new hF80
   have hSl_82 := hSl_58.fr0 hF80
   have hSz_83 := hSz_59.fr0 hF80
   have hSh_84 := hSh_60.fr0 hF80
   have hS2_85 := hS2_61.fr0 hF80
   have hS3_86 := hS3_62.fr0 hF80
   have hS4_87 := hS4_63.fr0 hF80
   have hB6_88 := hB6_64.fr0 hF80
   have hB18_89 := hB18_65.fr0 hF80
   obtain ⟨g90, o91, hA92, hA92l, hA92z⟩ := hSl_82.addr (by omega)
   obtain ⟨cs93, hok94, hE95⟩ := hSl_82.els hA92 (i5 : Int) (by omega) (by omega)
   obtain rfl : cs93 = [.string (at_ Rp.str l (i5 : Int))] := hok94
   obtain ⟨g96, o97, hA98, hA98l, hA98z⟩ := hS2_85.addr (by omega)
   obtain ⟨cs99, hok100, hE101⟩ := hS2_85.els hA98 (i5 : Int) (by omega) (by omega)
   obtain rfl : cs99 = [.string (at_ Rp.str l (i5 : Int))] := hok100
   refine V.pz h73 [(1, .b hB6_88 2), (1, .ix g90 o91 l.length cl .i64 (i5 : Int) 1 hA92), (0, .l ⟨g90, o91 + (i5 : Int).toNat * 1, none⟩ (.string (at_ Rp.str l (i5 : Int))) (hE95.at 0 rfl)), (1, .b hB18_89 2), (1, .ix g96 o97 l.length c2 .i64 (i5 : Int) 1 hA98), (0, .l ⟨g96, o97 + (i5 : Int).toNat * 1, none⟩ (.string (at_ Rp.str l (i5 : Int))) (hE101.at 0 rfl)), (0, .q (.bool false) (V.t_snsame (at_ Rp.str l (i5 : Int))))] 52 61 [(62, .bool false)] fun a h102 => k78 _ _ ?_
   refine V.cf h102 ?_
   refine V.skip (V.blk_n ?_)
   refine V.then_n (k76 _ _ ?_)
   refine V.rr h102 [(1, .i ((i5 : Int) + 1))] 50 51 [(5, .int .i64 ((i5 : Int) + 1))] fun a h103 => ?_
   refine V.then_n ?_
   refine ⟨i5 + 1, by omega, ?_⟩
   refine ⟨(h103.eq 5 (v := (.int .i64 ((i5 : Int) + 1))) (u := (.int .i64 ((i5 + 1) : Int))) (V.int_eq (by omega))).only _, hF_81, hSl_82, hSz_83, hSh_84, hS2_85, hS3_86, hS4_87, hB6_88, hB18_89, (by omega)⟩
  ·
   refine V.exit (V.then_e (V.then_e (V.blk_hit ?_)))
   refine V.then_n (k50 _ _ ?_)
   refine V.seq fun K104 k105 => ?_
   refine V.sr h73 [] 1 0 [(6, .int .i64 0)] fun a h108 => ?_
   refine V.block ?_
   refine V.loop1 (fun (i6 : Nat) a_ w_ => En 81 [] a_ [(2, .pointer (some ⟨b4, 0, none⟩)), (3, .pointer (some ⟨b16, 0, none⟩)), (6, .int .i64 (i6 : Int))] ∧ Fr [] w w_ ∧ SlR Rp.str (fun k => k < w.heap.size) w_ (.slice Al l.length cl) l ∧ SlR scR (fun k => k < w.heap.size) w_ (.slice Az z.length cz) z ∧ SlR fdR (fun k => k < w.heap.size) w_ (.slice Ah h.length ch) h ∧ SlR Rp.str (fun k => k < w.heap.size) w_ (.slice A2 l.length c2) l ∧ SlR scR (fun k => k < w.heap.size) w_ (.slice A3 z.length c3) z ∧ SlR fdR (fun k => k < w.heap.size) w_ (.slice A4 h.length c4) h ∧ Blk w_ b4 [.int .i64 k, .string s, .slice Al l.length cl, .slice Az z.length cz, .slice Ah h.length ch] 37 ∧ Blk w_ b16 [.int .i64 k, .string s, .slice A2 l.length c2, .slice A3 z.length c3, .slice A4 h.length c4] 37 ∧ (i6 ≤ h.length)) (fun (i6 : Nat) => h.length - i6) 0 ?_ ?_
   ·
    refine ⟨(h108.eq 6 (v := (.int .i64 0)) (u := (.int .i64 (0 : Int))) (V.int_eq (by omega))).only _, hF_57, hSl_58, hSz_59, hSh_60, hS2_61, hS3_62, hS4_63, hB6_64, hB18_65, (by omega)⟩
   ·
    rintro i6 a109 w110 ⟨h111, hF_112, hSl_113, hSz_114, hSh_115, hS2_116, hS3_117, hS4_118, hB6_119, hB18_120, hi6⟩
    have hfs121 := hF_112.size
    have hlt122 := hB6_119.lt
    have hlt123 := hB18_120.lt
    refine V.seq fun K124 k125 => ?_
    refine V.sr h111 [(2, .b hB6_119 4)] 63 66 [(67, .bool (decide ((i6 : Int) < ((h.length : Nat) : Int))))] fun a h128 => ?_
    refine V.cp h128 ((i6 : Int) < ((h.length : Nat) : Int)) (fun ht129 => ?_) (fun ht129 => ?_)
    ·
     refine V.skip ?_
     refine V.then_n (k125 _ _ ?_)
     refine V.seq fun K130 k131 => ?_
     refine V.block ?_
     refine V.seq fun K132 k133 => ?_
     refine V.pl [([0,1,2,3,4,5,6,7,8,9],some (10,[])),([],none)] fun w134 hF135 hsw134 => ?_
     have hF_136 := hF_112.new hF135
     have hSl_137 := hSl_113.fr0 hF135
     have hSz_138 := hSz_114.fr0 hF135
     have hSh_139 := hSh_115.fr0 hF135
     have hS2_140 := hS2_116.fr0 hF135
     have hS3_141 := hS3_117.fr0 hF135
     have hS4_142 := hS4_118.fr0 hF135
     have hB6_143 := hB6_119.fr0 hF135
     have hB18_144 := hB18_120.fr0 hF135
     obtain ⟨g145, o146, hA147, hA147l, hA147z⟩ := hSh_139.addr (by omega)
     obtain ⟨cs148, hok149, hE150⟩ := hSh_139.els hA147 (i6 : Int) (by omega) (by omega)
     obtain rfl : cs148 = [.string (at_ fdR h (i6 : Int)).1, .string (at_ fdR h (i6 : Int)).2] := hok149
     obtain ⟨g151, o152, hA153, hA153l, hA153z⟩ := hS4_142.addr (by omega)
     obtain ⟨cs154, hok155, hE156⟩ := hS4_142.els hA153 (i6 : Int) (by omega) (by omega)
     obtain rfl : cs154 = [.string (at_ fdR h (i6 : Int)).1, .string (at_ fdR h (i6 : Int)).2] := hok155
     refine V.pe h128 [(1, .b hB6_143 4), (1, .ix g145 o146 h.length ch .i64 (i6 : Int) 2 hA147), (0, .ls ⟨g145, o146 + (i6 : Int).toNat * 2, none⟩ [.string ((at_ fdR h (i6 : Int)).1), .string ((at_ fdR h (i6 : Int)).2)] (hE150.cells 0 _ rfl)), (1, .b hB18_144 4), (1, .ix g151 o152 h.length c4 .i64 (i6 : Int) 2 hA153), (0, .ls ⟨g151, o152 + (i6 : Int).toNat * 2, none⟩ [.string ((at_ fdR h (i6 : Int)).1), .string ((at_ fdR h (i6 : Int)).2)] (hE156.cells 0 _ rfl))] 70 78 [(74, .agg #[.string ((at_ fdR h (i6 : Int)).1), .string ((at_ fdR h (i6 : Int)).2)]), (79, .agg #[.string ((at_ fdR h (i6 : Int)).1), .string ((at_ fdR h (i6 : Int)).2)])] fun a h157 => ?_
     refine V.go (V.neqSS ((at_ fdR h (i6 : Int)).1) ((at_ fdR h (i6 : Int)).1) ((at_ fdR h (i6 : Int)).2) ((at_ fdR h (i6 : Int)).2) h157.e h157.e (by kernel_rfl) ?_)
     refine V.pt h157 fun a h158 => ?_
     refine V.eh trivial ?_
     refine V.pz h158 [] 1 0 [] fun a h159 => k133 _ _ ?_
     refine V.cp h159 (¬ (((at_ fdR h (i6 : Int)).1) = ((at_ fdR h (i6 : Int)).1) ∧ ((at_ fdR h (i6 : Int)).2) = ((at_ fdR h (i6 : Int)).2))) (fun ht160 => ?_) (fun ht160 => ?_)
     ·
      refine V.sr h159 [] 1 0 [(4, .bool false)] fun a h163 => ?_
      refine V.ret (V.blk_r (V.then_r (V.then_r (V.blk_r (V.then_r ?_)))))
      refine V.r1 h163 (.bool false) ?_
      exact absurd ⟨rfl, rfl⟩ ht160
     ·
      refine V.skip (V.blk_n ?_)
      refine V.then_n (k131 _ _ ?_)
      refine V.rr h159 [(1, .i ((i6 : Int) + 1))] 68 69 [(6, .int .i64 ((i6 : Int) + 1))] fun a h164 => ?_
      refine V.then_n ?_
      refine ⟨i6 + 1, by omega, ?_⟩
      refine ⟨(h164.eq 6 (v := (.int .i64 ((i6 : Int) + 1))) (u := (.int .i64 ((i6 + 1) : Int))) (V.int_eq (by omega))).only _, hF_136, hSl_137, hSz_138, hSh_139, hS2_140, hS3_141, hS4_142, hB6_143, hB18_144, (by omega)⟩
    ·
     refine V.exit (V.then_e (V.then_e (V.blk_hit ?_)))
     refine V.then_n (k105 _ _ ?_)
     refine V.sr h128 [] 1 0 [(4, .bool true)] fun a h167 => ?_
     refine V.ret ?_
     refine V.r1 h167 (.bool true) ?_
     exact ⟨rfl, hF_112⟩
end Go.Proofs.YtjkegckfncfoaaaGreat
end
section
namespace Go.V
theorem take_at {α : Type} (R : Rp α) {l : List α} {k : Nat} (h : k < l.length) : l.take (k + 1) = l.take k ++ [at_ R l (k : Int)] := by
  rw [List.take_add_one, List.getElem?_eq_getElem h]
  have := at_some R (xs := l) (i := (k : Int)) (by omega) (by omega)
  rw [Int.toNat_natCast, List.getElem?_eq_getElem h] at this
  injection this with this
  rw [← this]; rfl
end Go.V
end
section
namespace Go.V
open Go.Base Go.RowKit
set_option linter.unusedVariables false
set_option linter.unusedSimpArgs false
/-- A row of data, a cell each. -/
structure Row {α : Type} (enc : α → Value) (w : World) (b : Nat) (xs : List α) (t : TypeId) : Prop where
  blk : Blk w b (xs.map enc) t
section
variable {α : Type} {enc : α → Value} {w w' : World} {b : Nat} {xs : List α} {t : TypeId}
theorem Row.lt (h : Row enc w b xs t) : b < w.heap.size := h.blk.lt
theorem Row.fr (h : Row enc w b xs t) {l : List Nat} (f : Fr l w w') (hb : b ∉ l) : Row enc w' b xs t := ⟨h.blk.fr f hb⟩
theorem Row.fr0 (h : Row enc w b xs t) (f : Fr [] w w') : Row enc w' b xs t := ⟨h.blk.fr0 f⟩
theorem Row.fr1 (h : Row enc w b xs t) {b' : Nat} (f : Fr [b'] w w') (hb : b ≠ b') : Row enc w' b xs t := ⟨h.blk.fr1 f hb⟩
theorem Row.at (h : Row enc w b xs t) (i : Nat) (d : α) (hi : i < xs.length) : w.cell? ⟨b, 0 + i * 1, none⟩ = some (enc (xs.getD i d)) := by
  rw [show 0 + i * 1 = i by omega, h.blk.cell, List.getElem?_map, List.getD_eq_getElem?_getD, List.getElem?_eq_getElem hi]
  rfl
end
section
variable {ro : Option Nat} {P : Program} {Q : Exit → Act → World → Prop} {a : Act} {w : World} {ops : Array Oper} {rest : List Oper} {d : Option Tmp} {ty : TypeId} {pos : String} {aft : Array Edge} {g : Option (Nat × Bool)}
/-- make([]T, n) of one-cell data. -/
theorem mks {α : Type} {enc : α → Value} {t e : TypeId} {l c : Operand} {kl kc : IntKind} (n : Nat) (z : Value) (x0 : α) (bytes : Nat) (hl : a.eval l = .int kl (n : Int)) (hc : a.eval c = .int kc (n : Int)) (ht : P.underlying t = some (.slice e))
    (hinfo : (P.info? e).map (fun i => (i.zero, i.size, i.bytes)) = some (some z, 1, bytes)) (hz : z.cells = #[z]) (he : enc x0 = z) (hb : bytes * n ≤ 281474976710656) (hn : n ≤ 9223372036854775807)
    (k : ∀ w1 b, b = w.heap.size → Row enc w1 b (List.replicate n x0) e → Fr [] w w1 → L ro P ops Q rest (a.put d (.slice (some ⟨b, 0, none⟩) n n)) w1) : St ro P ops Q rest ⟨d, .makeSlice t l c, ty, pos, aft, g⟩ a w := by
  obtain ⟨i, hi, hzz⟩ := Option.map_eq_some_iff.1 hinfo
  simp only [Prod.mk.injEq] at hzz
  obtain ⟨hz0, hz1, hz2⟩ := hzz
  subst hz2
  obtain ⟨w1, h1, h2, h3⟩ := run_make_full (P := P) w w.heap.size t e i z 1 ht hi hz0 hz1 kl kc n hb (by unfold maxLen; omega) (Nat.le_refl _)
  refine St.val (v := .slice (some ⟨w.heap.size, 0, none⟩) n n) (w' := w1) (by simp only [execOp, hl, hc, h1, Sem.run_bind, Sem.run_pure, Result.andThen_ok]) (k w1 _ rfl ⟨?_⟩ (Fr.of_grown h3 fun k hk => by cases hk))
  rcases h2.2 with ⟨h4, _⟩ | ⟨g', cap, cur, h4, _, h5, _, _, h6, h7⟩
  · cases h4
  · injection h4 with h8 h9 h10
    injection h8 with h8
    injection h8 with h8 h11
    subst h8; subst h10
    have h12 : cur.toList = List.replicate n z := by
      rw [List.take_of_length_le (by simp; omega)] at h7
      rw [h7, hz, Nat.mul_one, toList_madeCells_one]
    unfold Blk
    rw [h5]
    have : cur = ((List.replicate n x0).map enc).toArray := by
      apply Array.ext'
      rw [h12, List.map_replicate, he]
    rw [this]
/-- A store into a row. -/
theorem strow {α : Type} {enc : α → Value} {t : TypeId} {x y : Operand} (b i : Nat) (v : α) (hx : a.eval x = .pointer (some ⟨b, 0 + i * 1, none⟩)) (hy : a.eval y = enc v) (hv : (enc v).cells = #[enc v]) (h1 : (enc v).oneCell' = true)
    (ht : (P.info? t).map (·.size) = some 1) {xs : List α} {bt : TypeId} (hB : Row enc w b xs bt) (hi : i < xs.length)
    (k : ∀ w1, Row enc w1 b (xs.set i v) bt → Fr [b] w w1 → w1.heap.size = w.heap.size → L ro P ops Q rest a w1) : St ro P ops Q rest ⟨none, .store t x y, ty, pos, aft, g⟩ a w := by
  refine stn b (0 + i * 1) (enc v) [enc v] hx hy hv (by simp [h1]) ht hB.blk (by simp; omega) ((xs.set i v).map enc) ?_ fun w1 h => k w1 ⟨h⟩
  show (xs.map enc).set (0 + i * 1) (enc v) = _
  rw [show 0 + i * 1 = i by omega, List.map_set]
end
end Go.V
end
section
namespace Go.V
open Go.Base Go.RowKit
set_option linter.unusedVariables false
set_option linter.unusedSimpArgs false
abbrev idV : Value → Value := fun v => v
abbrev nilS : Value := .slice none 0 0
/-- What turned lies among P's blocks, or is new. -/
structure FrP (P : Nat → Prop) (w w' : World) : Prop where
  os : w'.os = w.os
  tape : w'.tape = w.tape
  output : w'.output = w.output
  size : w.heap.size ≤ w'.heap.size
  block : ∀ k, k < w.heap.size → ¬ P k → w'.heap[k]? = w.heap[k]?
section
variable {P P' : Nat → Prop} {w w1 w2 : World} {l : List Nat}
theorem FrP.refl (P : Nat → Prop) (w : World) : FrP P w w := ⟨rfl, rfl, rfl, Nat.le_refl _, fun _ _ _ => rfl⟩
theorem FrP.trP (h : FrP P w w1) (f : FrP P' w1 w2) (hs : ∀ k, P' k → P k ∨ w.heap.size ≤ k) : FrP P w w2 :=
  ⟨f.os.trans h.os, f.tape.trans h.tape, f.output.trans h.output, Nat.le_trans h.size f.size, fun k hk hn =>
    (f.block k (Nat.lt_of_lt_of_le hk h.size) fun hp => (hs k hp).elim hn fun h' => by omega).trans (h.block k hk hn)⟩
theorem FrP.of (f : Fr l w w1) : FrP (fun k => k ∈ l) w w1 := ⟨f.os, f.tape, f.output, f.size, fun k hk hn => f.block k hk hn⟩
theorem FrP.tr (h : FrP P w w1) (f : Fr l w1 w2) (hl : ∀ k ∈ l, P k ∨ w.heap.size ≤ k) : FrP P w w2 := h.trP (FrP.of f) hl
theorem FrP.tr1 {b : Nat} (h : FrP P w w1) (f : Fr [b] w1 w2) (hb : P b ∨ w.heap.size ≤ b) : FrP P w w2 := h.tr f fun k hk => by rw [List.mem_singleton.1 hk]; exact hb
theorem FrP.tr0 (h : FrP P w w1) (f : Fr [] w1 w2) : FrP P w w2 := h.tr f fun k hk => by cases hk
theorem FrP.mono (h : FrP P w w1) (hs : ∀ k, P k → P' k) : FrP P' w w1 := ⟨h.os, h.tape, h.output, h.size, fun k hk hn => h.block k hk fun hp => hn (hs k hp)⟩
theorem FrP.fr (h : FrP P w w1) (hn : ∀ k, P k → w.heap.size ≤ k) : Fr [] w w1 := ⟨h.os, h.tape, h.output, h.size, fun k hk _ => h.block k hk fun hp => by have := hn k hp; omega⟩
theorem _root_.Go.Base.Fr.trP {w0 : World} {l : List Nat} (h : Fr l w0 w) (f : FrP P w w1) (hs : ∀ k, P k → k ∈ l ∨ w0.heap.size ≤ k) : Fr l w0 w1 :=
  ⟨f.os.trans h.os, f.tape.trans h.tape, f.output.trans h.output, Nat.le_trans h.size f.size, fun k hk hn => (f.block k (Nat.lt_of_lt_of_le hk h.size) fun hp => (hs k hp).elim hn fun h' => by omega).trans (h.block k hk hn)⟩
theorem _root_.Go.Base.Blk.frP {b t : Nat} {cs : List Value} (h : Blk w b cs t) (f : FrP P w w1) (hb : ¬ P b) : Blk w1 b cs t := h.same (f.block b h.lt hb)
theorem SlR.frP {α : Type} {R : Rp α} {Z : Nat → Prop} {v : Value} {xs : List α} (h : SlR R Z w v xs) (f : FrP P w w1) (hz : ∀ k, Z k → ¬ P k) : SlR R Z w1 v xs :=
  h.mono (fun b hb hZ => ⟨hZ, f.block b hb (hz b hZ)⟩) f.size
theorem OwR.frP {α : Type} {R : Rp α} {base : Nat} {e : TypeId} {v : Value} {xs : List α} (h : OwR R NoZ w base e v xs) (f : FrP P w w1) (hv : ∀ b, v.ownBlock = some b → ¬ P b) : OwR R NoZ w1 base e v xs := by
  obtain ⟨cs, h1, h2, h3⟩ := h
  refine ⟨cs, ?_, h2.mono (fun b hb hz => hz.elim) f.size, h3⟩
  rcases h1.2 with ⟨rfl, hn⟩ | ⟨g, cap, cur, rfl, hg, hh, hr⟩
  · exact ⟨h1.1, .inl ⟨rfl, hn⟩⟩
  · exact ⟨h1.1, .inr ⟨g, cap, cur, rfl, hg, (f.block g (lt_of_block hh) (hv g rfl)).trans hh, hr⟩⟩
end
structure Bks {α : Type} (R : Rp α) (w : World) (e : TypeId) (H : Nat → Prop) (av : List Nat) (vs : List Value) (xs : List (List α)) : Prop where
  len : vs.length = xs.length
  own : ∀ (i : Nat) (v : Value), vs[i]? = some v → OwR R NoZ w 0 e v (xs.getD i [])
  nd : ∀ (i j : Nat) (u v : Value) (k : Nat), vs[i]? = some u → vs[j]? = some v → u.ownBlock = some k → v.ownBlock = some k → i = j
  hom : ∀ (i : Nat) (v : Value) (k : Nat), vs[i]? = some v → v.ownBlock = some k → k ∉ av ∧ H k
  avl : ∀ k ∈ av, k < w.heap.size
section
variable {α : Type} {R : Rp α} {w w1 : World} {e : TypeId} {H H' : Nat → Prop} {av av' : List Nat} {vs us : List Value} {xs ys : List (List α)} {l : List Nat} {i : Nat}
theorem Bks.frP {P : Nat → Prop} (h : Bks R w e H av vs xs) (f : FrP P w w1) (hl : ∀ k, P k → k ∈ av ∨ ¬ H k) : Bks R w1 e H av vs xs :=
  ⟨h.len, fun i v hv => (h.own i v hv).frP f fun b hb hp => (hl b hp).elim (h.hom i v b hv hb).1 fun hn => hn (h.hom i v b hv hb).2, h.nd, h.hom, fun k hk => Nat.lt_of_lt_of_le (h.avl k hk) f.size⟩
theorem Bks.fr (h : Bks R w e H av vs xs) (f : Fr l w w1) (hl : ∀ k ∈ l, k ∈ av) : Bks R w1 e H av vs xs := h.frP (FrP.of f) fun k hk => .inl (hl k hk)
theorem Bks.fr0 (h : Bks R w e H av vs xs) (f : Fr [] w w1) : Bks R w1 e H av vs xs := h.fr f fun k hk => by cases hk
theorem Bks.lt (h : Bks R w e H av vs xs) {v : Value} (hv : vs[i]? = some v) {k : Nat} (hk : v.ownBlock = some k) : k < w.heap.size := ((h.own i v hv).lt k hk).2
/-- A new block of another's is avoided. -/
theorem Bks.alloc (h : Bks R w e H av vs xs) (f : Fr [] w w1) {b : Nat} (hb : b = w.heap.size) (hlt : b < w1.heap.size) : Bks R w1 e H (b :: av) vs xs := by
  have h1 := h.fr0 f
  refine ⟨h1.len, h1.own, h1.nd, fun i v k hv hk => ⟨fun hm => ?_, (h1.hom i v k hv hk).2⟩, fun k hk => ?_⟩
  · rcases List.mem_cons.1 hm with rfl | hm
    · have := h.lt hv hk; omega
    · exact (h1.hom i v k hv hk).1 hm
  · rcases List.mem_cons.1 hk with rfl | hk
    · exact hlt
    · exact h1.avl k hk
theorem Bks.sub (h : Bks R w e H av vs xs) (hs : ∀ k ∈ av', k ∈ av) (hH : ∀ k, k < w.heap.size → k ∉ av → H k → H' k) : Bks R w e H' av' vs xs :=
  ⟨h.len, h.own, h.nd, fun i v k hv hk => ⟨fun hm => (h.hom i v k hv hk).1 (hs k hm), hH k (h.lt hv hk) (h.hom i v k hv hk).1 (h.hom i v k hv hk).2⟩, fun k hk => h.avl k (hs k hk)⟩
theorem Bks.get (h : Bks R w e H av vs xs) (hi : i < xs.length) (d : Value) : ∃ A c, vs.getD i d = .slice A (xs.getD i []).length c := by
  have hv : vs[i]? = some (vs.getD i d) := by
    rw [List.getD_eq_getElem?_getD, List.getElem?_eq_getElem (by rw [h.len]; exact hi)]; rfl
  exact (h.own i _ hv).slice
theorem Bks.get' (h : Bks R w e H av vs xs) (hi : i < xs.length) (d : Value) : vs[i]? = some (vs.getD i d) := by
  rw [List.getD_eq_getElem?_getD, List.getElem?_eq_getElem (by rw [h.len]; exact hi)]; rfl
/-- A slice of the row, read. -/
theorem Bks.sl (h : Bks R w e H av vs xs) (hi : i < xs.length) {d : Value} {v : Value} (hv : vs.getD i d = v) : SlR R (fun _ => True) w v (xs.getD i []) := by
  subst hv
  exact (h.own i _ (h.get' hi d)).read (fun _ _ h => h.elim) (fun _ _ _ => trivial)
theorem Bks.nil (R : Rp α) (w : World) (e : TypeId) (H : Nat → Prop) {av : List Nat} (hav : ∀ k ∈ av, k < w.heap.size) (n : Nat) : Bks R w e H av (List.replicate n nilS) (List.replicate n []) := by
  have hn : ∀ (i : Nat) (v : Value), (List.replicate n nilS)[i]? = some v → v = nilS := fun i v hv => List.eq_of_mem_replicate (List.mem_of_getElem? hv)
  refine ⟨by simp, fun i v hv => ?_, fun i j u v k hu hv hk => ?_, fun i v k hv hk => ?_, hav⟩
  · rw [hn i v hv]
    have : (List.replicate n ([] : List α)).getD i [] = [] := by
      rw [List.getD_eq_getElem?_getD, List.getElem?_replicate]; split <;> rfl
    rw [this]; exact OwR.nil _ _ _ _ _
  · rw [hn i u hu] at hk; cases hk
  · rw [hn i v hv] at hk; cases hk
/-- A row more, of nil slices. -/
theorem Bks.addNil (h : Bks R w e H av vs xs) (n : Nat) : Bks R w e H av (vs ++ List.replicate n nilS) (xs ++ List.replicate n []) := by
  have hn : ∀ (i : Nat) (v : Value), (vs ++ List.replicate n nilS)[i]? = some v → vs[i]? = some v ∨ (v = nilS ∧ vs.length ≤ i) := fun i v hv => by
    rcases Nat.lt_or_ge i vs.length with hi | hi
    · rw [List.getElem?_append_left hi] at hv; exact .inl hv
    · rw [List.getElem?_append_right hi] at hv; exact .inr ⟨List.eq_of_mem_replicate (List.mem_of_getElem? hv), hi⟩
  refine ⟨by simp [h.len], fun i v hv => ?_, fun i j u v k hu hv hku hkv => ?_, fun i v k hv hk => ?_, h.avl⟩
  · rcases hn i v hv with hv' | ⟨rfl, hi⟩
    · have hlt := (List.getElem?_eq_some_iff.1 hv').1
      have : (xs ++ List.replicate n []).getD i [] = xs.getD i [] := by
        rw [List.getD_eq_getElem?_getD, List.getElem?_append_left (by rw [← h.len]; exact hlt), ← List.getD_eq_getElem?_getD]
      rw [this]; exact h.own i v hv'
    · have : (xs ++ List.replicate n []).getD i [] = [] := by
        rw [List.getD_eq_getElem?_getD, List.getElem?_append_right (by rw [← h.len]; exact hi), List.getElem?_replicate]; split <;> rfl
      rw [this]; exact OwR.nil _ _ _ _ _
  · rcases hn i u hu with hu' | ⟨rfl, _⟩
    · rcases hn j v hv with hv' | ⟨rfl, _⟩
      · exact h.nd i j u v k hu' hv' hku hkv
      · cases hkv
    · cases hku
  · rcases hn i v hv with hv' | ⟨rfl, _⟩
    · exact h.hom i v k hv' hk
    · cases hk
/-- What stood behind a row of nils stands alone. -/
theorem Bks.dropNil (h : Bks R w e H av (us ++ vs) (ys ++ xs)) (hl : us.length = ys.length) : Bks R w e H av vs xs := by
  have hx : ∀ i, (ys ++ xs).getD (us.length + i) [] = xs.getD i [] := fun i => by
    rw [List.getD_eq_getElem?_getD, List.getElem?_append_right (by omega), List.getD_eq_getElem?_getD]; congr 2; omega
  have hv : ∀ (i : Nat) (v : Value), vs[i]? = some v → (us ++ vs)[us.length + i]? = some v := fun i v hv => by
    rw [List.getElem?_append_right (by omega)]; rw [← hv]; congr 1; omega
  refine ⟨by have := h.len; simp at this; omega, fun i v h1 => by rw [← hx i]; exact h.own _ v (hv i v h1), fun i j u v k hu hv' hk1 hk2 => ?_, fun i v k h1 hk => h.hom _ v k (hv i v h1) hk, h.avl⟩
  have := h.nd _ _ u v k (hv i u hu) (hv j v hv') hk1 hk2
  omega
theorem getD_set_self {β : Type} {l : List β} (hi : i < l.length) (v d : β) : (l.set i v).getD i d = v := by
  rw [List.getD_eq_getElem?_getD, List.getElem?_set_self hi]; rfl
theorem getD_set_ne {β : Type} {l : List β} {j : Nat} (h : i ≠ j) (v d : β) : (l.set i v).getD j d = l.getD j d := by
  rw [List.getD_eq_getElem?_getD, List.getElem?_set_ne h, ← List.getD_eq_getElem?_getD]
/-- One slice turned. -/
theorem Bks.upd (h : Bks R w e H av vs xs) (hi : i < xs.length) {v v' : Value} {x' : List α} (hv : vs[i]? = some v) (f : Fr v.ownBlock.toList w w1) (ho : OwR R NoZ w1 0 e v' x') (hat : v'.ownBlock = v.ownBlock ∨ v'.ownBlock = some w.heap.size ∨ v'.ownBlock = none) (hH : H w.heap.size) :
    Bks R w1 e H av (vs.set i v') (xs.set i x') := by
  have hil : i < vs.length := by rw [h.len]; exact hi
  have hset : ∀ (j : Nat) (u : Value), (vs.set i v')[j]? = some u → (j = i ∧ u = v') ∨ (j ≠ i ∧ vs[j]? = some u) := fun j u hu => by
    by_cases hj : j = i
    · subst hj; rw [List.getElem?_set_self hil] at hu; injection hu with hu; exact .inl ⟨rfl, hu.symm⟩
    · rw [List.getElem?_set_ne (fun e => hj e.symm)] at hu; exact .inr ⟨hj, hu⟩
  have hat' : ∀ k, v'.ownBlock = some k → v.ownBlock = some k ∨ k = w.heap.size := fun k hk => by
    rcases hat with h1 | h1 | h1
    · exact .inl (h1 ▸ hk)
    · rw [h1] at hk; injection hk with hk; exact .inr hk.symm
    · rw [h1] at hk; cases hk
  refine ⟨by simp [h.len], fun j u hu => ?_, fun j j' u u' k hu hu' hk hk' => ?_, fun j u k hu hk => ?_, fun k hk => Nat.lt_of_lt_of_le (h.avl k hk) f.size⟩
  · rcases hset j u hu with ⟨rfl, rfl⟩ | ⟨hj, hu⟩
    · rw [getD_set_self hi]; exact ho
    · rw [getD_set_ne (fun e => hj e.symm)]
      exact (h.own j u hu).fr f (fun b _ hz => hz.elim) fun b hb hm => by
        cases hv' : v.ownBlock with
        | none => rw [hv'] at hm; simp at hm
        | some q => rw [hv'] at hm; simp at hm; subst hm; exact hj (h.nd j i u v b hu hv hb hv')
  · rcases hset j u hu with ⟨rfl, rfl⟩ | ⟨hj, hu1⟩ <;> rcases hset j' u' hu' with ⟨rfl, rfl⟩ | ⟨hj', hu2⟩
    · rfl
    · exfalso
      rcases hat' k hk with h1 | rfl
      · exact hj' (h.nd j' j u' v k hu2 hv hk' h1)
      · exact Nat.lt_irrefl _ (h.lt hu2 hk')
    · exfalso
      rcases hat' k hk' with h1 | rfl
      · exact hj (h.nd j j' u v k hu1 hv hk h1)
      · exact Nat.lt_irrefl _ (h.lt hu1 hk)
    · exact h.nd j j' u u' k hu1 hu2 hk hk'
  · rcases hset j u hu with ⟨rfl, rfl⟩ | ⟨hj, hu⟩
    · rcases hat' k hk with h1 | rfl
      · exact h.hom j v k hv h1
      · exact ⟨fun hm => Nat.lt_irrefl _ (h.avl _ hm), hH⟩
    · exact h.hom j u k hu hk
/-- One slice is taken out: its block is avoided from now on. -/
theorem Bks.take (h : Bks R w e H av vs xs) (hi : i < xs.length) {v : Value} (hv : vs[i]? = some v) : Bks R w e H (v.ownBlock.toList ++ av) (vs.set i nilS) (xs.set i []) := by
  have hil : i < vs.length := by rw [h.len]; exact hi
  have hset : ∀ (j : Nat) (u : Value), (vs.set i nilS)[j]? = some u → (j = i ∧ u = nilS) ∨ (j ≠ i ∧ vs[j]? = some u) := fun j u hu => by
    by_cases hj : j = i
    · subst hj; rw [List.getElem?_set_self hil] at hu; injection hu with hu; exact .inl ⟨rfl, hu.symm⟩
    · rw [List.getElem?_set_ne (fun e => hj e.symm)] at hu; exact .inr ⟨hj, hu⟩
  refine ⟨by simp [h.len], fun j u hu => ?_, fun j j' u u' k hu hu' hk hk' => ?_, fun j u k hu hk => ?_, fun k hk => ?_⟩
  · rcases hset j u hu with ⟨rfl, rfl⟩ | ⟨hj, hu⟩
    · rw [getD_set_self hi]; exact OwR.nil _ _ _ _ _
    · rw [getD_set_ne (fun e => hj e.symm)]; exact h.own j u hu
  · rcases hset j u hu with ⟨rfl, rfl⟩ | ⟨hj, hu⟩
    · cases hk
    · rcases hset j' u' hu' with ⟨rfl, rfl⟩ | ⟨hj', hu'⟩
      · cases hk'
      · exact h.nd j j' u u' k hu hu' hk hk'
  · rcases hset j u hu with ⟨rfl, rfl⟩ | ⟨hj, hu⟩
    · cases hk
    · refine ⟨fun hm => ?_, (h.hom j u k hu hk).2⟩
      rcases List.mem_append.1 hm with hm | hm
      · cases hv' : v.ownBlock with
        | none => rw [hv'] at hm; simp at hm
        | some q => rw [hv'] at hm; simp at hm; subst hm; exact hj (h.nd j i u v k hu hv hk hv')
      · exact (h.hom j u k hu hk).1 hm
  · rcases List.mem_append.1 hk with hk | hk
    · cases hv' : v.ownBlock with
      | none => rw [hv'] at hk; simp at hk
      | some q => rw [hv'] at hk; simp at hk; subst hk; exact h.lt hv hv'
    · exact h.avl k hk
/-- .. read on: what turns is not that block. -/
theorem Bks.slO (h : Bks R w e H av vs xs) (hi : i < xs.length) {v : Value} (hv : vs[i]? = some v) : SlR R (fun k => k ∈ v.ownBlock.toList) w v (xs.getD i []) := by
  have ho := h.own i v hv
  have hlen := ho.len_le
  obtain ⟨cs, h1, h2, h3⟩ := ho
  rcases h1.2 with ⟨rfl, hn⟩ | ⟨g, cap, cur, rfl, hg, hh, hnc, _⟩
  · rw [List.eq_nil_of_length_eq_zero hn]; exact SlR.nil _ _ _
  · refine ⟨_, cap, rfl, hnc, hlen, fun j x hj => ?_⟩
    obtain ⟨c, hok, hc⟩ := h2.get j x hj
    refine ⟨g, 0, c, rfl, by simp [Value.ownBlock], lt_of_block hh, R.mono (fun b hb hZ => hZ.elim) (Nat.le_refl _) hok, fun j' u hj' => ?_⟩
    have := h1.cells (g := g) rfl (j * R.sz + j') u (hc j' u hj')
    rw [Base.add_plain] at this
    rw [Nat.zero_add]; exact this
theorem Bks.home (h : Bks R w e H av vs xs) {v : Value} (hv : vs[i]? = some v) : ∀ k ∈ v.ownBlock.toList, k ∉ av ∧ H k := fun k hk => by
  cases hv' : v.ownBlock with
  | none => rw [hv'] at hk; simp at hk
  | some q => rw [hv'] at hk; simp at hk; subst hk; exact h.hom i v k hv hv'
end
section
variable {α : Type} {R : Rp α} {w w1 : World} {e : TypeId} {H : Nat → Prop} {av : List Nat} {vs : List Value} {xs : List (List α)} {i : Nat}
variable {ro : Option Nat} {P : Program} {Q : Exit → Act → World → Prop} {a : Act} {ops : Array Oper} {rest : List Oper} {d : Option Tmp} {ty : TypeId} {pos : String} {aft : Array Edge} {g : Option (Nat × Bool)}
/-- append to one of the slices. -/
theorem appB {t : TypeId} {s x : Operand} {z v : Value} {bytes : Nat} (h : Bks R w e H av vs xs) (hi : i < xs.length) (hv : vs[i]? = some v) (hs : a.eval s = v) (ad : Addr) (m c : Nat) (hx : a.eval x = .slice (some ad) m c) (ht : P.underlying t = some (.slice e))
    (hinfo : (P.info? e).map (fun i => (i.zero, i.size, i.bytes)) = some (some z, R.sz, bytes)) (hzs : z.cells.size = R.sz) (hsz : 0 < R.sz) {ys : List α} {news : List Value} (hm : ys.length = m) (hys : Cells R NoZ w ys news)
    (hnews : ∀ j u, news[j]? = some u → w.cell? (ad.add j) = some u) (hbytes : ((xs.getD i []).length + m) * bytes ≤ 140737488355328) (hb0 : 0 < bytes) (hH : H w.heap.size)
    (k : ∀ A' c' w1, Bks R w1 e H av (vs.set i (.slice A' ((xs.getD i []).length + m) c')) (xs.set i (xs.getD i [] ++ ys)) → Fr (v.ownBlock.toList) w w1 → (∀ k ∈ v.ownBlock.toList, k ∉ av ∧ H k) →
      L ro P ops Q rest (a.put d (.slice A' ((xs.getD i []).length + m) c')) w1) : St ro P ops Q rest ⟨d, .call ⟨.builtin .append, #[s, x], #[t, t]⟩, ty, pos, aft, g⟩ a w := by
  refine app hs ad m c hx ht hinfo hzs hsz (h.own i v hv) hm hys hnews hbytes hb0 (Nat.zero_le _) ?_
  intro A' c' w1 ho f hat
  exact k A' c' w1 (h.upd hi hv f (ho.zone (fun _ _ q => q.1) (fun _ _ q => q)) (hat.imp id .inl) hH) f (h.home hv)
end
end Go.V
end
section
namespace Go.V
open Go.Base Go.RowKit
set_option linter.unusedVariables false
set_option linter.unusedSimpArgs false
theorem ofInt_nat (w : Nat) (x : Nat) (h : x < 2 ^ w) : (BitVec.ofInt w (x : Int)).toNat = x := by
  rw [BitVec.ofInt_natCast, BitVec.toNat_ofNat, Nat.mod_eq_of_lt h]
theorem b_shr {k : IntKind} (x n : Nat) : Value.int k (Int.fdiv (x : Int) (2 ^ n)) = .int k ((x >>> n : Nat) : Int) := by
  have h : ((2 : Int) ^ n) = ((2 ^ n : Nat) : Int) := by simp
  rw [h, Int.fdiv_eq_ediv_of_nonneg _ (Int.natCast_nonneg _), ← Int.natCast_ediv, Nat.shiftRight_eq_div_pow]
def Wds (xs : List Nat) : Prop := xs.length = 4 ∧ ∀ i, xs.getD i 0 < 18446744073709551616
def putS (xs : List Nat) (c : Nat) : List Nat := xs.set (c / 64) (xs.getD (c / 64) 0 ||| 2 ^ (c % 64))
theorem Wds.zero : Wds [0, 0, 0, 0] := ⟨rfl, fun i => by
  match i with
  | 0 | 1 | 2 | 3 => simp
  | i + 4 => simp⟩
theorem Wds.put {xs : List Nat} (h : Wds xs) {c : Nat} (hc : c < 256) : Wds (putS xs c) := by
  refine ⟨by simp [putS, h.1], fun i => ?_⟩
  have h1 := h.2 (c / 64)
  have h2 := h.2 i
  unfold putS
  rw [List.getD_eq_getElem?_getD] at h2 ⊢
  rw [List.getElem?_set]
  split
  · split
    · simp only [Option.getD_some]
      exact Nat.or_lt_two_pow (n := 64) h1 (Nat.pow_lt_pow_right (by omega) (by omega))
    · simp
  · exact h2
section
variable {ro : Option Nat} {P : Program} {Q : Exit → Act → World → Prop} {a : Act} {w : World} {ops : Array Oper} {rest : List Oper} {d : Option Tmp} {ty : TypeId} {pos : String} {aft : Array Edge} {g : Option (Nat × Bool)} {t t' : TypeId} {x y : Operand} {k k' : IntKind}
theorem nonneg_if {α : Type} {n : Nat} {p q : α} : (if ((n : Nat) : Int) < 0 then p else q) = q := if_neg (by omega)
theorem shr (v n : Nat) (hx : a.eval x = .int k (v : Int)) (hy : a.eval y = .int k' (n : Int)) (hn : n ≤ k.bits) (kk : L ro P ops Q rest (a.put d (.int k ((v >>> n : Nat) : Int))) w) : St ro P ops Q rest ⟨d, .binOp .shr t x y t', ty, pos, aft, g⟩ a w := by
  refine St.val (v := .int k ((v >>> n : Nat) : Int)) (w' := w) ?_ kk
  simp only [execOp, hx, hy, eqGuard, binOp, Op.shift, nonneg_if, Int.toNat_natCast, Nat.min_eq_left hn, b_shr]
  rfl
end
end Go.V
end
section
namespace Go.V
open Go.Base Go.RowKit
set_option linter.unusedVariables false
theorem b_xor_u64 (x m : Nat) (hx : x < 18446744073709551616) (hm : m < 18446744073709551616) : Value.int .u64 (IntKind.u64.wrap ((BitVec.ofInt 64 (x : Int) ^^^ BitVec.ofInt 64 (m : Int)).toNat : Int)) = .int .u64 ((x ^^^ m : Nat) : Int) := by
  have hb : (BitVec.ofInt 64 (x : Int) ^^^ BitVec.ofInt 64 (m : Int)).toNat = x ^^^ m := by rw [BitVec.toNat_xor, ofInt_nat 64 x (by omega), ofInt_nat 64 m (by omega)]
  have hlt : x ^^^ m < 2 ^ 64 := Nat.xor_lt_two_pow (by omega) (by omega)
  rw [hb]
  exact w_u64 (by omega) (by omega)
theorem b_mul_u64 (x m : Nat) : Value.int .u64 (IntKind.u64.wrap ((x : Int) * (m : Int))) = .int .u64 ((x * m % 18446744073709551616 : Nat) : Int) := by
  have h : ∀ z : Int, IntKind.u64.wrap z = z % 18446744073709551616 := fun z => rfl
  rw [h, ← Int.natCast_mul, Int.natCast_emod]
  rfl
section
variable {ro : Option Nat} {P : Program} {Q : Exit → Act → World → Prop} {a : Act} {w : World} {ops : Array Oper} {rest : List Oper} {d : Option Tmp} {ty : TypeId} {pos : String} {aft : Array Edge} {g : Option (Nat × Bool)}
theorem remN {t t' : TypeId} {x y : Operand} {k : IntKind} (n m : Nat) (hx : a.eval x = .int k (n : Int)) (hy : a.eval y = .int k (m : Int)) (hm : 0 < m)
    (kk : L ro P ops Q rest (a.put d (.int k ((n % m : Nat) : Int))) w) : St ro P ops Q rest ⟨d, .binOp .rem t x y t', ty, pos, aft, g⟩ a w :=
  rem hx hy (Int.natCast_nonneg _) (by omega) (by rw [show ((n : Int) % (m : Int)) = ((n % m : Nat) : Int) from rfl]; exact kk)
end
/-- A key's hash. -/
def hstep (h c : Nat) : Nat := (h ^^^ c) * 1099511628211 % 18446744073709551616
def hseed (seed : Nat) : Nat := 14695981039346656037 ^^^ seed
def hashI (h : Nat) (l : List Int) : Nat := l.foldl (fun h c => hstep h c.toNat) h
def hashN (seed : Nat) (s : ByteArray) : Nat := hashI (hseed seed) (ints s)
theorem ints_take1 (s : ByteArray) (k : Nat) (h : k < s.size) : (ints s).take (k + 1) = (ints s).take k ++ [bi s (k : Int)] := by
  rw [List.take_add_one, ints_get s k h]; rfl
theorem bi_nat (s : ByteArray) (k : Int) : (bi s k).toNat = (byt s k).toNat := Int.toNat_natCast _
theorem wd_hash_step {h0 : Nat} {s : ByteArray} {k h : Nat} (hk : k < s.size) (hh : hashI h0 ((ints s).take k) = h) : hashI h0 ((ints s).take (k + 1)) = hstep h (byt s (k : Int)).toNat := by
  subst hh
  rw [ints_take1 s k hk]
  unfold hashI
  rw [List.foldl_append, List.foldl_cons, List.foldl_nil, bi_nat]
theorem hash_end {h0 : Nat} {s : ByteArray} {k h : Nat} (hk : s.size ≤ k) (hh : hashI h0 ((ints s).take k) = h) : h = hashI h0 (ints s) := by
  rw [List.take_of_length_le (by rw [ints_length]; exact hk)] at hh
  exact hh.symm
theorem hstep_lt (h c : Nat) : hstep h c < 18446744073709551616 := Nat.mod_lt _ (by decide)
theorem hseed_lt {seed : Nat} (h : seed < 18446744073709551616) : hseed seed < 18446744073709551616 := Nat.xor_lt_two_pow (n := 64) (by decide) h
theorem hashI_lt {h : Nat} (h0 : h < 18446744073709551616) (l : List Int) : hashI h l < 18446744073709551616 := by
  induction l generalizing h with
  | nil => exact h0
  | cons c l ih => exact ih (hstep_lt h c.toNat)
theorem hashN_lt {seed : Nat} (h : seed < 18446744073709551616) (s : ByteArray) : hashN seed s < 18446744073709551616 := hashI_lt (hseed_lt h) _
end Go.V
end
section
namespace Go.V
open Go.Base Go.RowKit
set_option linter.unusedVariables false
set_option linter.unusedSimpArgs false
/-! ### As data -/
structure Tb (α : Type) where
  seed : Nat
  a : List (List (ByteArray × α))
  b : List (List (ByteArray × α))
  moved : Nat
  n : Nat
section
variable {α : Type}
def bkt (seed n : Nat) (k : ByteArray) : Nat := hashN seed k % n
/-- Where a key stands in a bucket; -1: nowhere. -/
def ixI (l : List (ByteArray × α)) (k : ByteArray) : Int := if l.findIdx (fun x => decide (x.1 = k)) < l.length then (l.findIdx (fun x => decide (x.1 = k)) : Int) else -1
theorem ixI_hit {l : List (ByteArray × α)} {k : ByteArray} {i : Nat} (hi : i < l.length) (h : ∀ (j : Nat) (x : ByteArray × α), j < i → l[j]? = some x → x.1 ≠ k) {y : ByteArray × α} (hy : l[i]? = some y) (hk : y.1 = k) : ixI l k = (i : Int) := by
  have hf : l.findIdx (fun x => decide (x.1 = k)) = i := by
    rw [List.findIdx_eq hi]
    rw [List.getElem?_eq_getElem hi] at hy
    injection hy with hy
    subst hy
    refine ⟨decide_eq_true hk, fun j hj => decide_eq_false (h j _ hj (List.getElem?_eq_getElem (by omega)))⟩
  unfold ixI
  rw [hf, if_pos hi]
theorem ixI_miss {l : List (ByteArray × α)} {k : ByteArray} (h : ∀ (j : Nat) (x : ByteArray × α), l[j]? = some x → x.1 ≠ k) : ixI l k = -1 := by
  unfold ixI
  rw [if_neg]
  intro hlt
  have := List.findIdx_getElem (w := hlt)
  exact h _ _ (List.getElem?_eq_getElem hlt) (by simpa using this)
theorem ixI_lt (l : List (ByteArray × α)) (k : ByteArray) : -1 ≤ ixI l k ∧ ixI l k < l.length := by
  unfold ixI
  split <;> omega
/-- Row, bucket, place of a key; is it there? -/
def findT (T : Tb α) (k : ByteArray) : (Int × Int × Int) × Bool :=
  if ixI (T.a.getD (bkt T.seed T.a.length k) []) k ≥ 0 then ((0, (bkt T.seed T.a.length k : Int), ixI (T.a.getD (bkt T.seed T.a.length k) []) k), true)
  else if T.b.length ≠ 0 ∧ ixI (T.b.getD (bkt T.seed T.b.length k) []) k ≥ 0 then ((1, (bkt T.seed T.b.length k : Int), ixI (T.b.getD (bkt T.seed T.b.length k) []) k), true)
  else ((0, 0, 0), false)
end
/-! ### In memory -/
section
variable {α : Type}
/-- What is in a row of buckets at rest. -/
structure TabN (tt te e : TypeId) (R : Rp (ByteArray × α)) (w : World) (H : Nat → Prop) (av : List Nat) (t gA : Nat) (vsA : List Value) (T : Tb α) : Prop where
  blk : Blk w t [.int .u64 (T.seed : Int), .slice (some ⟨gA, 0, none⟩) T.a.length T.a.length, .slice none 0 0, .int .i64 (T.moved : Int), .int .i64 (T.n : Int)] tt
  ra : Row idV w gA vsA te
  la : vsA.length = T.a.length
  bk : Bks R w e H (t :: gA :: av) (vsA ++ []) (T.a ++ [])
  ne : t ≠ gA
  pt : H t ∧ t ∉ av
  pg : H gA ∧ gA ∉ av
structure TabM (tt te e : TypeId) (R : Rp (ByteArray × α)) (w : World) (H : Nat → Prop) (av : List Nat) (t gA gB : Nat) (vsA vsB : List Value) (T : Tb α) : Prop where
  blk : Blk w t [.int .u64 (T.seed : Int), .slice (some ⟨gA, 0, none⟩) T.a.length T.a.length, .slice (some ⟨gB, 0, none⟩) T.b.length T.b.length, .int .i64 (T.moved : Int), .int .i64 (T.n : Int)] tt
  ra : Row idV w gA vsA te
  rb : Row idV w gB vsB te
  la : vsA.length = T.a.length
  lb : vsB.length = T.b.length
  bk : Bks R w e H (t :: gA :: gB :: av) (vsA ++ vsB) (T.a ++ T.b)
  ne : t ≠ gA
  ne2 : t ≠ gB
  ne3 : gA ≠ gB
  pt : H t ∧ t ∉ av
  pg : H gA ∧ gA ∉ av
  ph : H gB ∧ gB ∉ av
/-- What holds of every table that was made. -/
structure Tb.Ok (T : Tb α) : Prop where
  sd : T.seed < 18446744073709551616
  pa : 0 < T.a.length
  la : T.a.length ≤ 4398046511104
  lb : T.b.length ≤ 4398046511104
  mv : T.b.length ≠ 0 → T.moved < T.a.length
  mz : T.b.length = 0 → T.moved = 0
  nn : T.n ≤ 1099511627776
  cn : (T.a ++ T.b).flatten.length = T.n
  ks : (∀ (i : Nat), ∀ x ∈ T.a.getD i [], x.1.size ≤ 9223372036854775807) ∧ (∀ (i : Nat), ∀ x ∈ T.b.getD i [], x.1.size ≤ 9223372036854775807)
def TabX (tt te e : TypeId) (R : Rp (ByteArray × α)) (w : World) (H : Nat → Prop) (av : List Nat) (t : Nat) (T : Tb α) : Prop :=
  T.Ok ∧ ((T.b = [] ∧ ∃ gA vsA, TabN tt te e R w H av t gA vsA T) ∨ (T.b ≠ [] ∧ ∃ gA gB vsA vsB, TabM tt te e R w H av t gA gB vsA vsB T))
variable {tt te e : TypeId} {R : Rp (ByteArray × α)} {w w1 : World} {H H' P : Nat → Prop} {av av' : List Nat} {t gA gB : Nat} {vsA vsB : List Value} {T : Tb α}
theorem Row.frP {w w1 : World} {b tt : Nat} {xs : List Value} (h : Row idV w b xs tt) (f : FrP P w w1) (hb : ¬ P b) : Row idV w1 b xs tt := ⟨h.blk.frP f hb⟩
theorem TabN.frP (h : TabN tt te e R w H av t gA vsA T) (f : FrP P w w1) (hl : ∀ k, P k → k ∈ av ∨ ¬ H k) : TabN tt te e R w1 H av t gA vsA T := by
  have hn : ∀ b, H b ∧ b ∉ av → ¬ P b := fun b hb hp => (hl b hp).elim hb.2 fun q => q hb.1
  exact ⟨h.blk.frP f (hn _ h.pt), h.ra.frP f (hn _ h.pg), h.la, h.bk.frP f fun k hk => (hl k hk).imp (by intro q; simp [q]) id, h.ne, h.pt, h.pg⟩
theorem TabM.frP (h : TabM tt te e R w H av t gA gB vsA vsB T) (f : FrP P w w1) (hl : ∀ k, P k → k ∈ av ∨ ¬ H k) : TabM tt te e R w1 H av t gA gB vsA vsB T := by
  have hn : ∀ b, H b ∧ b ∉ av → ¬ P b := fun b hb hp => (hl b hp).elim hb.2 fun q => q hb.1
  exact ⟨h.blk.frP f (hn _ h.pt), h.ra.frP f (hn _ h.pg), h.rb.frP f (hn _ h.ph), h.la, h.lb, h.bk.frP f fun k hk => (hl k hk).imp (by intro q; simp [q]) id, h.ne, h.ne2, h.ne3, h.pt, h.pg, h.ph⟩
theorem TabX.frP (h : TabX tt te e R w H av t T) (f : FrP P w w1) (hl : ∀ k, P k → k ∈ av ∨ ¬ H k) : TabX tt te e R w1 H av t T :=
  ⟨h.1, h.2.imp (fun ⟨hb, gA, vsA, h⟩ => ⟨hb, gA, vsA, h.frP f hl⟩) fun ⟨hb, gA, gB, vsA, vsB, h⟩ => ⟨hb, gA, gB, vsA, vsB, h.frP f hl⟩⟩
theorem TabX.fr (h : TabX tt te e R w H av t T) {l : List Nat} (f : Fr l w w1) (hl : ∀ k ∈ l, k ∈ av ∨ ¬ H k) : TabX tt te e R w1 H av t T := h.frP (FrP.of f) hl
theorem TabX.fr0 (h : TabX tt te e R w H av t T) (f : Fr [] w w1) : TabX tt te e R w1 H av t T := h.fr f fun k hk => by cases hk
theorem TabX.alloc (h : TabX tt te e R w H av t T) (f : Fr [] w w1) {b : Nat} (hb : b = w.heap.size) (hlt : b < w1.heap.size) : TabX tt te e R w1 H (b :: av) t T := by
  have hne : ∀ x, x < w.heap.size → ¬ x = b := fun x hx e => by omega
  have hperm : ∀ {x y : Nat} {l : List Nat}, ∀ k ∈ x :: y :: b :: l, k ∈ b :: x :: y :: l := by intro x y l k hk; simp at hk ⊢; rcases hk with h | h | h | h <;> simp [h]
  refine ⟨h.1, h.2.imp (fun ⟨he, gA, vsA, h⟩ => ⟨he, gA, vsA, ?_⟩) fun ⟨he, gA, gB, vsA, vsB, h⟩ => ⟨he, gA, gB, vsA, vsB, ?_⟩⟩
  · have ht := h.blk.lt
    have hg := h.ra.lt
    exact ⟨h.blk.fr0 f, h.ra.fr0 f, h.la, (h.bk.alloc f hb hlt).sub hperm (fun k _ _ q => q), h.ne, ⟨h.pt.1, by simp [hne t ht, h.pt.2]⟩, ⟨h.pg.1, by simp [hne gA hg, h.pg.2]⟩⟩
  · have ht := h.blk.lt
    have hg := h.ra.lt
    have hg2 := h.rb.lt
    refine ⟨h.blk.fr0 f, h.ra.fr0 f, h.rb.fr0 f, h.la, h.lb, (h.bk.alloc f hb hlt).sub (fun k hk => ?_) (fun k _ _ q => q), h.ne, h.ne2, h.ne3, ⟨h.pt.1, by simp [hne t ht, h.pt.2]⟩, ⟨h.pg.1, by simp [hne gA hg, h.pg.2]⟩, ⟨h.ph.1, by simp [hne gB hg2, h.ph.2]⟩⟩
    simp at hk ⊢
    rcases hk with h | h | h | h | h <;> simp [h]
theorem TabX.sub (h : TabX tt te e R w H av t T) (hs : ∀ k ∈ av', k ∈ av) (hH : ∀ k, k < w.heap.size → H k → H' k) : TabX tt te e R w H' av' t T := by
  refine ⟨h.1, h.2.imp (fun ⟨he, gA, vsA, h⟩ => ⟨he, gA, vsA, ?_⟩) fun ⟨he, gA, gB, vsA, vsB, h⟩ => ⟨he, gA, gB, vsA, vsB, ?_⟩⟩
  · exact ⟨h.blk, h.ra, h.la, h.bk.sub (fun k hk => by simp at hk ⊢; exact hk.imp id (Or.imp id (hs k))) (fun k hk _ q => hH k hk q), h.ne, ⟨hH _ h.blk.lt h.pt.1, fun hm => h.pt.2 (hs _ hm)⟩, ⟨hH _ h.ra.lt h.pg.1, fun hm => h.pg.2 (hs _ hm)⟩⟩
  · exact ⟨h.blk, h.ra, h.rb, h.la, h.lb, h.bk.sub (fun k hk => by simp at hk ⊢; exact hk.imp id (Or.imp id (Or.imp id (hs k)))) (fun k hk _ q => hH k hk q), h.ne, h.ne2, h.ne3, ⟨hH _ h.blk.lt h.pt.1, fun hm => h.pt.2 (hs _ hm)⟩, ⟨hH _ h.ra.lt h.pg.1, fun hm => h.pg.2 (hs _ hm)⟩, ⟨hH _ h.rb.lt h.ph.1, fun hm => h.ph.2 (hs _ hm)⟩⟩
theorem TabX.lt (h : TabX tt te e R w H av t T) : t < w.heap.size := by
  rcases h.2 with ⟨_, gA, vsA, h⟩ | ⟨_, gA, gB, vsA, vsB, h⟩
  · exact h.blk.lt
  · exact h.blk.lt
theorem TabX.pt (h : TabX tt te e R w H av t T) : H t ∧ t ∉ av := by
  rcases h.2 with ⟨_, gA, vsA, h⟩ | ⟨_, gA, gB, vsA, vsB, h⟩
  · exact h.pt
  · exact h.pt
end
theorem held_row {P : Program} {a : Act} {t tt : TypeId} {x : Operand} {g i : Nat} {w w' : World} {vs : List Value} (hx : a.eval x = .pointer (some ⟨g, 0 + i * 1, none⟩)) (h : Row idV w g vs tt) (h' : Row idV w' g vs tt)
    (hn : (P.info? t).map (fun i => max 1 i.size) = some 1) (hi : i < vs.length) : Plan.CellsKept P t (a.eval x) w w' :=
  held_blk (n := 1) (off := 0 + i * 1) hx h.blk h'.blk hn rfl (by rw [List.length_map]; omega)
/-! ### Two rows' slices in one -/
section
variable {α : Type} {R : Rp α} {w w1 : World} {e : TypeId} {H : Nat → Prop} {av : List Nat} {vsA vsB : List Value} {xa xb : List (List α)} {i : Nat} {d v : Value}
theorem appA_get {β : Type} {l m : List β} {i : Nat} (hi : i < l.length) (d : β) : (l ++ m).getD i d = l.getD i d := by
  rw [List.getD_eq_getElem?_getD, List.getElem?_append_left hi, ← List.getD_eq_getElem?_getD]
theorem appB_get {β : Type} {l m : List β} {i : Nat} (d : β) : (l ++ m).getD (l.length + i) d = m.getD i d := by
  rw [List.getD_eq_getElem?_getD, List.getElem?_append_right (by omega), List.getD_eq_getElem?_getD]; congr 2; omega
theorem Bks.getA (h : Bks R w e H av (vsA ++ vsB) (xa ++ xb)) (hl : vsA.length = xa.length) (hi : i < xa.length) (d : Value) : ∃ A c, vsA.getD i d = .slice A (xa.getD i []).length c := by
  have := h.get (i := i) (by simp; omega) d
  rwa [appA_get (by omega), appA_get hi] at this
theorem Bks.getB (h : Bks R w e H av (vsA ++ vsB) (xa ++ xb)) (hl : vsA.length = xa.length) (hi : i < xb.length) (d : Value) : ∃ A c, vsB.getD i d = .slice A (xb.getD i []).length c := by
  have := h.get (i := xa.length + i) (by simp; omega) d
  rw [appB_get, ← hl, appB_get] at this
  exact this
theorem Bks.slA (h : Bks R w e H av (vsA ++ vsB) (xa ++ xb)) (hl : vsA.length = xa.length) (hi : i < xa.length) (hv : vsA.getD i d = v) : SlR R (fun _ => True) w v (xa.getD i []) := by
  have := h.sl (i := i) (by simp; omega) (d := d) (v := v) (by rw [appA_get (by omega)]; exact hv)
  rwa [appA_get hi] at this
theorem Bks.slB (h : Bks R w e H av (vsA ++ vsB) (xa ++ xb)) (hl : vsA.length = xa.length) (hi : i < xb.length) (hv : vsB.getD i d = v) : SlR R (fun _ => True) w v (xb.getD i []) := by
  have := h.sl (i := xa.length + i) (by simp; omega) (d := d) (v := v) (by rw [← hl, appB_get]; exact hv)
  rwa [appB_get] at this
theorem Bks.atA (h : Bks R w e H av (vsA ++ vsB) (xa ++ xb)) (hl : vsA.length = xa.length) (hi : i < xa.length) (hv : vsA.getD i d = v) : (vsA ++ vsB)[i]? = some v := by
  subst hv
  rw [List.getElem?_append_left (by omega), List.getD_eq_getElem?_getD, List.getElem?_eq_getElem (by omega)]; rfl
theorem Bks.atB (h : Bks R w e H av (vsA ++ vsB) (xa ++ xb)) (hl : vsA.length = xa.length) (hi : i < xb.length) (hv : vsB.getD i d = v) : (vsA ++ vsB)[xa.length + i]? = some v := by
  subst hv
  have := h.len
  simp at this
  rw [List.getElem?_append_right (by omega), List.getD_eq_getElem?_getD, ← hl, Nat.add_sub_cancel_left, List.getElem?_eq_getElem (by omega)]; rfl
variable {ro : Option Nat} {P : Program} {Q : Exit → Act → World → Prop} {a : Act} {ops : Array Oper} {rest : List Oper} {d' : Option Tmp} {ty : TypeId} {pos : String} {aft : Array Edge} {g : Option (Nat × Bool)}
theorem appRA {t : TypeId} {s x : Operand} {z : Value} {bytes : Nat} (h : Bks R w e H av (vsA ++ vsB) (xa ++ xb)) (hl : vsA.length = xa.length) (hi : i < xa.length) (hv : vsA.getD i d = v) (hs : a.eval s = v) (ad : Addr) (m c : Nat) (hx : a.eval x = .slice (some ad) m c) (ht : P.underlying t = some (.slice e))
    (hinfo : (P.info? e).map (fun i => (i.zero, i.size, i.bytes)) = some (some z, R.sz, bytes)) (hzs : z.cells.size = R.sz) (hsz : 0 < R.sz) {ys : List α} {news : List Value} (hm : ys.length = m) (hys : Cells R NoZ w ys news)
    (hnews : ∀ j u, news[j]? = some u → w.cell? (ad.add j) = some u) (hbytes : ((xa.getD i []).length + m) * bytes ≤ 140737488355328) (hb0 : 0 < bytes) (hH : H w.heap.size)
    (k : ∀ A' c' w1, Bks R w1 e H av (vsA.set i (.slice A' ((xa.getD i []).length + m) c') ++ vsB) (xa.set i (xa.getD i [] ++ ys) ++ xb) → Fr (v.ownBlock.toList) w w1 → (∀ k ∈ v.ownBlock.toList, k ∉ av ∧ H k) →
      L ro P ops Q rest (a.put d' (.slice A' ((xa.getD i []).length + m) c')) w1) : St ro P ops Q rest ⟨d', .call ⟨.builtin .append, #[s, x], #[t, t]⟩, ty, pos, aft, g⟩ a w := by
  refine appB h (i := i) (by simp; omega) (h.atA hl hi hv) hs ad m c hx ht hinfo hzs hsz hm hys hnews (by rw [appA_get hi]; exact hbytes) hb0 hH ?_
  intro A' c' w1 h1 f ho
  rw [appA_get hi] at h1 ⊢
  rw [List.set_append_left _ _ (by omega), List.set_append_left _ _ hi] at h1
  exact k A' c' w1 h1 f ho
theorem appRB {t : TypeId} {s x : Operand} {z : Value} {bytes : Nat} (h : Bks R w e H av (vsA ++ vsB) (xa ++ xb)) (hl : vsA.length = xa.length) (hi : i < xb.length) (hv : vsB.getD i d = v) (hs : a.eval s = v) (ad : Addr) (m c : Nat) (hx : a.eval x = .slice (some ad) m c) (ht : P.underlying t = some (.slice e))
    (hinfo : (P.info? e).map (fun i => (i.zero, i.size, i.bytes)) = some (some z, R.sz, bytes)) (hzs : z.cells.size = R.sz) (hsz : 0 < R.sz) {ys : List α} {news : List Value} (hm : ys.length = m) (hys : Cells R NoZ w ys news)
    (hnews : ∀ j u, news[j]? = some u → w.cell? (ad.add j) = some u) (hbytes : ((xb.getD i []).length + m) * bytes ≤ 140737488355328) (hb0 : 0 < bytes) (hH : H w.heap.size)
    (k : ∀ A' c' w1, Bks R w1 e H av (vsA ++ vsB.set i (.slice A' ((xb.getD i []).length + m) c')) (xa ++ xb.set i (xb.getD i [] ++ ys)) → Fr (v.ownBlock.toList) w w1 → (∀ k ∈ v.ownBlock.toList, k ∉ av ∧ H k) →
      L ro P ops Q rest (a.put d' (.slice A' ((xb.getD i []).length + m) c')) w1) : St ro P ops Q rest ⟨d', .call ⟨.builtin .append, #[s, x], #[t, t]⟩, ty, pos, aft, g⟩ a w := by
  refine appB h (i := xa.length + i) (by simp; omega) (h.atB hl hi hv) hs ad m c hx ht hinfo hzs hsz hm hys hnews (by rw [appB_get]; exact hbytes) hb0 hH ?_
  intro A' c' w1 h1 f ho
  rw [appB_get] at h1 ⊢
  rw [show xa.length + i = vsA.length + i by omega, List.set_append_right _ _ (by omega), Nat.add_sub_cancel_left, hl, List.set_append_right _ _ (by omega), Nat.add_sub_cancel_left] at h1
  exact k A' c' w1 h1 f ho
end
end Go.V
end
section
namespace Go.V
/-- A slice's header. -/
structure SlV where
  a : Option Addr
  n : Nat
  c : Nat
structure EntV where
  kind : Int
  s : ByteArray
  l : SlV
  z : SlV
  h : SlV
  till : Int
def SlV.nil : SlV := ⟨none, 0, 0⟩
def EntV.nil : EntV := ⟨0, ⟨#[]⟩, SlV.nil, SlV.nil, SlV.nil, 0⟩
def entR : Rp (ByteArray × EntV) := Rp.flat (⟨#[]⟩, EntV.nil) 7 (fun x => [.string x.1, .int .i64 x.2.kind, .string x.2.s, .slice x.2.l.a x.2.l.n x.2.l.c, .slice x.2.z.a x.2.z.n x.2.z.c, .slice x.2.h.a x.2.h.n x.2.h.c, .int .i64 x.2.till]) (fun _ => rfl) (fun x u hu => by simp at hu; rcases hu with rfl | rfl | rfl | rfl | rfl | rfl | rfl <;> rfl)
end Go.V
end
section
namespace Go.Proofs.YtjkegckfncfoaaaGreat
open Go.V Go.Base
open Go.RowKit (Below)
attribute [local irreducible] Act.put Act.eval
set_option linter.unusedVariables false
set_option linter.unusedSimpArgs false
set_option maxHeartbeats 4000000
set_option maxRecDepth 20000
theorem hash_any (w : World) (seed : Nat) (s : ByteArray) (hsd : seed < 18446744073709551616) (hs : s.size ≤ 9223372036854775807) : Calls Tryz.prog 115 #[.int .u64 (seed : Int), .string s] w (fun e w' => e = .returned (.int .u64 ((hashN seed s : Nat) : Int)) ∧ Fr [] w w') := by
 have hF := Fr.refl [] w
 refine V.en 23 Tryz.func115 fun a h1 => ?_
 refine V.sr h1 [] 4 4 [] fun a h4 => ?_
 refine V.sr h4 [(1, .q (.int .u64 ((hseed seed : Nat) : Int)) (V.b_xor_u64 14695981039346656037 seed (by omega) hsd))] 7 8 [(5, .int .u64 ((hseed seed : Nat) : Int))] fun a h7 => ?_
 refine V.seq fun K8 k9 => ?_
 refine V.sr h7 [] 9 9 [(10, .int .i64 (s.size : Int)), (11, .int .i64 0)] fun a h12 => ?_
 refine V.block ?_
 refine V.loop2 (fun (k : Nat) (h : Nat) a_ w_ => En 23 [] a_ [(1, .string s), (5, .int .u64 (h : Int)), (10, .int .i64 (s.size : Int)), (11, .int .i64 (k : Int))] ∧ Fr [] w w_ ∧ (k ≤ s.size) ∧ (hashI (hseed seed) ((ints s).take k) = h) ∧ (h < 18446744073709551616)) (fun (k : Nat) (h : Nat) => s.size - k) 0 (hseed seed) ?_ ?_
 ·
  refine ⟨((h12.eq 5 (v := (.int .u64 ((hseed seed : Nat) : Int))) (u := (.int .u64 ((hseed seed) : Int))) (V.int_eq (by omega))).eq 11 (v := (.int .i64 0)) (u := (.int .i64 (0 : Int))) (V.int_eq (by omega))).only _, hF, (by omega), rfl, (hseed_lt hsd)⟩
 ·
  rintro k h a13 w14 ⟨h15, hF_16, hk, hh, hlt⟩
  have hfs17 := hF_16.size
  have hbl : (byt s (k : Int)).toNat < 256 := (byt s (k : Int)).toNat_lt
  refine V.sr h15 [] 1 0 [(12, .bool (decide ((k : Int) < (s.size : Int))))] fun a h20 => ?_
  refine V.seq fun K21 k22 => ?_
  refine V.cp h20 ((k : Int) < (s.size : Int)) (fun ht23 => ?_) (fun ht23 => ?_)
  ·
   refine V.skip ?_
   refine V.then_n (k22 _ _ ?_)
   refine V.seq fun K24 k25 => ?_
   refine V.block ?_
   refine V.sr h20 [] 13 13 [(6, .int .i64 (k : Int))] fun a h28 => ?_
   have hb29 := byt_lt s (k : Int)
   refine V.rr h28 [(3, .ixs s .i64 (k : Int)), (0, .q (.int .u64 (bi s (k : Int))) (V.w_u64 (by omega) (by omega))), (0, .q (.int .u64 ((h ^^^ (byt s (k : Int)).toNat : Nat) : Int)) (V.b_xor_u64 h (byt s (k : Int)).toNat hlt (by omega))), (0, .q (.int .u64 ((hstep h (byt s (k : Int)).toNat : Nat) : Int)) (V.b_mul_u64 (h ^^^ (byt s (k : Int)).toNat) 1099511628211))] 14 20 [(5, .int .u64 ((hstep h (byt s (k : Int)).toNat : Nat) : Int))] fun a h30 => ?_
   refine V.blk_n ?_
   refine V.then_n (k25 _ _ ?_)
   refine V.rr h30 [(0, .i ((k : Int) + 1))] 21 21 [(11, .int .i64 ((k : Int) + 1))] fun a h31 => ?_
   refine V.then_n ?_
   refine ⟨k + 1, hstep h (byt s (k : Int)).toNat, by omega, ?_⟩
   refine ⟨((h31.eq 5 (v := (.int .u64 ((hstep h (byt s (k : Int)).toNat : Nat) : Int))) (u := (.int .u64 ((hstep h (byt s (k : Int)).toNat) : Int))) (V.int_eq (by omega))).eq 11 (v := (.int .i64 ((k : Int) + 1))) (u := (.int .i64 ((k + 1) : Int))) (V.int_eq (by omega))).only _, hF_16, (by omega), (wd_hash_step (by omega) hh), (hstep_lt _ _)⟩
  ·
   refine V.exit (V.then_e (V.then_e (V.blk_hit ?_)))
   refine V.then_n (k9 _ _ ?_)
   refine V.sr h20 [] 22 22 [(4, .int .u64 (h : Int))] fun a h34 => ?_
   refine V.ret ?_
   refine V.r1 h34 (.int .u64 (h : Int)) ?_
   exact ⟨congrArg Ending.returned (int_eq (by rw [hash_end (by omega) hh]; rfl)), hF_16⟩
theorem info117 : (Tryz.prog.info? 117).map (fun i => (i.zero, i.size, i.bytes)) = some (some (.agg #[.string ⟨#[]⟩, .int .i64 0, .string ⟨#[]⟩, .slice none 0 0, .slice none 0 0, .slice none 0 0, .int .i64 0]), 7, 120) := by kernel_rfl
theorem info118 : (Tryz.prog.info? 118).map (fun i => (i.zero, i.size, i.bytes)) = some (some (.slice none 0 0), 1, 24) := by kernel_rfl
abbrev itI : Rp (ByteArray × EntV) := entR
theorem bkt_lt (seed : Nat) (k : ByteArray) {n : Nat} (h : 0 < n) : bkt seed n k < n := Nat.mod_lt _ h
theorem miss_step {α : Type} (R : Rp (ByteArray × α)) {l : List (ByteArray × α)} {k : ByteArray} {i : Nat} (h : ∀ (j : Nat) (x : ByteArray × α), j < i → l[j]? = some x → x.1 ≠ k) (hi : i < l.length) (hn : ¬ (at_ R l (i : Int)).1 = k) : ∀ (j : Nat) (x : ByteArray × α), j < i + 1 → l[j]? = some x → x.1 ≠ k := by
  intro j x hj hx
  by_cases hji : j = i
  · subst hji
    have := at_some R (xs := l) (i := (j : Int)) (by omega) (by omega)
    rw [Int.toNat_natCast, hx] at this
    injection this with this
    rw [this]; exact hn
  · exact h j x (by omega) hx
theorem miss_end {α : Type} {l : List (ByteArray × α)} {k : ByteArray} {i : Nat} (h : ∀ (j : Nat) (x : ByteArray × α), j < i → l[j]? = some x → x.1 ≠ k) (hi : l.length ≤ i) : ixI l k = -1 :=
  ixI_miss fun j x hx => h j x (by have := (List.getElem?_eq_some_iff.1 hx).1; omega) hx
theorem hit_end {α : Type} (R : Rp (ByteArray × α)) {l : List (ByteArray × α)} {k : ByteArray} {i : Nat} (h : ∀ (j : Nat) (x : ByteArray × α), j < i → l[j]? = some x → x.1 ≠ k) (hi : i < l.length) (hk : (at_ R l (i : Int)).1 = k) : ixI l k = (i : Int) :=
  ixI_hit hi h (at_some R (xs := l) (i := (i : Int)) (by omega) (by omega)) hk
theorem made_N (w : World) (t : Nat) (seed n0 n1 c1 gA gB : Nat) (m1 m2 : Value) (hB : Blk w t [.int .u64 (seed : Int), .slice (some ⟨gA, 0, none⟩) n0 n0, .slice none 0 0, m1, m2] 122) : Calls Tryz.prog 64 #[.pointer (some ⟨t, 0, none⟩)] w (fun e w' => e = .returned (.bool true) ∧ Fr [] w w') := by
 have hF := Fr.refl [] w
 refine V.en 13 Tryz.func64 fun a h1 => ?_
 refine V.sr h1 [] 2 2 [] fun a h4 => ?_
 refine V.sr h4 [(7, .b hB 1)] 3 12 [(2, .bool true)] fun a h7 => ?_
 refine V.ret ?_
 refine V.r1 h7 (.bool true) ?_
 exact ⟨rfl, hF⟩
theorem made_M (w : World) (t : Nat) (seed n0 n1 c1 gA gB : Nat) (m1 m2 : Value) (hB : Blk w t [.int .u64 (seed : Int), .slice (some ⟨gA, 0, none⟩) n0 n0, .slice (some ⟨gB, 0, none⟩) n1 n1, m1, m2] 122) : Calls Tryz.prog 64 #[.pointer (some ⟨t, 0, none⟩)] w (fun e w' => e = .returned (.bool true) ∧ Fr [] w w') := by
 have hF := Fr.refl [] w
 refine V.en 13 Tryz.func64 fun a h1 => ?_
 refine V.sr h1 [] 2 2 [] fun a h4 => ?_
 refine V.sr h4 [(7, .b hB 1)] 3 12 [(2, .bool true)] fun a h7 => ?_
 refine V.ret ?_
 refine V.r1 h7 (.bool true) ?_
 exact ⟨rfl, hF⟩
theorem moves_N (w : World) (t : Nat) (seed n0 n1 c1 gA gB : Nat) (m1 m2 : Value) (hB : Blk w t [.int .u64 (seed : Int), .slice (some ⟨gA, 0, none⟩) n0 n0, .slice none 0 0, m1, m2] 122) : Calls Tryz.prog 82 #[.pointer (some ⟨t, 0, none⟩)] w (fun e w' => e = .returned (.bool false) ∧ Fr [] w w') := by
 have hF := Fr.refl [] w
 refine V.en 9 Tryz.func82 fun a h1 => ?_
 refine V.sr h1 [] 2 2 [] fun a h4 => ?_
 refine V.sr h4 [(4, .b hB 2)] 3 8 [(2, .bool false)] fun a h7 => ?_
 refine V.ret ?_
 refine V.r1 h7 (.bool false) ?_
 exact ⟨rfl, hF⟩
theorem moves_M (w : World) (t : Nat) (seed n0 n1 c1 gA gB : Nat) (m1 m2 : Value) (hB : Blk w t [.int .u64 (seed : Int), .slice (some ⟨gA, 0, none⟩) n0 n0, .slice (some ⟨gB, 0, none⟩) n1 n1, m1, m2] 122) : Calls Tryz.prog 82 #[.pointer (some ⟨t, 0, none⟩)] w (fun e w' => e = .returned (.bool true) ∧ Fr [] w w') := by
 have hF := Fr.refl [] w
 refine V.en 9 Tryz.func82 fun a h1 => ?_
 refine V.sr h1 [] 2 2 [] fun a h4 => ?_
 refine V.sr h4 [(4, .b hB 2)] 3 8 [(2, .bool true)] fun a h7 => ?_
 refine V.ret ?_
 refine V.r1 h7 (.bool true) ?_
 exact ⟨rfl, hF⟩
theorem bucket_N0 (w : World) (t : Nat) (seed n0 n1 c1 gA gB : Nat) (m1 m2 : Value) (hB : Blk w t [.int .u64 (seed : Int), .slice (some ⟨gA, 0, none⟩) n0 n0, .slice none 0 0, m1, m2] 122) (k : ByteArray) (hsd : seed < 18446744073709551616) (hk : k.size ≤ 9223372036854775807) (hn : 0 < n0) (hn2 : n0 ≤ 4398046511104) : Calls Tryz.prog 83 #[.pointer (some ⟨t, 0, none⟩), .int .i64 0, .string k] w (fun e w' => e = .returned (.int .i64 ((bkt seed n0 k : Nat) : Int)) ∧ Fr [] w w') := by
 have hF := Fr.refl [] w
 have hbk := bkt_lt seed k hn
 refine V.en 23 Tryz.func83 fun a h1 => ?_
 refine V.sr h1 [] 6 6 [] fun a h4 => ?_
 refine V.seq fun K5 k6 => ?_
 refine V.pl [([0,1,2,3,4,6,7,8,9,10,11,12,13],some (5,[11])),([14,15,16],none)] fun w7 hF8 hsw7 => ?_
 have hF_9 := hF.new hF8
 have hB_10 := hB.fr0 hF8
 refine V.pe h4 [(3, .b hB_10 0), (6, .b hB_10 1), (1, .q (.int .u64 ((n0 : Nat) : Int)) (V.w_u64 (by omega) (by omega)))] 7 19 [(10, .int .u64 (seed : Int)), (11, .string k), (17, .pointer (some ⟨t, 1, none⟩)), (20, .int .u64 ((n0 : Nat) : Int))] fun a h11 => ?_
 refine V.cl h11 (Go.Proofs.enters_of Tryz.func115 (by kernel_rfl) rfl) (hash_any w7 seed k (by omega) (by omega)) ?_
 rintro _ w13 ⟨rfl, hF12⟩
 refine ⟨_, rfl, fun a h14 => ?_⟩
 have hsw13 := hF12.size
 have hF_15 := hF_9.new hF12
 have hB_16 := hB_10.fr0 hF12
 have hhl12 := hashN_lt (seed := seed) (by omega) k
 refine V.eh (fun _ => held_blk (n := 1) (hx := (h11.e (v := (.pointer (some ⟨t, 1, none⟩))))) hB_10 hB_16 (by kernel_rfl) rfl (by simp only [List.length]; omega)) ?_
 refine V.pz h14 [(0, .remN .u64 (hashN seed k) n0), (0, .q (.int .i64 ((bkt seed n0 k : Nat) : Int)) (V.w_i64 (by omega) (by omega)))] 21 22 [(6, .int .i64 ((bkt seed n0 k : Nat) : Int))] fun a h17 => k6 _ _ ?_
 refine V.ret ?_
 refine V.r1 h17 (.int .i64 ((bkt seed n0 k : Nat) : Int)) ?_
 exact ⟨rfl, hF_15⟩
theorem bucket_M0 (w : World) (t : Nat) (seed n0 n1 c1 gA gB : Nat) (m1 m2 : Value) (hB : Blk w t [.int .u64 (seed : Int), .slice (some ⟨gA, 0, none⟩) n0 n0, .slice (some ⟨gB, 0, none⟩) n1 n1, m1, m2] 122) (k : ByteArray) (hsd : seed < 18446744073709551616) (hk : k.size ≤ 9223372036854775807) (hn : 0 < n0) (hn2 : n0 ≤ 4398046511104) : Calls Tryz.prog 83 #[.pointer (some ⟨t, 0, none⟩), .int .i64 0, .string k] w (fun e w' => e = .returned (.int .i64 ((bkt seed n0 k : Nat) : Int)) ∧ Fr [] w w') := by
 have hF := Fr.refl [] w
 have hbk := bkt_lt seed k hn
 refine V.en 23 Tryz.func83 fun a h1 => ?_
 refine V.sr h1 [] 6 6 [] fun a h4 => ?_
 refine V.seq fun K5 k6 => ?_
 refine V.pl [([0,1,2,3,4,6,7,8,9,10,11,12,13],some (5,[11])),([14,15,16],none)] fun w7 hF8 hsw7 => ?_
 have hF_9 := hF.new hF8
 have hB_10 := hB.fr0 hF8
 refine V.pe h4 [(3, .b hB_10 0), (6, .b hB_10 1), (1, .q (.int .u64 ((n0 : Nat) : Int)) (V.w_u64 (by omega) (by omega)))] 7 19 [(10, .int .u64 (seed : Int)), (11, .string k), (17, .pointer (some ⟨t, 1, none⟩)), (20, .int .u64 ((n0 : Nat) : Int))] fun a h11 => ?_
 refine V.cl h11 (Go.Proofs.enters_of Tryz.func115 (by kernel_rfl) rfl) (hash_any w7 seed k (by omega) (by omega)) ?_
 rintro _ w13 ⟨rfl, hF12⟩
 refine ⟨_, rfl, fun a h14 => ?_⟩
 have hsw13 := hF12.size
 have hF_15 := hF_9.new hF12
 have hB_16 := hB_10.fr0 hF12
 have hhl12 := hashN_lt (seed := seed) (by omega) k
 refine V.eh (fun _ => held_blk (n := 1) (hx := (h11.e (v := (.pointer (some ⟨t, 1, none⟩))))) hB_10 hB_16 (by kernel_rfl) rfl (by simp only [List.length]; omega)) ?_
 refine V.pz h14 [(0, .remN .u64 (hashN seed k) n0), (0, .q (.int .i64 ((bkt seed n0 k : Nat) : Int)) (V.w_i64 (by omega) (by omega)))] 21 22 [(6, .int .i64 ((bkt seed n0 k : Nat) : Int))] fun a h17 => k6 _ _ ?_
 refine V.ret ?_
 refine V.r1 h17 (.int .i64 ((bkt seed n0 k : Nat) : Int)) ?_
 exact ⟨rfl, hF_15⟩
theorem bucket_M1 (w : World) (t : Nat) (seed n0 n1 c1 gA gB : Nat) (m1 m2 : Value) (hB : Blk w t [.int .u64 (seed : Int), .slice (some ⟨gA, 0, none⟩) n0 n0, .slice (some ⟨gB, 0, none⟩) n1 n1, m1, m2] 122) (k : ByteArray) (hsd : seed < 18446744073709551616) (hk : k.size ≤ 9223372036854775807) (hn : 0 < n1) (hn2 : n1 ≤ 4398046511104) : Calls Tryz.prog 83 #[.pointer (some ⟨t, 0, none⟩), .int .i64 1, .string k] w (fun e w' => e = .returned (.int .i64 ((bkt seed n1 k : Nat) : Int)) ∧ Fr [] w w') := by
 have hF := Fr.refl [] w
 have hbk := bkt_lt seed k hn
 refine V.en 23 Tryz.func83 fun a h1 => ?_
 refine V.sr h1 [] 6 6 [] fun a h4 => ?_
 refine V.seq fun K5 k6 => ?_
 refine V.pl [([0,1,2,3,4,6,7,8,9,10,11,12,13],some (5,[11])),([14,15,16],none)] fun w7 hF8 hsw7 => ?_
 have hF_9 := hF.new hF8
 have hB_10 := hB.fr0 hF8
 refine V.pe h4 [(3, .b hB_10 0), (6, .b hB_10 2), (1, .q (.int .u64 ((n1 : Nat) : Int)) (V.w_u64 (by omega) (by omega)))] 7 19 [(10, .int .u64 (seed : Int)), (11, .string k), (17, .pointer (some ⟨t, 2, none⟩)), (20, .int .u64 ((n1 : Nat) : Int))] fun a h11 => ?_
 refine V.cl h11 (Go.Proofs.enters_of Tryz.func115 (by kernel_rfl) rfl) (hash_any w7 seed k (by omega) (by omega)) ?_
 rintro _ w13 ⟨rfl, hF12⟩
 refine ⟨_, rfl, fun a h14 => ?_⟩
 have hsw13 := hF12.size
 have hF_15 := hF_9.new hF12
 have hB_16 := hB_10.fr0 hF12
 have hhl12 := hashN_lt (seed := seed) (by omega) k
 refine V.eh (fun _ => held_blk (n := 1) (hx := (h11.e (v := (.pointer (some ⟨t, 2, none⟩))))) hB_10 hB_16 (by kernel_rfl) rfl (by simp only [List.length]; omega)) ?_
 refine V.pz h14 [(0, .remN .u64 (hashN seed k) n1), (0, .q (.int .i64 ((bkt seed n1 k : Nat) : Int)) (V.w_i64 (by omega) (by omega)))] 21 22 [(6, .int .i64 ((bkt seed n1 k : Nat) : Int))] fun a h17 => k6 _ _ ?_
 refine V.ret ?_
 refine V.r1 h17 (.int .i64 ((bkt seed n1 k : Nat) : Int)) ?_
 exact ⟨rfl, hF_15⟩
theorem find1_any (w : World) (kb : Nat) (x : ByteArray) (v : EntV) (k : ByteArray) (hB : Blk w kb [.string k] 9) : Calls Tryz.prog 100 #[.agg #[.string x, .int .i64 v.kind, .string v.s, .slice v.l.a v.l.n v.l.c, .slice v.z.a v.z.n v.z.c, .slice v.h.a v.h.n v.h.c, .int .i64 v.till], .pointer (some ⟨kb, 0, none⟩)] w (fun e w' => e = .returned (.bool (decide (x = k))) ∧ Fr [] w w') := by
 have hF := Fr.refl [] w
 refine V.en 8 Tryz.func100 fun a h1 => ?_
 refine V.sg fun K2 k3 => ?_
 refine V.go (V.mk [(0, .agg #[.string x, .int .i64 v.kind, .string v.s, .slice v.l.a v.l.n v.l.c, .slice v.z.a v.z.n v.z.c, .slice v.h.a v.h.n v.h.c, .int .i64 v.till])] ⟨h1.e, trivial⟩ (by kernel_rfl) [.string x, .int .i64 v.kind, .string v.s, .slice v.l.a v.l.n v.l.c, .slice v.z.a v.z.n v.z.c, .slice v.h.a v.h.n v.h.c, .int .i64 v.till] 117 (fun b => .pointer (some ⟨b, 0, none⟩)) (by kernel_rfl) ?_)
 intro w5 b4 heb4 hB6 hF7 hsb4
 have hF_8 := hF.new hF7
 have hB_9 := hB.fr0 hF7
 refine V.pt h1 fun a h10 => ?_
 refine V.re h10 [] 3 3 [] fun a h11 => k3 _ _ ?_
 refine V.sr h11 [(1, .b hB6 0), (0, .b hB_9 0), (0, .seq x k)] 4 7 [(3, .bool (decide (x = k)))] fun a h14 => ?_
 refine V.ret ?_
 refine V.r1 h14 (.bool (decide (x = k))) ?_
 exact ⟨congrArg Ending.returned (congrArg Value.bool rfl), hF_8⟩
theorem ixf_any (w : World) (Z : Nat → Prop) (A0 : Option Addr) (c0 kb : Nat) (l : List (ByteArray × EntV)) (k : ByteArray) (hS : SlR itI Z w (.slice A0 l.length c0) l) (hB : Blk w kb [.string k] 9) : Calls Tryz.prog 99 #[.slice A0 l.length c0, .func (.func 100) #[] #[.pointer (some ⟨kb, 0, none⟩)]] w (fun e w' => e = .returned (.int .i64 (ixI l k)) ∧ Fr [] w w') := by
 have hF := Fr.refl [] w
 have hlen0 := hS.len_le
 refine V.en 19 Tryz.func99 fun a h1 => ?_
 refine V.sr h1 [] 4 4 [] fun a h4 => ?_
 refine V.seq fun K5 k6 => ?_
 refine V.sr h4 [] 6 6 [(7, .int .i64 ((l.length : Nat) : Int)), (8, .int .i64 0)] fun a h9 => ?_
 refine V.block ?_
 refine V.loop1 (fun (i : Nat) a_ w_ => En 19 [] a_ [(0, .slice A0 l.length c0), (1, .func (.func 100) #[] #[.pointer (some ⟨kb, 0, none⟩)]), (7, .int .i64 ((l.length : Nat) : Int)), (8, .int .i64 (i : Int))] ∧ Fr [] w w_ ∧ SlR itI Z w_ (.slice A0 l.length c0) l ∧ Blk w_ kb [.string k] 9 ∧ (i ≤ l.length) ∧ (∀ (j : Nat) (x : ByteArray × EntV), j < i → l[j]? = some x → x.1 ≠ k)) (fun (i : Nat) => l.length - i) 0 ?_ ?_
 ·
  refine ⟨(h9.eq 8 (v := (.int .i64 0)) (u := (.int .i64 (0 : Int))) (V.int_eq (by omega))).only _, hF, hS, hB, (by omega), (fun j x hj => by omega)⟩
 ·
  rintro i a10 w11 ⟨h12, hF_13, hS_14, hB_15, hi, hmiss⟩
  have hfs16 := hF_13.size
  have hlt17 := hB_15.lt
  refine V.sr h12 [] 1 0 [(9, .bool (decide ((i : Int) < ((l.length : Nat) : Int))))] fun a h20 => ?_
  refine V.seq fun K21 k22 => ?_
  refine V.cp h20 ((i : Int) < ((l.length : Nat) : Int)) (fun ht23 => ?_) (fun ht23 => ?_)
  ·
   refine V.skip ?_
   refine V.then_n (k22 _ _ ?_)
   refine V.seq fun K24 k25 => ?_
   refine V.block ?_
   refine V.sr h20 [] 10 10 [(5, .int .i64 (i : Int))] fun a h28 => ?_
   obtain ⟨g31, o32, hA33, hA33l, hA33z⟩ := hS_14.addr (by omega)
   obtain ⟨cs34, hok35, hE36⟩ := hS_14.els hA33 (i : Int) (by omega) (by omega)
   refine V.sg fun K29 k30 => ?_
   refine V.run h28 [(3, .ix g31 o32 l.length c0 .i64 (i : Int) 7 hA33)] 4 12 13 [(11, .func (.func 100) #[] #[.pointer (some ⟨kb, 0, none⟩)]), (14, .pointer (some ⟨g31, o32 + (i : Int).toNat * 7, none⟩))] fun a h37 => ?_
   obtain rfl : cs34 = [.string (at_ itI l (i : Int)).1, .int .i64 (at_ itI l (i : Int)).2.kind, .string (at_ itI l (i : Int)).2.s, .slice (at_ itI l (i : Int)).2.l.a (at_ itI l (i : Int)).2.l.n (at_ itI l (i : Int)).2.l.c, .slice (at_ itI l (i : Int)).2.z.a (at_ itI l (i : Int)).2.z.n (at_ itI l (i : Int)).2.z.c, .slice (at_ itI l (i : Int)).2.h.a (at_ itI l (i : Int)).2.h.n (at_ itI l (i : Int)).2.h.c, .int .i64 (at_ itI l (i : Int)).2.till] := hok35
   refine V.run h37 [(0, .ls ⟨g31, o32 + (i : Int).toNat * 7, none⟩ [.string ((at_ itI l (i : Int)).1), .int .i64 (((at_ itI l (i : Int)).2).kind), .string (((at_ itI l (i : Int)).2).s), .slice (((at_ itI l (i : Int)).2).l.a) (((at_ itI l (i : Int)).2).l.n) (((at_ itI l (i : Int)).2).l.c), .slice (((at_ itI l (i : Int)).2).z.a) (((at_ itI l (i : Int)).2).z.n) (((at_ itI l (i : Int)).2).z.c), .slice (((at_ itI l (i : Int)).2).h.a) (((at_ itI l (i : Int)).2).h.n) (((at_ itI l (i : Int)).2).h.c), .int .i64 (((at_ itI l (i : Int)).2).till)] (hE36.cells 0 _ rfl))] 1 1 0 [(15, .agg #[.string ((at_ itI l (i : Int)).1), .int .i64 (((at_ itI l (i : Int)).2).kind), .string (((at_ itI l (i : Int)).2).s), .slice (((at_ itI l (i : Int)).2).l.a) (((at_ itI l (i : Int)).2).l.n) (((at_ itI l (i : Int)).2).l.c), .slice (((at_ itI l (i : Int)).2).z.a) (((at_ itI l (i : Int)).2).z.n) (((at_ itI l (i : Int)).2).z.c), .slice (((at_ itI l (i : Int)).2).h.a) (((at_ itI l (i : Int)).2).h.n) (((at_ itI l (i : Int)).2).h.c), .int .i64 (((at_ itI l (i : Int)).2).till)])] fun a h38 => ?_
   refine V.cl h38 (Go.Proofs.enters_of Tryz.func100 (by kernel_rfl) rfl) (find1_any w11 kb ((at_ itI l (i : Int)).1) ((at_ itI l (i : Int)).2) k hB_15) ?_
   rintro _ w40 ⟨rfl, hF39⟩
   refine ⟨_, rfl, fun a h41 => ?_⟩
   have hsw40 := hF39.size
   have hF_42 := hF_13.new hF39
   have hS_43 := hS_14.fr0 hF39
   have hB_44 := hB_15.fr0 hF39
   refine V.nt (k30 _ _ ?_)
   refine V.cp h41 (((at_ itI l (i : Int)).1) = k) (fun ht46 => ?_) (fun ht46 => ?_)
   ·
    refine V.sr h41 [] 17 17 [(4, .int .i64 (i : Int))] fun a h49 => ?_
    refine V.ret (V.blk_r (V.then_r (V.then_r (V.blk_r (V.then_r ?_)))))
    refine V.r1 h49 (.int .i64 (i : Int)) ?_
    exact ⟨congrArg Ending.returned (int_eq (hit_end itI hmiss (by omega) ht46).symm), hF_42⟩
   ·
    refine V.skip (V.blk_n ?_)
    refine V.then_n (k25 _ _ ?_)
    refine V.rr h41 [(0, .i ((i : Int) + 1))] 18 18 [(8, .int .i64 ((i : Int) + 1))] fun a h50 => ?_
    refine V.then_n ?_
    refine ⟨i + 1, by omega, ?_⟩
    refine ⟨(h50.eq 8 (v := (.int .i64 ((i : Int) + 1))) (u := (.int .i64 ((i + 1) : Int))) (V.int_eq (by omega))).only _, hF_42, hS_43, hB_44, (by omega), (miss_step itI hmiss (by omega) ht46)⟩
  ·
   refine V.exit (V.then_e (V.then_e (V.blk_hit ?_)))
   refine V.then_n (k6 _ _ ?_)
   refine V.sr h20 [] 1 0 [(4, .int .i64 (-1))] fun a h53 => ?_
   refine V.ret ?_
   refine V.r1 h53 (.int .i64 (-1)) ?_
   exact ⟨congrArg Ending.returned (int_eq (miss_end hmiss (by omega)).symm), hF_13⟩
theorem find_N (w : World) (H : Nat → Prop) (av : List Nat) (t gA : Nat) (vsA : List Value) (T : Tb EntV) (hok : T.Ok) (hT : TabN 122 118 117 itI w H av t gA vsA T) (k : ByteArray) (hk : k.size ≤ 9223372036854775807) (hb : T.b.length = 0) : Calls Tryz.prog 70 #[.pointer (some ⟨t, 0, none⟩), .string k] w (fun e w' => e = .returned (.tuple #[.agg #[.int .i64 (findT T k).1.1, .int .i64 (findT T k).1.2.1, .int .i64 (findT T k).1.2.2], .bool (findT T k).2]) ∧ Fr [] w w') := by
 have hF := Fr.refl [] w
 obtain ⟨hsd, hpa, hla, hlb, hmv, hmz, hnn, hcn, hks⟩ := hok
 obtain ⟨hB, hRA, hlA, hK, hne, hpt, hpg⟩ := hT
 have hltt := hB.lt
 have hltg := hRA.lt
 refine V.en 42 Tryz.func70 fun a h1 => ?_
 refine V.sg fun K2 k3 => ?_
 refine V.go (V.mk [(1, .string k)] ⟨h1.e, trivial⟩ (by kernel_rfl) [.string k] 9 (fun b => .pointer (some ⟨b, 0, none⟩)) (by kernel_rfl) ?_)
 intro w5 b4 heb4 hB6 hF7 hsb4
 have hF_8 := hF.new hF7
 have hB_9 := hB.fr0 hF7
 have hRA_10 := hRA.fr0 hF7
 have hK_11 := hK.alloc hF7 heb4 (by omega)
 refine V.pt h1 fun a h12 => ?_
 refine V.go (V.mk [] trivial (by kernel_rfl) [.int .i64 0, .int .i64 0, .int .i64 0] 113 (fun b => .pointer (some ⟨b, 0, none⟩)) (by kernel_rfl) ?_)
 intro w14 b13 heb13 hB15 hF16 hsb13
 have hF_17 := hF_8.new hF16
 have hB_18 := hB_9.fr0 hF16
 have hRA_19 := hRA_10.fr0 hF16
 have hK_20 := hK_11.alloc hF16 heb13 (by omega)
 have hB6_21 := hB6.fr0 hF16
 refine V.pt h12 fun a h22 => ?_
 refine V.re h22 [] 5 5 [] fun a h23 => k3 _ _ ?_
 refine V.seq fun K24 k25 => ?_
 refine V.sr h23 [] 1 0 [(9, .int .i64 0)] fun a h28 => ?_
 refine V.block ?_
 refine V.loopR 3 ?_
 refine V.rnd ?_
 refine V.sr h28 [] 1 0 [(10, .bool true)] fun a h31 => ?_
 refine V.seq fun K32 k33 => ?_
 refine V.ct h31 ?_
 refine V.skip ?_
 refine V.then_n (k33 _ _ ?_)
 refine V.seq fun K34 k35 => ?_
 refine V.block ?_
 refine V.sr h31 [] 11 11 [(6, .int .i64 0)] fun a h38 => ?_
 refine V.seq fun K39 k40 => ?_
 refine V.sr h38 [(5, .b hB_18 1)] 12 17 [(18, .bool false)] fun a h43 => ?_
 refine V.cf h43 ?_
 refine V.skip ?_
 refine V.then_n (k40 _ _ ?_)
 refine V.sg fun K44 k45 => ?_
 refine V.run h43 [(2, .b hB6_21 0)] 3 1 0 [(19, .pointer (some ⟨t, 0, none⟩)), (20, .int .i64 0), (21, .string k)] fun a h46 => ?_
 refine V.cl h46 (Go.Proofs.enters_of Tryz.func83 (by kernel_rfl) rfl) (bucket_N0 w14 t T.seed T.a.length 0 0 gA 0 (.int .i64 (T.moved : Int)) (.int .i64 (T.n : Int)) hB_18 k (by omega) (by omega) (by omega) (by omega)) ?_
 rintro _ w48 ⟨rfl, hF47⟩
 refine ⟨_, rfl, fun a h49 => ?_⟩
 have hsw48 := hF47.size
 have hF_50 := hF_17.new hF47
 have hB_51 := hB_18.fr0 hF47
 have hRA_52 := hRA_19.fr0 hF47
 have hK_53 := hK_20.fr0 hF47
 have hB6_54 := hB6_21.fr0 hF47
 have hB15_55 := hB15.fr0 hF47
 have hbl47 := bkt_lt T.seed k (n := T.a.length) (by omega)
 refine V.re h49 [] 1 0 [(7, .int .i64 ((bkt T.seed T.a.length k : Nat) : Int))] fun a h56 => k45 _ _ ?_
 obtain ⟨A59, c60, hv61⟩ := hK_53.getA hlA (i := (bkt T.seed T.a.length k)) (by omega) nilS
 have hS62 := hK_53.slA hlA (i := (bkt T.seed T.a.length k)) (by omega) hv61
 refine V.sg fun K57 k58 => ?_
 refine V.run h56 [(5, .b hB_51 1), (1, .ix gA 0 T.a.length T.a.length .i64 ((bkt T.seed T.a.length k : Nat) : Int) 1 rfl), (0, .l ⟨gA, 0 + ((bkt T.seed T.a.length k : Nat) : Int).toNat * 1, none⟩ (.slice A59 ((T.a.getD (bkt T.seed T.a.length k) []).length) c60) ((hRA_52.at (bkt T.seed T.a.length k) nilS (by omega)).trans (congrArg some hv61)))] 10 23 30 [(31, .slice A59 ((T.a.getD (bkt T.seed T.a.length k) []).length) c60), (32, .func (.func 100) #[] #[.pointer (some ⟨b4, 0, none⟩)])] fun a h63 => ?_
 refine V.cl h63 (Go.Proofs.enters_of Tryz.func99 (by kernel_rfl) rfl) (ixf_any w48 _ A59 c60 b4 (T.a.getD (bkt T.seed T.a.length k) []) k hS62 hB6_54) ?_
 rintro _ w65 ⟨rfl, hF64⟩
 refine ⟨_, rfl, fun a h66 => ?_⟩
 have hsw65 := hF64.size
 have hF_67 := hF_50.new hF64
 have hB_68 := hB_51.fr0 hF64
 have hB15_72 := hB15_55.fr0 hF64
 have hix64 := ixI_lt (T.a.getD (bkt T.seed T.a.length k) []) k
 refine V.re h66 [] 1 0 [(8, .int .i64 (ixI (T.a.getD (bkt T.seed T.a.length k) []) k))] fun a h74 => k58 _ _ ?_
 refine V.sr h74 [] 34 34 [(35, .bool (decide ((ixI (T.a.getD (bkt T.seed T.a.length k) []) k) ≥ 0)))] fun a h77 => ?_
 refine V.cp h77 ((ixI (T.a.getD (bkt T.seed T.a.length k) []) k) ≥ 0) (fun ht78 => ?_) (fun ht78 => ?_)
 ·
  refine V.sg fun K79 k80 => ?_
  refine V.run h77 [] 4 36 38 [(39, .agg #[.int .i64 0, .int .i64 ((bkt T.seed T.a.length k : Nat) : Int), .int .i64 (ixI (T.a.getD (bkt T.seed T.a.length k) []) k)])] fun a h84 => ?_
  refine V.go (V.stn b13 0 (.agg #[.int .i64 0, .int .i64 ((bkt T.seed T.a.length k : Nat) : Int), .int .i64 (ixI (T.a.getD (bkt T.seed T.a.length k) []) k)]) [.int .i64 0, .int .i64 ((bkt T.seed T.a.length k : Nat) : Int), .int .i64 (ixI (T.a.getD (bkt T.seed T.a.length k) []) k)] h84.e h84.e rfl rfl (by kernel_rfl) hB15_72 (by simp) [.int .i64 0, .int .i64 ((bkt T.seed T.a.length k : Nat) : Int), .int .i64 (ixI (T.a.getD (bkt T.seed T.a.length k) []) k)] rfl ?_)
  intro w81 hB82 hF83 hsw81
  have hF_85 := hF_67.own hF83 (by simp <;> omega)
  refine V.re h84 [] 1 0 [(5, .bool true)] fun a h90 => k80 _ _ ?_
  refine V.ret (V.blk_r (V.then_r (V.then_r (V.blk_r (V.then_r ?_)))))
  refine V.retCT h90.sd rfl _ (h90.e (v := (.pointer (some ⟨b13, 0, none⟩)))) (V.run_loadVar_agg (cs := [.int .i64 0, .int .i64 ((bkt T.seed T.a.length k : Nat) : Int), .int .i64 (ixI (T.a.getD (bkt T.seed T.a.length k) []) k)]) (by kernel_rfl) (blk_cells hB82 0 _ rfl)) (h90.e (v := (.bool true))) ?_
  refine ⟨?_, hF_85⟩
  unfold findT
  rw [if_pos (by omega)]
 ·
  refine V.skip (V.blk_n ?_)
  refine V.then_n (k35 _ _ ?_)
  refine V.rr h77 [] 40 40 [(9, .int .i64 1)] fun a h91 => ?_
  refine V.then_n ?_
  refine V.rnd ?_
  have h92 := h91.only [(0, .pointer (some ⟨t, 0, none⟩)), (3, .pointer (some ⟨b4, 0, none⟩)), (4, .pointer (some ⟨b13, 0, none⟩)), (9, .int .i64 1)]
  refine V.sr h92 [] 1 0 [(10, .bool true)] fun a h95 => ?_
  refine V.seq fun K96 k97 => ?_
  refine V.ct h95 ?_
  refine V.skip ?_
  refine V.then_n (k97 _ _ ?_)
  refine V.seq fun K98 k99 => ?_
  refine V.block ?_
  refine V.sr h95 [] 11 11 [(6, .int .i64 1)] fun a h102 => ?_
  refine V.seq fun K103 k104 => ?_
  refine V.sr h102 [(5, .b hB_68 2)] 12 17 [(18, .bool true)] fun a h107 => ?_
  refine V.ct h107 ?_
  refine V.exit (V.then_e (V.blk_hit ?_))
  refine V.then_n (k99 _ _ ?_)
  refine V.rr h107 [] 40 40 [(9, .int .i64 2)] fun a h108 => ?_
  refine V.then_n ?_
  refine V.rnd ?_
  refine V.sr h108 [] 1 0 [(10, .bool false)] fun a h111 => ?_
  refine V.seq fun K112 k113 => ?_
  refine V.cf h111 ?_
  refine V.exit (V.then_e (V.then_e (V.blk_hit ?_)))
  refine V.then_n (k25 _ _ ?_)
  refine V.sg fun K114 k115 => ?_
  refine V.run h111 [] 1 1 0 [(41, .agg #[.int .i64 0, .int .i64 0, .int .i64 0])] fun a h119 => ?_
  refine V.go (V.stn b13 0 (.agg #[.int .i64 0, .int .i64 0, .int .i64 0]) [.int .i64 0, .int .i64 0, .int .i64 0] h119.e h119.e rfl rfl (by kernel_rfl) hB15_72 (by simp) [.int .i64 0, .int .i64 0, .int .i64 0] rfl ?_)
  intro w116 hB117 hF118 hsw116
  have hF_120 := hF_67.own hF118 (by simp <;> omega)
  refine V.re h119 [] 1 0 [(5, .bool false)] fun a h125 => k115 _ _ ?_
  refine V.ret ?_
  refine V.retCT h125.sd rfl _ (h125.e (v := (.pointer (some ⟨b13, 0, none⟩)))) (V.run_loadVar_agg (cs := [.int .i64 0, .int .i64 0, .int .i64 0]) (by kernel_rfl) (blk_cells hB117 0 _ rfl)) (h125.e (v := (.bool false))) ?_
  refine ⟨?_, hF_120⟩
  unfold findT
  rw [if_neg (by omega), if_neg (by omega)]
theorem find_M (w : World) (H : Nat → Prop) (av : List Nat) (t gA gB : Nat) (vsA vsB : List Value) (T : Tb EntV) (hok : T.Ok) (hT : TabM 122 118 117 itI w H av t gA gB vsA vsB T) (k : ByteArray) (hk : k.size ≤ 9223372036854775807) (hb : T.b.length ≠ 0) : Calls Tryz.prog 70 #[.pointer (some ⟨t, 0, none⟩), .string k] w (fun e w' => e = .returned (.tuple #[.agg #[.int .i64 (findT T k).1.1, .int .i64 (findT T k).1.2.1, .int .i64 (findT T k).1.2.2], .bool (findT T k).2]) ∧ Fr [] w w') := by
 have hF := Fr.refl [] w
 obtain ⟨hsd, hpa, hla, hlb, hmv, hmz, hnn, hcn, hks⟩ := hok
 obtain ⟨hB, hRA, hRB, hlA, hlB, hK, hne, hne2, hne3, hpt, hpg, hph⟩ := hT
 have hltg2 := hRB.lt
 have hltt := hB.lt
 have hltg := hRA.lt
 refine V.en 42 Tryz.func70 fun a h1 => ?_
 refine V.sg fun K2 k3 => ?_
 refine V.go (V.mk [(1, .string k)] ⟨h1.e, trivial⟩ (by kernel_rfl) [.string k] 9 (fun b => .pointer (some ⟨b, 0, none⟩)) (by kernel_rfl) ?_)
 intro w5 b4 heb4 hB6 hF7 hsb4
 have hF_8 := hF.new hF7
 have hB_9 := hB.fr0 hF7
 have hRA_10 := hRA.fr0 hF7
 have hRB_11 := hRB.fr0 hF7
 have hK_12 := hK.alloc hF7 heb4 (by omega)
 refine V.pt h1 fun a h13 => ?_
 refine V.go (V.mk [] trivial (by kernel_rfl) [.int .i64 0, .int .i64 0, .int .i64 0] 113 (fun b => .pointer (some ⟨b, 0, none⟩)) (by kernel_rfl) ?_)
 intro w15 b14 heb14 hB16 hF17 hsb14
 have hF_18 := hF_8.new hF17
 have hB_19 := hB_9.fr0 hF17
 have hRA_20 := hRA_10.fr0 hF17
 have hRB_21 := hRB_11.fr0 hF17
 have hK_22 := hK_12.alloc hF17 heb14 (by omega)
 have hB6_23 := hB6.fr0 hF17
 refine V.pt h13 fun a h24 => ?_
 refine V.re h24 [] 5 5 [] fun a h25 => k3 _ _ ?_
 refine V.seq fun K26 k27 => ?_
 refine V.sr h25 [] 1 0 [(9, .int .i64 0)] fun a h30 => ?_
 refine V.block ?_
 refine V.loopR 3 ?_
 refine V.rnd ?_
 refine V.sr h30 [] 1 0 [(10, .bool true)] fun a h33 => ?_
 refine V.seq fun K34 k35 => ?_
 refine V.ct h33 ?_
 refine V.skip ?_
 refine V.then_n (k35 _ _ ?_)
 refine V.seq fun K36 k37 => ?_
 refine V.block ?_
 refine V.sr h33 [] 11 11 [(6, .int .i64 0)] fun a h40 => ?_
 refine V.seq fun K41 k42 => ?_
 refine V.sr h40 [(5, .b hB_19 1)] 12 17 [(18, .bool false)] fun a h45 => ?_
 refine V.cf h45 ?_
 refine V.skip ?_
 refine V.then_n (k42 _ _ ?_)
 refine V.sg fun K46 k47 => ?_
 refine V.run h45 [(2, .b hB6_23 0)] 3 1 0 [(19, .pointer (some ⟨t, 0, none⟩)), (20, .int .i64 0), (21, .string k)] fun a h48 => ?_
 refine V.cl h48 (Go.Proofs.enters_of Tryz.func83 (by kernel_rfl) rfl) (bucket_M0 w15 t T.seed T.a.length T.b.length 0 gA gB (.int .i64 (T.moved : Int)) (.int .i64 (T.n : Int)) hB_19 k (by omega) (by omega) (by omega) (by omega)) ?_
 rintro _ w50 ⟨rfl, hF49⟩
 refine ⟨_, rfl, fun a h51 => ?_⟩
 have hsw50 := hF49.size
 have hF_52 := hF_18.new hF49
 have hB_53 := hB_19.fr0 hF49
 have hRA_54 := hRA_20.fr0 hF49
 have hRB_55 := hRB_21.fr0 hF49
 have hK_56 := hK_22.fr0 hF49
 have hB6_57 := hB6_23.fr0 hF49
 have hB16_58 := hB16.fr0 hF49
 have hbl49 := bkt_lt T.seed k (n := T.a.length) (by omega)
 refine V.re h51 [] 1 0 [(7, .int .i64 ((bkt T.seed T.a.length k : Nat) : Int))] fun a h59 => k47 _ _ ?_
 obtain ⟨A62, c63, hv64⟩ := hK_56.getA hlA (i := (bkt T.seed T.a.length k)) (by omega) nilS
 have hS65 := hK_56.slA hlA (i := (bkt T.seed T.a.length k)) (by omega) hv64
 refine V.sg fun K60 k61 => ?_
 refine V.run h59 [(5, .b hB_53 1), (1, .ix gA 0 T.a.length T.a.length .i64 ((bkt T.seed T.a.length k : Nat) : Int) 1 rfl), (0, .l ⟨gA, 0 + ((bkt T.seed T.a.length k : Nat) : Int).toNat * 1, none⟩ (.slice A62 ((T.a.getD (bkt T.seed T.a.length k) []).length) c63) ((hRA_54.at (bkt T.seed T.a.length k) nilS (by omega)).trans (congrArg some hv64)))] 10 23 30 [(31, .slice A62 ((T.a.getD (bkt T.seed T.a.length k) []).length) c63), (32, .func (.func 100) #[] #[.pointer (some ⟨b4, 0, none⟩)])] fun a h66 => ?_
 refine V.cl h66 (Go.Proofs.enters_of Tryz.func99 (by kernel_rfl) rfl) (ixf_any w50 _ A62 c63 b4 (T.a.getD (bkt T.seed T.a.length k) []) k hS65 hB6_57) ?_
 rintro _ w68 ⟨rfl, hF67⟩
 refine ⟨_, rfl, fun a h69 => ?_⟩
 have hsw68 := hF67.size
 have hF_70 := hF_52.new hF67
 have hB_71 := hB_53.fr0 hF67
 have hRB_73 := hRB_55.fr0 hF67
 have hK_74 := hK_56.fr0 hF67
 have hB6_75 := hB6_57.fr0 hF67
 have hB16_76 := hB16_58.fr0 hF67
 have hix67 := ixI_lt (T.a.getD (bkt T.seed T.a.length k) []) k
 refine V.re h69 [] 1 0 [(8, .int .i64 (ixI (T.a.getD (bkt T.seed T.a.length k) []) k))] fun a h78 => k61 _ _ ?_
 refine V.sr h78 [] 34 34 [(35, .bool (decide ((ixI (T.a.getD (bkt T.seed T.a.length k) []) k) ≥ 0)))] fun a h81 => ?_
 refine V.cp h81 ((ixI (T.a.getD (bkt T.seed T.a.length k) []) k) ≥ 0) (fun ht82 => ?_) (fun ht82 => ?_)
 ·
  refine V.sg fun K83 k84 => ?_
  refine V.run h81 [] 4 36 38 [(39, .agg #[.int .i64 0, .int .i64 ((bkt T.seed T.a.length k : Nat) : Int), .int .i64 (ixI (T.a.getD (bkt T.seed T.a.length k) []) k)])] fun a h88 => ?_
  refine V.go (V.stn b14 0 (.agg #[.int .i64 0, .int .i64 ((bkt T.seed T.a.length k : Nat) : Int), .int .i64 (ixI (T.a.getD (bkt T.seed T.a.length k) []) k)]) [.int .i64 0, .int .i64 ((bkt T.seed T.a.length k : Nat) : Int), .int .i64 (ixI (T.a.getD (bkt T.seed T.a.length k) []) k)] h88.e h88.e rfl rfl (by kernel_rfl) hB16_76 (by simp) [.int .i64 0, .int .i64 ((bkt T.seed T.a.length k : Nat) : Int), .int .i64 (ixI (T.a.getD (bkt T.seed T.a.length k) []) k)] rfl ?_)
  intro w85 hB86 hF87 hsw85
  have hF_89 := hF_70.own hF87 (by simp <;> omega)
  refine V.re h88 [] 1 0 [(5, .bool true)] fun a h95 => k84 _ _ ?_
  refine V.ret (V.blk_r (V.then_r (V.then_r (V.blk_r (V.then_r ?_)))))
  refine V.retCT h95.sd rfl _ (h95.e (v := (.pointer (some ⟨b14, 0, none⟩)))) (V.run_loadVar_agg (cs := [.int .i64 0, .int .i64 ((bkt T.seed T.a.length k : Nat) : Int), .int .i64 (ixI (T.a.getD (bkt T.seed T.a.length k) []) k)]) (by kernel_rfl) (blk_cells hB86 0 _ rfl)) (h95.e (v := (.bool true))) ?_
  refine ⟨?_, hF_89⟩
  unfold findT
  rw [if_pos (by omega)]
 ·
  refine V.skip (V.blk_n ?_)
  refine V.then_n (k37 _ _ ?_)
  refine V.rr h81 [] 40 40 [(9, .int .i64 1)] fun a h96 => ?_
  refine V.then_n ?_
  refine V.rnd ?_
  have h97 := h96.only [(0, .pointer (some ⟨t, 0, none⟩)), (3, .pointer (some ⟨b4, 0, none⟩)), (4, .pointer (some ⟨b14, 0, none⟩)), (9, .int .i64 1)]
  refine V.sr h97 [] 1 0 [(10, .bool true)] fun a h100 => ?_
  refine V.seq fun K101 k102 => ?_
  refine V.ct h100 ?_
  refine V.skip ?_
  refine V.then_n (k102 _ _ ?_)
  refine V.seq fun K103 k104 => ?_
  refine V.block ?_
  refine V.sr h100 [] 11 11 [(6, .int .i64 1)] fun a h107 => ?_
  refine V.seq fun K108 k109 => ?_
  refine V.sr h107 [(5, .b hB_71 2)] 12 17 [(18, .bool false)] fun a h112 => ?_
  refine V.cf h112 ?_
  refine V.skip ?_
  refine V.then_n (k109 _ _ ?_)
  refine V.sg fun K113 k114 => ?_
  refine V.run h112 [(2, .b hB6_75 0)] 3 1 0 [(19, .pointer (some ⟨t, 0, none⟩)), (20, .int .i64 1), (21, .string k)] fun a h115 => ?_
  refine V.cl h115 (Go.Proofs.enters_of Tryz.func83 (by kernel_rfl) rfl) (bucket_M1 w68 t T.seed T.a.length T.b.length 0 gA gB (.int .i64 (T.moved : Int)) (.int .i64 (T.n : Int)) hB_71 k (by omega) (by omega) (by omega) (by omega)) ?_
  rintro _ w117 ⟨rfl, hF116⟩
  refine ⟨_, rfl, fun a h118 => ?_⟩
  have hsw117 := hF116.size
  have hF_119 := hF_70.new hF116
  have hB_120 := hB_71.fr0 hF116
  have hRB_122 := hRB_73.fr0 hF116
  have hK_123 := hK_74.fr0 hF116
  have hB6_124 := hB6_75.fr0 hF116
  have hB16_125 := hB16_76.fr0 hF116
  have hbl116 := bkt_lt T.seed k (n := T.b.length) (by omega)
  refine V.re h118 [] 1 0 [(7, .int .i64 ((bkt T.seed T.b.length k : Nat) : Int))] fun a h127 => k114 _ _ ?_
  obtain ⟨A130, c131, hv132⟩ := hK_123.getB hlA (i := (bkt T.seed T.b.length k)) (by omega) nilS
  have hS133 := hK_123.slB hlA (i := (bkt T.seed T.b.length k)) (by omega) hv132
  refine V.sg fun K128 k129 => ?_
  refine V.run h127 [(5, .b hB_120 2), (1, .ix gB 0 T.b.length T.b.length .i64 ((bkt T.seed T.b.length k : Nat) : Int) 1 rfl), (0, .l ⟨gB, 0 + ((bkt T.seed T.b.length k : Nat) : Int).toNat * 1, none⟩ (.slice A130 ((T.b.getD (bkt T.seed T.b.length k) []).length) c131) ((hRB_122.at (bkt T.seed T.b.length k) nilS (by omega)).trans (congrArg some hv132)))] 10 23 30 [(31, .slice A130 ((T.b.getD (bkt T.seed T.b.length k) []).length) c131), (32, .func (.func 100) #[] #[.pointer (some ⟨b4, 0, none⟩)])] fun a h134 => ?_
  refine V.cl h134 (Go.Proofs.enters_of Tryz.func99 (by kernel_rfl) rfl) (ixf_any w117 _ A130 c131 b4 (T.b.getD (bkt T.seed T.b.length k) []) k hS133 hB6_124) ?_
  rintro _ w136 ⟨rfl, hF135⟩
  refine ⟨_, rfl, fun a h137 => ?_⟩
  have hsw136 := hF135.size
  have hF_138 := hF_119.new hF135
  have hB16_144 := hB16_125.fr0 hF135
  have hix135 := ixI_lt (T.b.getD (bkt T.seed T.b.length k) []) k
  refine V.re h137 [] 1 0 [(8, .int .i64 (ixI (T.b.getD (bkt T.seed T.b.length k) []) k))] fun a h147 => k129 _ _ ?_
  refine V.sr h147 [] 34 34 [(35, .bool (decide ((ixI (T.b.getD (bkt T.seed T.b.length k) []) k) ≥ 0)))] fun a h150 => ?_
  refine V.cp h150 ((ixI (T.b.getD (bkt T.seed T.b.length k) []) k) ≥ 0) (fun ht151 => ?_) (fun ht151 => ?_)
  ·
   refine V.sg fun K152 k153 => ?_
   refine V.run h150 [] 4 36 38 [(39, .agg #[.int .i64 1, .int .i64 ((bkt T.seed T.b.length k : Nat) : Int), .int .i64 (ixI (T.b.getD (bkt T.seed T.b.length k) []) k)])] fun a h157 => ?_
   refine V.go (V.stn b14 0 (.agg #[.int .i64 1, .int .i64 ((bkt T.seed T.b.length k : Nat) : Int), .int .i64 (ixI (T.b.getD (bkt T.seed T.b.length k) []) k)]) [.int .i64 1, .int .i64 ((bkt T.seed T.b.length k : Nat) : Int), .int .i64 (ixI (T.b.getD (bkt T.seed T.b.length k) []) k)] h157.e h157.e rfl rfl (by kernel_rfl) hB16_144 (by simp) [.int .i64 1, .int .i64 ((bkt T.seed T.b.length k : Nat) : Int), .int .i64 (ixI (T.b.getD (bkt T.seed T.b.length k) []) k)] rfl ?_)
   intro w154 hB155 hF156 hsw154
   have hF_158 := hF_138.own hF156 (by simp <;> omega)
   refine V.re h157 [] 1 0 [(5, .bool true)] fun a h164 => k153 _ _ ?_
   refine V.ret (V.blk_r (V.then_r (V.then_r (V.blk_r (V.then_r ?_)))))
   refine V.retCT h164.sd rfl _ (h164.e (v := (.pointer (some ⟨b14, 0, none⟩)))) (V.run_loadVar_agg (cs := [.int .i64 1, .int .i64 ((bkt T.seed T.b.length k : Nat) : Int), .int .i64 (ixI (T.b.getD (bkt T.seed T.b.length k) []) k)]) (by kernel_rfl) (blk_cells hB155 0 _ rfl)) (h164.e (v := (.bool true))) ?_
   refine ⟨?_, hF_158⟩
   unfold findT
   rw [if_neg (by omega), if_pos ⟨by omega, by omega⟩]
  ·
   refine V.skip (V.blk_n ?_)
   refine V.then_n (k104 _ _ ?_)
   refine V.rr h150 [] 40 40 [(9, .int .i64 2)] fun a h165 => ?_
   refine V.then_n ?_
   refine V.rnd ?_
   have h166 := h165.only [(0, .pointer (some ⟨t, 0, none⟩)), (3, .pointer (some ⟨b4, 0, none⟩)), (4, .pointer (some ⟨b14, 0, none⟩)), (9, .int .i64 2)]
   refine V.sr h166 [] 1 0 [(10, .bool false)] fun a h169 => ?_
   refine V.seq fun K170 k171 => ?_
   refine V.cf h169 ?_
   refine V.exit (V.then_e (V.then_e (V.blk_hit ?_)))
   refine V.then_n (k27 _ _ ?_)
   refine V.sg fun K172 k173 => ?_
   refine V.run h169 [] 1 1 0 [(41, .agg #[.int .i64 0, .int .i64 0, .int .i64 0])] fun a h177 => ?_
   refine V.go (V.stn b14 0 (.agg #[.int .i64 0, .int .i64 0, .int .i64 0]) [.int .i64 0, .int .i64 0, .int .i64 0] h177.e h177.e rfl rfl (by kernel_rfl) hB16_144 (by simp) [.int .i64 0, .int .i64 0, .int .i64 0] rfl ?_)
   intro w174 hB175 hF176 hsw174
   have hF_178 := hF_138.own hF176 (by simp <;> omega)
   refine V.re h177 [] 1 0 [(5, .bool false)] fun a h184 => k173 _ _ ?_
   refine V.ret ?_
   refine V.retCT h184.sd rfl _ (h184.e (v := (.pointer (some ⟨b14, 0, none⟩)))) (V.run_loadVar_agg (cs := [.int .i64 0, .int .i64 0, .int .i64 0]) (by kernel_rfl) (blk_cells hB175 0 _ rfl)) (h184.e (v := (.bool false))) ?_
   refine ⟨?_, hF_178⟩
   unfold findT
   rw [if_neg (by omega), if_neg (by omega)]
end Go.Proofs.YtjkegckfncfoaaaGreat
end
section
namespace Go.V
set_option linter.unusedVariables false
set_option linter.unusedSimpArgs false
section
variable {α : Type}
def startT (T : Tb α) (n : Nat) : Tb α := { T with b := List.replicate n [], moved := 0 }
def putB (seed : Nat) (b : List (List (ByteArray × α))) (x : ByteArray × α) : List (List (ByteArray × α)) := b.set (bkt seed b.length x.1) (b.getD (bkt seed b.length x.1) [] ++ [x])
def movedT (T : Tb α) : Tb α := { T with a := T.a.set T.moved [], b := (T.a.getD T.moved []).foldl (putB T.seed) T.b, moved := T.moved + 1 }
def swapT (T : Tb α) : Tb α := { T with a := T.b, b := [], moved := 0 }
def tbStep (T : Tb α) : Tb α :=
  if T.b.length = 0 then T
  else if T.moved + 1 < T.a.length then movedT T
  else if T.n > (movedT T).b.length then startT (swapT (movedT T)) (2 * (movedT T).b.length) else swapT (movedT T)
/-- A value anew, at a place. -/
def setV (l : List (List (ByteArray × α))) (i j : Nat) (v : α) : List (List (ByteArray × α)) := l.set i ((l.getD i []).modify j fun x => (x.1, v))
def insT (T : Tb α) (k : ByteArray) (v : α) : Tb α :=
  if T.b.length = 0 then
    if T.n + 1 > T.a.length then startT { T with a := putB T.seed T.a (k, v), n := T.n + 1 } (2 * T.a.length) else { T with a := putB T.seed T.a (k, v), n := T.n + 1 }
  else { T with b := putB T.seed T.b (k, v), n := T.n + 1 }
def updT (T : Tb α) (k : ByteArray) (v : α) : Tb α :=
  if (findT T k).1.1 = 0 then { T with a := setV T.a (findT T k).1.2.1.toNat (findT T k).1.2.2.toNat v } else { T with b := setV T.b (findT T k).1.2.1.toNat (findT T k).1.2.2.toNat v }
def put1T (T : Tb α) (k : ByteArray) (v : α) : Tb α := if (findT T k).2 = true then updT T k v else insT T k v
def putT (T : Tb α) (k : ByteArray) (v : α) : Tb α := put1T (tbStep T) k v
theorem putB_length (seed : Nat) (b : List (List (ByteArray × α))) (x : ByteArray × α) : (putB seed b x).length = b.length := by simp [putB]
theorem putBs_length (seed : Nat) : ∀ (l : List (ByteArray × α)) (b : List (List (ByteArray × α))), (l.foldl (putB seed) b).length = b.length
  | [], b => rfl
  | x :: l, b => by rw [List.foldl_cons, putBs_length seed l, putB_length]
theorem movedT_b (T : Tb α) : (movedT T).b.length = T.b.length := putBs_length _ _ _
theorem movedT_a (T : Tb α) : (movedT T).a.length = T.a.length := by simp [movedT]
/-! how many -/
theorem flat_set {β : Type} : ∀ (l : List (List β)) (i : Nat) (y : List β), i < l.length → (l.set i y).flatten.length + (l.getD i []).length = l.flatten.length + y.length
  | [], i, y, h => by simp at h
  | x :: l, 0, y, h => by simp; omega
  | x :: l, i + 1, y, h => by
    have := flat_set l i y (by simpa using h)
    simp at this ⊢
    omega
theorem flat_getD {β : Type} (l : List (List β)) (i : Nat) : (l.getD i []).length ≤ l.flatten.length := by
  rcases Nat.lt_or_ge i l.length with h | h
  · have := flat_set l i [] h
    simp at this ⊢; omega
  · rw [List.getD_eq_getElem?_getD, List.getElem?_eq_none h]; simp
theorem flat_nil {β : Type} (n : Nat) : (List.replicate n ([] : List β)).flatten.length = 0 := by simp
theorem putB_flat {seed : Nat} {b : List (List (ByteArray × α))} (h : 0 < b.length) (x : ByteArray × α) : (putB seed b x).flatten.length = b.flatten.length + 1 := by
  have := flat_set b (bkt seed b.length x.1) (b.getD (bkt seed b.length x.1) [] ++ [x]) (Nat.mod_lt _ h)
  unfold putB
  rw [List.length_append] at this
  simp at this ⊢; omega
theorem putBs_flat {seed : Nat} : ∀ (l : List (ByteArray × α)) (b : List (List (ByteArray × α))), 0 < b.length → (l.foldl (putB seed) b).flatten.length = b.flatten.length + l.length
  | [], b, h => rfl
  | x :: l, b, h => by rw [List.foldl_cons, putBs_flat l _ (by rw [putB_length]; exact h), putB_flat h, List.length_cons]; omega
theorem setV_length (l : List (List (ByteArray × α))) (i j : Nat) (v : α) : (setV l i j v).length = l.length := by simp [setV]
theorem setV_flat (l : List (List (ByteArray × α))) (i j : Nat) (v : α) : (setV l i j v).flatten.length = l.flatten.length := by
  unfold setV
  rcases Nat.lt_or_ge i l.length with h | h
  · have := flat_set l i ((l.getD i []).modify j fun x => (x.1, v)) h
    rw [List.length_modify] at this
    omega
  · rw [List.set_eq_of_length_le h]
theorem Tb.Ok.sum {T : Tb α} (h : T.Ok) : T.a.flatten.length + T.b.flatten.length = T.n := by
  have := h.cn
  rwa [List.flatten_append, List.length_append] at this
theorem Tb.Ok.bl {T : Tb α} (h : T.Ok) (i : Nat) : (T.a.getD i []).length ≤ T.n ∧ (T.b.getD i []).length ≤ T.n := by
  have := h.sum
  have := flat_getD T.a i
  have := flat_getD T.b i
  omega
theorem Tb.Ok.moved {T : Tb α} (h : T.Ok) (hb : T.b.length ≠ 0) : (movedT T).a.flatten.length + (movedT T).b.flatten.length = T.n ∧ ((movedT T).a.getD T.moved []) = [] := by
  have h1 := h.sum
  have h2 := flat_set T.a T.moved [] (h.mv hb)
  have h3 := putBs_flat (seed := T.seed) (T.a.getD T.moved []) T.b (by omega)
  refine ⟨?_, getD_set_self (h.mv hb) _ _⟩
  show (T.a.set T.moved []).flatten.length + ((T.a.getD T.moved []).foldl (putB T.seed) T.b).flatten.length = T.n
  rw [List.length_nil] at h2
  omega
/-- All keys of a row are of a length that there is. -/
def KsR (l : List (List (ByteArray × α))) : Prop := ∀ (i : Nat), ∀ x ∈ l.getD i [], x.1.size ≤ 9223372036854775807
theorem getD_nil {β : Type} {l : List (List β)} {i : Nat} (h : l.length ≤ i) : l.getD i [] = [] := by rw [List.getD_eq_getElem?_getD, List.getElem?_eq_none h]; rfl
theorem KsR.set {l : List (List (ByteArray × α))} (h : KsR l) (i : Nat) {y : List (ByteArray × α)} (hy : ∀ x ∈ y, x.1.size ≤ 9223372036854775807) : KsR (l.set i y) := by
  intro j x hx
  by_cases hj : i = j
  · subst hj
    rcases Nat.lt_or_ge i l.length with hl | hl
    · rw [getD_set_self hl] at hx; exact hy x hx
    · rw [List.set_eq_of_length_le hl] at hx; exact h i x hx
  · rw [getD_set_ne hj] at hx; exact h j x hx
theorem KsR.put {seed : Nat} {b : List (List (ByteArray × α))} (h : KsR b) {x : ByteArray × α} (hx : x.1.size ≤ 9223372036854775807) : KsR (putB seed b x) :=
  KsR.set h _ fun y hy => by
    rcases List.mem_append.1 hy with hy | hy
    · exact h _ y hy
    · rw [List.mem_singleton.1 hy]; exact hx
theorem KsR.puts {seed : Nat} : ∀ (l : List (ByteArray × α)) {b : List (List (ByteArray × α))}, KsR b → (∀ x ∈ l, x.1.size ≤ 9223372036854775807) → KsR (l.foldl (putB seed) b)
  | [], b, h, _ => h
  | x :: l, b, h, hl => KsR.puts l (h.put (hl x (List.mem_cons_self ..))) fun y hy => hl y (List.mem_cons_of_mem _ hy)
theorem KsR.nils (n : Nat) : KsR (List.replicate n ([] : List (ByteArray × α))) := by
  intro i x hx
  have : (List.replicate n ([] : List (ByteArray × α))).getD i [] = [] := by
    rw [List.getD_eq_getElem?_getD, List.getElem?_replicate]; split <;> rfl
  rw [this] at hx; cases hx
theorem KsR.setV {l : List (List (ByteArray × α))} (h : KsR l) (i j : Nat) (v : α) : KsR (setV l i j v) :=
  KsR.set h _ fun y hy => by
    obtain ⟨q, hq⟩ := List.mem_iff_getElem?.1 hy
    rw [List.getElem?_modify] at hq
    obtain ⟨z, hz, rfl⟩ := Option.map_eq_some_iff.1 hq
    have := h i z (List.mem_of_getElem? hz)
    split <;> exact this
theorem ks_at {R : Rp (ByteArray × α)} {l : List (ByteArray × α)} (h : ∀ x ∈ l, x.1.size ≤ 9223372036854775807) {i : Int} (h0 : 0 ≤ i) (h1 : i < l.length) : (at_ R l i).1.size ≤ 9223372036854775807 := h _ (List.mem_of_getElem? (at_some R h0 h1))
theorem startT_ok {T : Tb α} (h : T.Ok) (hb : T.b = []) {n : Nat} (hn : 0 < n) (hn2 : n ≤ 4398046511104) : (startT T n).Ok :=
  ⟨h.sd, h.pa, h.la, by simp [startT]; exact hn2, fun _ => h.pa, fun _ => rfl, h.nn, by
    have := h.sum
    rw [List.flatten_append, List.length_append]
    show T.a.flatten.length + (List.replicate n []).flatten.length = T.n
    rw [flat_nil]
    rw [hb] at this
    exact this, h.ks.1, KsR.nils n⟩
/-- While it moves: the buckets that were moved hold nothing. -/
def Tb.Mv (T : Tb α) : Prop := ∀ i, i < T.moved → T.a.getD i [] = []
theorem flat_zero {β : Type} : ∀ (l : List (List β)), (∀ i, l.getD i [] = []) → l.flatten.length = 0
  | [], _ => rfl
  | x :: l, h => by
    have h0 := h 0
    have := flat_zero l (fun i => by simpa using h (i + 1))
    simp at h0 ⊢
    simp at this
    exact ⟨h0, this⟩
theorem tbStep_ok {T : Tb α} (h : T.Ok) (hm : T.Mv) : (tbStep T).Ok ∧ (tbStep T).Mv := by
  unfold tbStep
  by_cases hb : T.b.length = 0
  · rw [if_pos hb]; exact ⟨h, hm⟩
  rw [if_neg hb]
  obtain ⟨h1, h2⟩ := h.moved hb
  have hmv := h.mv hb
  have hmm : ∀ i, i < T.moved + 1 → (movedT T).a.getD i [] = [] := by
    intro i hi
    by_cases he : i = T.moved
    · subst he; exact h2
    · show (T.a.set T.moved []).getD i [] = []
      rw [getD_set_ne (fun e => he e.symm)]; exact hm i (by omega)
  by_cases hl : T.moved + 1 < T.a.length
  · rw [if_pos hl]
    exact ⟨⟨h.sd, by rw [movedT_a]; exact h.pa, by rw [movedT_a]; exact h.la, by rw [movedT_b]; exact h.lb, fun _ => by rw [movedT_a]; exact hl, fun h0 => absurd (by rw [movedT_b] at h0; exact h0) hb, h.nn, by rw [List.flatten_append, List.length_append]; exact h1, KsR.set h.ks.1 _ (fun x hx => by cases hx), KsR.puts _ h.ks.2 (h.ks.1 T.moved)⟩, hmm⟩
  · rw [if_neg hl]
    have hz : (movedT T).a.flatten.length = 0 := flat_zero _ fun i => by
      rcases Nat.lt_or_ge i T.a.length with hi | hi
      · exact hmm i (by omega)
      · rw [List.getD_eq_getElem?_getD, List.getElem?_eq_none (by rw [movedT_a]; exact hi)]; rfl
    have hs : (swapT (movedT T)).Ok := ⟨h.sd, by show 0 < (movedT T).b.length; rw [movedT_b]; omega, by show (movedT T).b.length ≤ _; rw [movedT_b]; exact h.lb, by show 0 ≤ _; omega, fun h0 => absurd rfl h0, fun _ => rfl, h.nn, by
      show ((movedT T).b ++ []).flatten.length = T.n
      rw [List.append_nil]; omega, KsR.puts _ h.ks.2 (h.ks.1 T.moved), fun i x hx => by rw [getD_nil (Nat.zero_le _)] at hx; cases hx⟩
    by_cases hn : T.n > (movedT T).b.length
    · rw [if_pos hn]
      have := h.nn
      exact ⟨startT_ok hs rfl (by rw [movedT_b]; omega) (by omega), fun i hi => absurd hi (by show ¬ i < 0; omega)⟩
    · rw [if_neg hn]; exact ⟨hs, fun i hi => absurd hi (by show ¬ i < 0; omega)⟩
theorem findT_cases {T : Tb α} (h : T.Ok) (k : ByteArray) :
    (findT T k = ((0, 0, 0), false)) ∨ (∃ j : Nat, findT T k = ((0, (bkt T.seed T.a.length k : Int), (j : Int)), true) ∧ j < (T.a.getD (bkt T.seed T.a.length k) []).length) ∨
      (T.b.length ≠ 0 ∧ ∃ j : Nat, findT T k = ((1, (bkt T.seed T.b.length k : Int), (j : Int)), true) ∧ j < (T.b.getD (bkt T.seed T.b.length k) []).length) := by
  unfold findT
  have h1 := ixI_lt (T.a.getD (bkt T.seed T.a.length k) []) k
  have h2 := ixI_lt (T.b.getD (bkt T.seed T.b.length k) []) k
  split
  · refine .inr (.inl ⟨(ixI (T.a.getD (bkt T.seed T.a.length k) []) k).toNat, ?_, by omega⟩)
    rw [show (((ixI (T.a.getD (bkt T.seed T.a.length k) []) k).toNat : Nat) : Int) = ixI (T.a.getD (bkt T.seed T.a.length k) []) k by omega]
  · split
    · rename_i hb
      refine .inr (.inr ⟨hb.1, (ixI (T.b.getD (bkt T.seed T.b.length k) []) k).toNat, ?_, by omega⟩)
      rw [show (((ixI (T.b.getD (bkt T.seed T.b.length k) []) k).toNat : Nat) : Int) = ixI (T.b.getD (bkt T.seed T.b.length k) []) k by omega]
    · exact .inl rfl
theorem insT_ok {T : Tb α} (h : T.Ok) (hm : T.Mv) (hn : T.n < 1099511627776) (k : ByteArray) (hk : k.size ≤ 9223372036854775807) (v : α) : (insT T k v).Ok ∧ (insT T k v).Mv := by
  have hs := h.sum
  unfold insT
  by_cases hb : T.b.length = 0
  · rw [if_pos hb]
    have hb' : T.b = [] := List.eq_nil_of_length_eq_zero hb
    have ho : ({ T with a := putB T.seed T.a (k, v), n := T.n + 1 } : Tb α).Ok := ⟨h.sd, by show 0 < (putB _ _ _).length; rw [putB_length]; exact h.pa, by show (putB _ _ _).length ≤ _; rw [putB_length]; exact h.la, h.lb, fun h0 => absurd hb h0, fun _ => h.mz hb, by show T.n + 1 ≤ _; omega, by
      show (putB T.seed T.a (k, v) ++ T.b).flatten.length = T.n + 1
      rw [List.flatten_append, List.length_append, putB_flat h.pa]; omega, KsR.put h.ks.1 hk, h.ks.2⟩
    have hm0 := h.mz hb
    by_cases hg : T.n + 1 > T.a.length
    · rw [if_pos hg]
      exact ⟨startT_ok ho hb' (by have := h.pa; omega) (by omega), fun i hi => absurd hi (by show ¬ i < 0; omega)⟩
    · rw [if_neg hg]; exact ⟨ho, fun i hi => absurd hi (by show ¬ i < T.moved; omega)⟩
  · rw [if_neg hb]
    refine ⟨⟨h.sd, h.pa, h.la, by show (putB _ _ _).length ≤ _; rw [putB_length]; exact h.lb, fun _ => h.mv hb, fun h0 => absurd (by have h1 : (putB T.seed T.b (k, v)).length = 0 := h0; rwa [putB_length] at h1) hb, by show T.n + 1 ≤ _; omega, ?_, h.ks.1, KsR.put h.ks.2 hk⟩, hm⟩
    show (T.a ++ putB T.seed T.b (k, v)).flatten.length = T.n + 1
    rw [List.flatten_append, List.length_append, putB_flat (by omega)]; omega
theorem updT_ok {T : Tb α} (h : T.Ok) (hm : T.Mv) (k : ByteArray) (v : α) : (updT T k v).Ok ∧ (updT T k v).Mv := by
  have hs := h.sum
  unfold updT
  split
  · refine ⟨⟨h.sd, by show 0 < (setV ..).length; rw [setV_length]; exact h.pa, by show (setV ..).length ≤ _; rw [setV_length]; exact h.la, h.lb, fun h0 => by show _ < (setV ..).length; rw [setV_length]; exact h.mv h0, h.mz, h.nn, by
      show (setV .. ++ T.b).flatten.length = T.n
      rw [List.flatten_append, List.length_append, setV_flat]; omega, KsR.setV h.ks.1 _ _ v, h.ks.2⟩, fun i hi => ?_⟩
    show (setV ..).getD i [] = []
    have h0 := hm i hi
    unfold setV
    by_cases he : (findT T k).1.2.1.toNat = i
    · rcases Nat.lt_or_ge i T.a.length with hl | hl
      · rw [he, getD_set_self hl, h0]; simp
      · rw [List.getD_eq_getElem?_getD, List.getElem?_eq_none (by simpa using hl)]; rfl
    · rw [getD_set_ne he]; exact h0
  · refine ⟨⟨h.sd, h.pa, h.la, by show (setV ..).length ≤ _; rw [setV_length]; exact h.lb, fun h0 => h.mv (by have h1 : (setV ..).length ≠ 0 := h0; rwa [setV_length] at h1), fun h0 => h.mz (by have h1 : (setV ..).length = 0 := h0; rwa [setV_length] at h1), h.nn, by
      show (T.a ++ setV ..).flatten.length = T.n
      rw [List.flatten_append, List.length_append, setV_flat]; omega, h.ks.1, KsR.setV h.ks.2 _ _ v⟩, hm⟩
theorem put1T_ok {T : Tb α} (h : T.Ok) (hm : T.Mv) (hn : T.n < 1099511627776) (k : ByteArray) (hk : k.size ≤ 9223372036854775807) (v : α) : (put1T T k v).Ok ∧ (put1T T k v).Mv := by
  unfold put1T
  split
  · exact updT_ok h hm k v
  · exact insT_ok h hm hn k hk v
end
end Go.V
end
section
namespace Go.V
open Go.Base Go.RowKit
set_option linter.unusedVariables false
section
variable {α : Type} {R : Rp α} {w w1 : World}
end
section
variable {α : Type} {R : Rp α} {w : World} {e : TypeId} {H : Nat → Prop} {av : List Nat} {vs vsA vsB : List Value} {xs xa xb : List (List α)} {i j f : Nat} {d v : Value}
variable {ro : Option Nat} {P : Program} {Q : Exit → Act → World → Prop} {a : Act} {ops : Array Oper} {rest : List Oper} {ty : TypeId} {pos : String} {aft : Array Edge} {g : Option (Nat × Bool)}
theorem Bks.setE {w1 : World} {g o n c : Nat} (h : Bks R w e H av vs xs) (hi : i < xs.length) (hv : vs[i]? = some (.slice (some ⟨g, o, none⟩) n c)) {x' : List α} (f : Fr [g] w w1) (ho : OwR R NoZ w1 0 e (.slice (some ⟨g, o, none⟩) n c) x') : Bks R w1 e H av vs (xs.set i x') := by
  have hil : i < vs.length := by rw [h.len]; exact hi
  refine ⟨by simp [h.len], fun k u hu => ?_, h.nd, h.hom, fun k hk => Nat.lt_of_lt_of_le (h.avl k hk) f.size⟩
  by_cases hk : k = i
  · subst hk
    rw [hv] at hu; injection hu with hu; subst hu
    rw [getD_set_self hi]; exact ho
  · rw [getD_set_ne (fun e => hk e.symm)]
    exact (h.own k u hu).fr f (fun b _ hz => hz.elim) fun b hb hm => by
      simp at hm; subst hm
      exact hk (h.nd k i u _ b hu hv hb rfl)
end
end Go.V
end
section
namespace Go.V
open Go.Base Go.RowKit
set_option linter.unusedVariables false
/-- A table's blocks, and those that are new. -/
def gr (H : Nat → Prop) (w w1 : World) : Nat → Prop := fun k => H k ∨ (w.heap.size ≤ k ∧ k < w1.heap.size)
def gh (H : Nat → Prop) (w : World) : Nat → Prop := fun k => H k ∨ w.heap.size ≤ k
def gp (H : Nat → Prop) (av : List Nat) : Nat → Prop := fun k => H k ∧ k ∉ av
theorem mem3 {t g : Nat} {av l : List Nat} (h1 : t ∈ l) (h2 : g ∈ l) (h3 : ∀ k ∈ av, k ∈ l) : ∀ k ∈ t :: g :: av, k ∈ l := by
  intro k hk
  rcases List.mem_cons.1 hk with rfl | hk
  · exact h1
  · rcases List.mem_cons.1 hk with rfl | hk
    · exact h2
    · exact h3 k hk
theorem mem4 {t g g' : Nat} {av l : List Nat} (h1 : t ∈ l) (h2 : g ∈ l) (h4 : g' ∈ l) (h3 : ∀ k ∈ av, k ∈ l) : ∀ k ∈ t :: g :: g' :: av, k ∈ l := by
  intro k hk
  rcases List.mem_cons.1 hk with rfl | hk
  · exact h1
  · exact mem3 h2 h4 h3 k hk
section
variable {α : Type} {tt te e : TypeId} {R : Rp (ByteArray × α)} {w w1 w2 : World} {H : Nat → Prop} {av av' : List Nat} {t gA gB na nb sd : Nat} {mv nn : Int} {vsA vsB : List Value} {T : Tb α} {xa xb : List (List (ByteArray × α))}
theorem gr_of {k : Nat} (h : gh H w k) (hk : k < w1.heap.size) : gr H w w1 k := h.imp id fun q => ⟨q, hk⟩
theorem Bks.toH {vs : List Value} {β : Type} {R : Rp β} {xs : List (List β)} (h : Bks R w e H av vs xs) : Bks R w e (gh H w) av vs xs := h.sub (fun _ q => q) (fun k _ _ q => .inl q)
theorem TabN.fin (hok : T.Ok) (hb : T.b = []) (blk : Blk w1 t [.int .u64 (sd : Int), .slice (some ⟨gA, 0, none⟩) na na, .slice none 0 0, .int .i64 mv, .int .i64 nn] tt) (ra : Row idV w1 gA vsA te) (bk : Bks R w1 e (gh H w) av' vsA xa) (hs : ∀ k ∈ t :: gA :: av, k ∈ av') (ne : t ≠ gA) (pt : H t ∧ t ∉ av) (pg : gh H w gA ∧ gA ∉ av)
    (e1 : sd = T.seed) (e2 : na = T.a.length) (e3 : mv = (T.moved : Int)) (e4 : nn = (T.n : Int)) (e5 : xa = T.a) : TabX tt te e R w1 (gr H w w1) av t T := by
  subst e1; subst e2; subst e3; subst e4; subst e5
  refine ⟨hok, .inl ⟨hb, gA, vsA, blk, ra, bk.len, ?_, ne, ⟨.inl pt.1, pt.2⟩, ⟨gr_of pg.1 ra.lt, pg.2⟩⟩⟩
  rw [List.append_nil, List.append_nil]
  exact bk.sub hs fun k hk _ q => gr_of q hk
theorem TabM.fin (hok : T.Ok) (hb : T.b ≠ []) (blk : Blk w1 t [.int .u64 (sd : Int), .slice (some ⟨gA, 0, none⟩) na na, .slice (some ⟨gB, 0, none⟩) nb nb, .int .i64 mv, .int .i64 nn] tt) (ra : Row idV w1 gA vsA te) (rb : Row idV w1 gB vsB te) (la : vsA.length = xa.length) (bk : Bks R w1 e (gh H w) av' (vsA ++ vsB) (xa ++ xb)) (hs : ∀ k ∈ t :: gA :: gB :: av, k ∈ av') (ne : t ≠ gA) (ne2 : t ≠ gB) (ne3 : gA ≠ gB) (pt : H t ∧ t ∉ av) (pg : gh H w gA ∧ gA ∉ av) (ph : gh H w gB ∧ gB ∉ av)
    (e1 : sd = T.seed) (e2 : na = T.a.length) (e3 : mv = (T.moved : Int)) (e4 : nn = (T.n : Int)) (e5 : xa = T.a) (e6 : xb = T.b) (e7 : nb = T.b.length) : TabX tt te e R w1 (gr H w w1) av t T := by
  subst e1; subst e2; subst e3; subst e4; subst e5; subst e6; subst e7
  refine ⟨hok, .inr ⟨hb, gA, gB, vsA, vsB, blk, ra, rb, la, ?_, bk.sub hs fun k hk _ q => gr_of q hk, ne, ne2, ne3, ⟨.inl pt.1, pt.2⟩, ⟨gr_of pg.1 ra.lt, pg.2⟩, ⟨gr_of ph.1 rb.lt, ph.2⟩⟩⟩
  have := bk.len
  simp at this
  omega
theorem TabN.mk2 {H : Nat → Prop} (blk : Blk w1 t [.int .u64 (sd : Int), .slice (some ⟨gA, 0, none⟩) na na, .slice none 0 0, .int .i64 mv, .int .i64 nn] tt) (ra : Row idV w1 gA vsA te) (bk : Bks R w1 e H av' vsA xa) (hs : ∀ k ∈ t :: gA :: av, k ∈ av') (ne : t ≠ gA) (pt : H t ∧ t ∉ av) (pg : H gA ∧ gA ∉ av)
    (e1 : sd = T.seed) (e2 : na = T.a.length) (e3 : mv = (T.moved : Int)) (e4 : nn = (T.n : Int)) (e5 : xa = T.a) : TabN tt te e R w1 H av t gA vsA T := by
  subst e1; subst e2; subst e3; subst e4; subst e5
  refine ⟨blk, ra, bk.len, ?_, ne, pt, pg⟩
  rw [List.append_nil, List.append_nil]
  exact bk.sub hs fun k hk _ q => q
theorem TabX.gr2 (h : TabX tt te e R w2 (gr (gh H w) w1 w2) av t T) (hw : w.heap.size ≤ w1.heap.size) : TabX tt te e R w2 (gr H w w2) av t T :=
  h.sub (fun _ q => q) fun k hk q => by
    rcases q with q | q
    · exact gr_of q hk
    · exact .inr ⟨by omega, hk⟩
theorem TabX.gr3 (h : TabX tt te e R w2 (gr (gr H w w1) w1 w2) av t T) (hw : w.heap.size ≤ w1.heap.size) : TabX tt te e R w2 (gr H w w2) av t T :=
  h.sub (fun _ q => q) fun k hk q => by
    rcases q with q | q
    · rcases q with q | q
      · exact .inl q
      · exact .inr ⟨q.1, hk⟩
    · exact .inr ⟨by omega, hk⟩
theorem TabX.grm (h : TabX tt te e R w2 (gr H w1 w2) av t T) (hw : w.heap.size ≤ w1.heap.size) : TabX tt te e R w2 (gr H w w2) av t T :=
  h.sub (fun _ q => q) fun k hk q => q.imp id fun q => ⟨by omega, q.2⟩
theorem TabX.gr1 (h : TabX tt te e R w1 H av t T) : TabX tt te e R w1 (gr H w w1) av t T := h.sub (fun _ q => q) fun k hk q => .inl q
theorem FrP.gr {w w1 w2 : World} (h : FrP (gp H av) w w1) (f : FrP (gp (gr H w w1) av) w1 w2) : FrP (gp H av) w w2 :=
  h.trP f fun k hk => hk.1.elim (fun q => .inl ⟨q, hk.2⟩) fun q => .inr q.1
theorem Bks.takeA {vsA vsB : List Value} {β : Type} {R : Rp β} {xa xb : List (List β)} {i : Nat} {d v : Value} (h : Bks R w e H av (vsA ++ vsB) (xa ++ xb)) (hl : vsA.length = xa.length) (hi : i < xa.length) (hv : vsA.getD i d = v) :
    Bks R w e H (v.ownBlock.toList ++ av) (vsA.set i nilS ++ vsB) (xa.set i [] ++ xb) ∧ SlR R (fun k => k ∈ v.ownBlock.toList) w v (xa.getD i []) ∧ (∀ k ∈ v.ownBlock.toList, k ∉ av ∧ k < w.heap.size) := by
  have hat := h.atA hl hi hv
  have h1 := h.take (i := i) (by simp; omega) hat
  rw [List.set_append_left _ _ (by omega), List.set_append_left _ _ hi] at h1
  have h2 := h.slO (i := i) (by simp; omega) hat
  rw [appA_get hi] at h2
  exact ⟨h1, h2, fun k hk => ⟨(h.home hat k hk).1, h1.avl k (List.mem_append_left _ hk)⟩⟩
end
end Go.V
end
