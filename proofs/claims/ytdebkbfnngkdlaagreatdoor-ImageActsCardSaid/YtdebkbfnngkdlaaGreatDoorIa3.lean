/- Joined texts: Gh, Gi, Gj, AggT, Ka, Kb, Kc, Shf, Cat, Str, Bld, Row, Bits, Ke, Kd, Kf, Lw. -/
import Derived.Test.YtdebkbfnngkdlaaGreatDoorProg
import Derived.Shelf.Strings.Builder1
import Derived.Shelf.Strings.OnBuilder
import Derived.Shelf.Strings.Cut
import Derived.Shelf.Strings.Split
import Derived.Shelf.Small.Strs
import Derived.Shelf.Slices.Turned
import Derived.Shelf.Strconv.Itoa4
import Derived.Shelf.Strconv.ErrVarParseInt
import Derived.Laws.IdiomStrings
import Derived.Lib.Builder
import Derived.Lib.ItoaLen
import Derived.Test.YtdebkbfnngkdlaaGreatDoorCards
import Derived.Test.YtdebkbfnngkdlaaGreatDoorTie
import Derived.WalkKit
import Derived.ProofKit
import Derived.OpenShut
import Derived.Deep.DeepHandedRow
import Derived.Deep.DeepWitnessRowRef
import Derived.Lib.LaidTab
import Derived.Stop.LaidErr
import Derived.Shelf.Vars
import Derived.Test.YtdebkbfnngkdlaaGreatDoorIa2
section
namespace Go.Proofs.YtdebkbfnngkdlaaGreatDoor
open Go.V Go.Base
open Go.RowKit (Below)
attribute [local irreducible] Act.put Act.eval
set_option linter.unusedVariables false
set_option linter.unusedSimpArgs false
set_option maxHeartbeats 4000000
set_option maxRecDepth 20000
theorem nbP {p : Prop} : (!bP (¬ p)) = true ↔ p := by
  by_cases h : p
  · rw [← bP_no (fun q => q h : ¬ ¬ p)]; simp [h]
  · rw [← bP_yes h]; simp [h]
theorem gT_true {l : List ByteArray} {n : Nat} : AllG (gT l true) n ↔ AllG (gR Rp.str (slt) l) n ∧ AllG (gS l) n :=
  ⟨fun h => ⟨fun i hi h0 => (h i hi).2 rfl h0, fun i hi => by have := (h i hi).1; unfold gS; omega⟩, fun h i hi => ⟨by have := h.2 i hi; unfold gS at this; omega, fun _ h0 => h.1 i hi h0⟩⟩
theorem gT_false {l : List ByteArray} {n : Nat} : AllG (gT l false) n ↔ AllG (gS l) n :=
  ⟨fun h i hi => by have := (h i hi).1; unfold gS; omega, fun h i hi => ⟨by have := h i hi; unfold gS at this; omega, fun h => by cases h⟩⟩
theorem gM_iff {l : List (ByteArray × Int)} {n : Nat} : AllG (gM l) n ↔ AllG (gZ l) n ∧ AllG (gR scR (ahd) l) n :=
  ⟨fun h => ⟨fun i hi => (h i hi).1, fun i hi h0 => (h i hi).2 h0⟩, fun h i hi => ⟨h.1 i hi, fun h0 => h.2 i hi h0⟩⟩
theorem gF_iff {l : List (ByteArray × ByteArray)} {n : Nat} : AllG (gF l) n ↔ AllG (gR fdR (fun x y => slt x.1 y.1) l) n ∧ AllG (gFs l) n :=
  ⟨fun h => ⟨fun i hi h0 => (h i hi).2.2 h0, fun i hi => by have h1 := (h i hi).1; have h2 := (h i hi).2.1; unfold gFs; omega⟩, fun h i hi => by
    have h1 := h.2 i hi
    unfold gFs at h1
    exact ⟨by omega, by omega, fun h0 => h.1 i hi h0⟩⟩
theorem right_any (w : World) (k : Int) (s : ByteArray) (Al : Option Addr) (cl : Nat) (l : List ByteArray) (hSl : SlR Rp.str (fun k => k < w.heap.size) w (.slice Al l.length cl) l) (Az : Option Addr) (cz : Nat) (z : List (ByteArray × Int)) (hSz : SlR scR (fun k => k < w.heap.size) w (.slice Az z.length cz) z) (Ah : Option Addr) (ch : Nat) (h : List (ByteArray × ByteArray)) (hSh : SlR fdR (fun k => k < w.heap.size) w (.slice Ah h.length ch) h) (hll : l.length ≤ 140737488355328) (hlz : z.length ≤ 140737488355328) (hlh : h.length ≤ 140737488355328) (hz : ∀ x ∈ z, x.1.size ≤ maxLen) : Calls Tryz.prog 48 #[.agg #[.int .i64 k, .string s, .slice Al l.length cl, .slice Az z.length cz, .slice Ah h.length ch]] w (fun e w' => e = .returned (.bool (bP (okV k s l z h))) ∧ Fr [] w w') := by
 have hF := Fr.refl [] w
 refine V.en 83 Tryz.func48 fun a h1 => ?_
 refine V.sg fun K2 k3 => ?_
 refine V.go (V.mk [(0, .agg #[.int .i64 k, .string s, .slice Al l.length cl, .slice Az z.length cz, .slice Ah h.length ch])] ⟨h1.e, trivial⟩ (by kernel_rfl) [.int .i64 k, .string s, .slice Al l.length cl, .slice Az z.length cz, .slice Ah h.length ch] 46 (fun b => .pointer (some ⟨b, 0, none⟩)) (by kernel_rfl) ?_)
 intro w5 b4 heb4 hB6 hF7 hsb4
 have hF_8 := hF.new hF7
 have hSl_9 := hSl.fr0 hF7
 have hSz_10 := hSz.fr0 hF7
 have hSh_11 := hSh.fr0 hF7
 refine V.pt h1 fun a h12 => ?_
 refine V.re h12 [] 2 2 [] fun a h13 => k3 _ _ ?_
 refine V.sg fun K14 k15 => ?_
 refine V.run h13 [(0, .bs hB6 0 [.int .i64 k, .string s, .slice Al l.length cl, .slice Az z.length cz, .slice Ah h.length ch])] 1 1 0 [(5, .agg #[.int .i64 k, .string s, .slice Al l.length cl, .slice Az z.length cz, .slice Ah h.length ch])] fun a h20 => ?_
 refine V.go (V.mk [] trivial (by kernel_rfl) [.int .i64 0, .string ⟨#[]⟩, .slice none 0 0, .slice none 0 0, .slice none 0 0] 46 (fun b => .pointer (some ⟨b, 0, none⟩)) (by kernel_rfl) ?_)
 intro w17 b16 heb16 hB18 hF19 hsb16
 have hF_21 := hF_8.new hF19
 have hSl_22 := hSl_9.fr0 hF19
 have hSz_23 := hSz_10.fr0 hF19
 have hSh_24 := hSh_11.fr0 hF19
 have hB6_25 := hB6.fr0 hF19
 refine V.pt h20 fun a h26 => ?_
 refine V.go (V.stn b16 0 (.agg #[.int .i64 k, .string s, .slice Al l.length cl, .slice Az z.length cz, .slice Ah h.length ch]) [.int .i64 k, .string s, .slice Al l.length cl, .slice Az z.length cz, .slice Ah h.length ch] h26.e h26.e rfl rfl (by kernel_rfl) hB18 (by simp) [.int .i64 k, .string s, .slice Al l.length cl, .slice Az z.length cz, .slice Ah h.length ch] rfl ?_)
 intro w27 hB28 hF29 hsw27
 have hF_30 := hF_21.own hF29 (by simp <;> omega)
 have hSl_31 := hSl_22.fr hF29 (by simp <;> omega)
 have hSz_32 := hSz_23.fr hF29 (by simp <;> omega)
 have hSh_33 := hSh_24.fr hF29 (by simp <;> omega)
 have hB6_34 := hB6_25.fr1 hF29 (by omega)
 refine V.nt (k15 _ _ ?_)
 refine V.sr h26 [] 1 0 [(4, .bool false)] fun a h37 => ?_
 refine V.seq fun K38 k39 => ?_
 refine V.sr h37 [(1, .b hB6_34 0)] 6 6 [(7, .int .i64 k)] fun a h42 => ?_
 refine V.block ?_
 refine V.seq fun K43 k44 => ?_
 refine V.block ?_
 refine V.seq fun K45 k46 => ?_
 refine V.block ?_
 refine V.seq fun K47 k48 => ?_
 refine V.block ?_
 refine V.seq fun K49 k50 => ?_
 refine V.block ?_
 refine V.seq fun K51 k52 => ?_
 refine V.block ?_
 refine V.seq fun K53 k54 => ?_
 refine V.seq fun K55 k56 => ?_
 refine V.sr h42 [(0, .eq k 1)] 9 9 [(8, .bool (decide (k = 1)))] fun a h59 => ?_
 refine V.cp h59 (k = 1) (fun ht60 => ?_) (fun ht60 => ?_)
 ·
  refine V.exit (V.then_e (V.then_e (V.blk_hit ?_)))
  refine V.then_n (k52 _ _ ?_)
  refine V.seq fun K61 k62 => ?_
  refine V.sg fun K63 k64 => ?_
  refine V.run h59 [] 1 1 0 [(18, .pointer (some ⟨b16, 1, none⟩))] fun a h68 => ?_
  refine V.go (V.stn b16 1 (.string ⟨#[]⟩) [.string ⟨#[]⟩] h68.e evc rfl rfl (by kernel_rfl) hB28 (by simp) [.int .i64 k, .string ⟨#[]⟩, .slice Al l.length cl, .slice Az z.length cz, .slice Ah h.length ch] rfl ?_)
  intro w65 hB66 hF67 hsw65
  have hF_69 := hF_30.own hF67 (by simp <;> omega)
  have hB6_73 := hB6_34.fr1 hF67 (by omega)
  refine V.nt (k64 _ _ ?_)
  refine V.rg ?_
  refine V.run h68 [(1, .b hB6_73 1)] 2 19 19 [(20, .string s)] fun a h74 => ?_
  refine V.cl h74 (Go.Proofs.enters_of Tryz.func94 (by kernel_rfl) rfl) (short_any w65 s) ?_
  rintro _ w76 ⟨rfl, hF75⟩
  refine ⟨_, rfl, fun a h77 => ?_⟩
  have hsw76 := hF75.size
  have hF_78 := hF_69.new hF75
  have hB66_83 := hB66.fr0 hF75
  refine V.re h77 [] 1 0 [(4, .bool (decide ((s.size : Int) ≤ 65536)))] fun a h84 => k62 _ _ ?_
  refine V.exit ?_
  refine V.blk_miss rfl ?_
  refine V.then_e ?_
  refine V.blk_miss rfl ?_
  refine V.then_e ?_
  refine V.blk_miss rfl ?_
  refine V.then_e ?_
  refine V.blk_miss rfl ?_
  refine V.then_e (V.blk_hit ?_)
  refine V.then_n (k39 _ _ ?_)
  refine V.sg fun K85 k86 => ?_
  refine V.run h84 [] 2 63 63 [(64, .bool (decide ((s.size : Int) ≤ 65536)))] fun a h87 => ?_
  by_cases hg88 : (s.size : Int) ≤ 65536
  ·
   have h89 := h87.kt 64 hg88
   refine V.re h89 [(1, .b hB66_83 1), (0, .q (.bool true) (V.t_ssame ⟨#[]⟩)), (3, .b hB66_83 2), (2, .b hB66_83 3), (1, .i (((l.length : Nat) : Int) + ((z.length : Nat) : Int))), (1, .b hB66_83 4), (1, .i ((((l.length : Nat) : Int) + ((z.length : Nat) : Int)) + ((h.length : Nat) : Int))), (0, .eq ((((l.length : Nat) : Int) + ((z.length : Nat) : Int)) + ((h.length : Nat) : Int)) 0)] 65 82 [(2, .bool (decide (((((l.length : Nat) : Int) + ((z.length : Nat) : Int)) + ((h.length : Nat) : Int)) = 0)))] fun a h90 => k86 _ _ ?_
   refine V.ret ?_
   refine V.r1 h90 (.bool (decide (((((l.length : Nat) : Int) + ((z.length : Nat) : Int)) + ((h.length : Nat) : Int)) = 0))) ?_
   unfold okV
   rw [if_pos ht60]
   exact ⟨congrArg (fun b => Ending.returned (Value.bool b)) (bP_dec.trans (congrArg bP (propext ⟨fun q => ⟨by omega, by omega, by omega, by omega⟩, fun q => by omega⟩))), hF_78⟩
  ·
   have h91 := h87.kf 64 hg88
   refine V.re h91 [] 65 82 [(2, .bool false)] fun a h92 => k86 _ _ ?_
   refine V.ret ?_
   refine V.r1 h92 (.bool false) ?_
   unfold okV
   rw [if_pos ht60]
   exact ⟨congrArg (fun b => Ending.returned (Value.bool b)) (bP_no fun hq => by omega), hF_78⟩
 ·
  refine V.skip ?_
  refine V.then_n (k56 _ _ ?_)
  refine V.seq fun K93 k94 => ?_
  refine V.sr h59 [(0, .eq k 3)] 11 11 [(10, .bool (decide (k = 3)))] fun a h97 => ?_
  refine V.cp h97 (k = 3) (fun ht98 => ?_) (fun ht98 => ?_)
  ·
   refine V.exit (V.then_e (V.then_e ?_))
   refine V.blk_miss rfl ?_
   refine V.then_e (V.blk_hit ?_)
   refine V.then_n (k50 _ _ ?_)
   refine V.sg fun K99 k100 => ?_
   refine V.run h97 [(1, .b hB6_34 2)] 2 22 22 [(23, .slice Al l.length cl)] fun a h101 => ?_
   refine V.cl h101 (Go.Proofs.enters_of Tryz.func95 (by kernel_rfl) rfl) (rising_str w27 Al cl l hSl_31.old) ?_
   rintro _ w103 ⟨rfl, hF102⟩
   refine ⟨_, rfl, fun a h104 => ?_⟩
   have hsw103 := hF102.size
   have hF_105 := hF_30.new hF102
   have hSl_106 := hSl_31.fr0 hF102
   have hB6_109 := hB6_34.fr0 hF102
   have hB28_110 := hB28.fr0 hF102
   refine V.re h104 [] 1 0 [(25, .bool (!(bP (AllG (gR Rp.str (slt) l) l.length))))] fun a h111 => k100 _ _ ?_
   refine V.cb h111 (!(bP (AllG (gR Rp.str (slt) l) l.length))) (fun ht112 => ?_) (fun ht112 => ?_)
   ·
    refine V.sr h111 [] 1 0 [(2, .bool false)] fun a h115 => ?_
    refine V.ret (V.blk_r (V.then_r (V.blk_r (V.then_r (V.blk_r (V.then_r (V.blk_r (V.then_r ?_))))))))
    refine V.r1 h115 (.bool false) ?_
    unfold okV
    rw [if_neg ht60]
    rw [if_neg (by omega)]
    rw [if_pos ht98]
    exact ⟨congrArg (fun b => Ending.returned (Value.bool b)) (bP_no fun hq => by (obtain ⟨q1, q2, q3, q4, q5⟩ := hq; first | omega | exact absurd q1 (by assumption) | exact absurd (bP_yes q4).symm (by assumption) | exact absurd (bP_yes (gT_true.1 q5).1).symm (by assumption) | exact absurd (bP_yes (gT_true.1 q5).1).symm (by simpa using ht112) | exact absurd (nbP.2 (gT_true.1 q5).2) (by assumption))), hF_105⟩
   ·
    refine V.skip (V.blk_n ?_)
    refine V.then_n (k48 _ _ ?_)
    refine V.seq fun K116 k117 => ?_
    refine V.sg fun K118 k119 => ?_
    refine V.run h111 [] 1 1 0 [(26, .pointer (some ⟨b16, 2, none⟩))] fun a h123 => ?_
    refine V.go (V.stn b16 2 (.slice none 0 0) [.slice none 0 0] h123.e evc rfl rfl (by kernel_rfl) hB28_110 (by simp) [.int .i64 k, .string s, .slice none 0 0, .slice Az z.length cz, .slice Ah h.length ch] rfl ?_)
    intro w120 hB121 hF122 hsw120
    have hF_124 := hF_105.own hF122 (by simp <;> omega)
    have hSl_125 := hSl_106.fr hF122 (by simp <;> omega)
    have hB6_128 := hB6_109.fr1 hF122 (by omega)
    refine V.nt (k119 _ _ ?_)
    refine V.rg ?_
    refine V.run h123 [(1, .b hB6_128 2)] 3 27 28 [(29, .int .i64 ((l.length : Nat) : Int))] fun a h129 => ?_
    refine V.cl h129 (Go.Proofs.enters_of Tryz.func97 (by kernel_rfl) rfl) (sized_any w120 ((l.length : Nat) : Int)) ?_
    rintro _ w131 ⟨rfl, hF130⟩
    refine ⟨_, rfl, fun a h132 => ?_⟩
    have hsw131 := hF130.size
    have hF_133 := hF_124.new hF130
    have hSl_134 := hSl_125.fr0 hF130
    have hB6_137 := hB6_128.fr0 hF130
    have hB121_138 := hB121.fr0 hF130
    refine V.run h132 [] 1 1 0 [(31, .bool (bP (1 ≤ ((l.length : Nat) : Int) ∧ ((l.length : Nat) : Int) ≤ 65536)))] fun a h139 => ?_
    by_cases hg140 : (bP (1 ≤ ((l.length : Nat) : Int) ∧ ((l.length : Nat) : Int) ≤ 65536)) = true
    ·
     have h141 := h139.kbt 31 hg140
     refine V.run h141 [(1, .b hB6_137 2)] 2 32 32 [(33, .slice Al l.length cl)] fun a h142 => ?_
     refine V.clg h142 (Go.Proofs.enters_of Tryz.func98 (by kernel_rfl) rfl) (con_str w131 Al cl l hSl_134.old) ?_
     rintro _ w144 ⟨rfl, hF143⟩
     refine ⟨_, rfl, fun a h145 => ?_⟩
     have hsw144 := hF143.size
     have hF_146 := hF_133.new hF143
     have hB121_151 := hB121_138.fr0 hF143
     refine V.re h145 [] 35 36 [(4, .bool (!(bP (¬ AllG (gS l) l.length))))] fun a h152 => k117 _ _ ?_
     refine V.exit ?_
     refine V.blk_miss rfl ?_
     refine V.then_e ?_
     refine V.blk_miss rfl ?_
     refine V.then_e (V.blk_hit ?_)
     refine V.then_n (k39 _ _ ?_)
     refine V.sg fun K153 k154 => ?_
     refine V.run h152 [] 2 63 63 [(64, .bool (!(bP (¬ AllG (gS l) l.length))))] fun a h155 => ?_
     by_cases hg156 : (!(bP (¬ AllG (gS l) l.length))) = true
     ·
      have h157 := h155.kbt 64 hg156
      refine V.run h157 [(1, .b hB121_151 1), (0, .seq s ⟨#[]⟩)] 5 65 68 [(69, .bool (decide (s = ⟨#[]⟩)))] fun a h158 => ?_
      by_cases hg159 : s = ⟨#[]⟩
      ·
       have h160 := h158.kt 69 hg159
       refine V.re h160 [(1, .b hB121_151 2), (2, .b hB121_151 3), (1, .i (0 + ((z.length : Nat) : Int))), (1, .b hB121_151 4), (1, .i ((0 + ((z.length : Nat) : Int)) + ((h.length : Nat) : Int))), (0, .eq ((0 + ((z.length : Nat) : Int)) + ((h.length : Nat) : Int)) 0)] 70 82 [(2, .bool (decide (((0 + ((z.length : Nat) : Int)) + ((h.length : Nat) : Int)) = 0)))] fun a h161 => k154 _ _ ?_
       have h162 := h161.only [(2, .bool (decide (((0 + ((z.length : Nat) : Int)) + ((h.length : Nat) : Int)) = 0)))]
       refine V.ret ?_
       refine V.r1 h162 (.bool (decide (((0 + ((z.length : Nat) : Int)) + ((h.length : Nat) : Int)) = 0))) ?_
       unfold okV
       rw [if_neg ht60]
       rw [if_neg (by omega)]
       rw [if_pos ht98]
       exact ⟨congrArg (fun b => Ending.returned (Value.bool b)) (bP_dec.trans (congrArg bP (propext ⟨fun q => ⟨hg159, by omega, by omega, bP_of hg140, gT_true.2 ⟨bP_of (by have hq := ht112; simpa using hq), nbP.1 hg156⟩⟩, fun q => by (obtain ⟨q1, q2, q3, q4, q5⟩ := q; omega)⟩))), hF_146⟩
      ·
       have h163 := h158.kf 69 hg159
       refine V.re h163 [] 70 82 [(2, .bool false)] fun a h164 => k154 _ _ ?_
       have h165 := h164.only [(2, .bool false)]
       refine V.ret ?_
       refine V.r1 h165 (.bool false) ?_
       unfold okV
       rw [if_neg ht60]
       rw [if_neg (by omega)]
       rw [if_pos ht98]
       exact ⟨congrArg (fun b => Ending.returned (Value.bool b)) (bP_no fun hq => by (obtain ⟨q1, q2, q3, q4, q5⟩ := hq; first | omega | exact absurd q1 (by assumption) | exact absurd (bP_yes q4).symm (by assumption) | exact absurd (bP_yes (gT_true.1 q5).1).symm (by assumption) | exact absurd (bP_yes (gT_true.1 q5).1).symm (by simpa using ht112) | exact absurd (nbP.2 (gT_true.1 q5).2) (by assumption))), hF_146⟩
     ·
      have h166 := h155.kbf 64 hg156
      refine V.re h166 [] 65 82 [(2, .bool false)] fun a h167 => k154 _ _ ?_
      have h168 := h167.only [(2, .bool false)]
      refine V.ret ?_
      refine V.r1 h168 (.bool false) ?_
      unfold okV
      rw [if_neg ht60]
      rw [if_neg (by omega)]
      rw [if_pos ht98]
      exact ⟨congrArg (fun b => Ending.returned (Value.bool b)) (bP_no fun hq => by (obtain ⟨q1, q2, q3, q4, q5⟩ := hq; first | omega | exact absurd q1 (by assumption) | exact absurd (bP_yes q4).symm (by assumption) | exact absurd (bP_yes (gT_true.1 q5).1).symm (by assumption) | exact absurd (bP_yes (gT_true.1 q5).1).symm (by simpa using ht112) | exact absurd (nbP.2 (gT_true.1 q5).2) (by assumption))), hF_146⟩
    ·
     have h169 := h139.kbf 31 hg140
     refine V.re h169 [] 32 36 [(4, .bool false)] fun a h170 => k117 _ _ ?_
     refine V.exit ?_
     refine V.blk_miss rfl ?_
     refine V.then_e ?_
     refine V.blk_miss rfl ?_
     refine V.then_e (V.blk_hit ?_)
     refine V.then_n (k39 _ _ ?_)
     refine V.sr h170 [] 63 82 [(2, .bool false)] fun a h173 => ?_
     refine V.ret ?_
     refine V.r1 h173 (.bool false) ?_
     unfold okV
     rw [if_neg ht60]
     rw [if_neg (by omega)]
     rw [if_pos ht98]
     exact ⟨congrArg (fun b => Ending.returned (Value.bool b)) (bP_no fun hq => by (obtain ⟨q1, q2, q3, q4, q5⟩ := hq; first | omega | exact absurd q1 (by assumption) | exact absurd (bP_yes q4).symm (by assumption) | exact absurd (bP_yes (gT_true.1 q5).1).symm (by assumption) | exact absurd (bP_yes (gT_true.1 q5).1).symm (by simpa using ht112) | exact absurd (nbP.2 (gT_true.1 q5).2) (by assumption))), hF_133⟩
  ·
   refine V.skip ?_
   refine V.then_n (k94 _ _ ?_)
   refine V.seq fun K174 k175 => ?_
   refine V.sr h97 [(0, .eq k 2)] 13 13 [(12, .bool (decide (k = 2)))] fun a h178 => ?_
   refine V.cp h178 (k = 2) (fun ht179 => ?_) (fun ht179 => ?_)
   ·
    refine V.exit (V.then_e (V.then_e ?_))
    refine V.blk_miss rfl ?_
    refine V.then_e ?_
    refine V.blk_miss rfl ?_
    refine V.then_e (V.blk_hit ?_)
    refine V.then_n (k48 _ _ ?_)
    refine V.seq fun K180 k181 => ?_
    refine V.sg fun K182 k183 => ?_
    refine V.run h178 [] 1 1 0 [(26, .pointer (some ⟨b16, 2, none⟩))] fun a h187 => ?_
    refine V.go (V.stn b16 2 (.slice none 0 0) [.slice none 0 0] h187.e evc rfl rfl (by kernel_rfl) hB28 (by simp) [.int .i64 k, .string s, .slice none 0 0, .slice Az z.length cz, .slice Ah h.length ch] rfl ?_)
    intro w184 hB185 hF186 hsw184
    have hF_188 := hF_30.own hF186 (by simp <;> omega)
    have hSl_189 := hSl_31.fr hF186 (by simp <;> omega)
    have hB6_192 := hB6_34.fr1 hF186 (by omega)
    refine V.nt (k183 _ _ ?_)
    refine V.rg ?_
    refine V.run h187 [(1, .b hB6_192 2)] 3 27 28 [(29, .int .i64 ((l.length : Nat) : Int))] fun a h193 => ?_
    refine V.cl h193 (Go.Proofs.enters_of Tryz.func97 (by kernel_rfl) rfl) (sized_any w184 ((l.length : Nat) : Int)) ?_
    rintro _ w195 ⟨rfl, hF194⟩
    refine ⟨_, rfl, fun a h196 => ?_⟩
    have hsw195 := hF194.size
    have hF_197 := hF_188.new hF194
    have hSl_198 := hSl_189.fr0 hF194
    have hB6_201 := hB6_192.fr0 hF194
    have hB185_202 := hB185.fr0 hF194
    refine V.run h196 [] 1 1 0 [(31, .bool (bP (1 ≤ ((l.length : Nat) : Int) ∧ ((l.length : Nat) : Int) ≤ 65536)))] fun a h203 => ?_
    by_cases hg204 : (bP (1 ≤ ((l.length : Nat) : Int) ∧ ((l.length : Nat) : Int) ≤ 65536)) = true
    ·
     have h205 := h203.kbt 31 hg204
     refine V.run h205 [(1, .b hB6_201 2)] 2 32 32 [(33, .slice Al l.length cl)] fun a h206 => ?_
     refine V.clg h206 (Go.Proofs.enters_of Tryz.func98 (by kernel_rfl) rfl) (con_str w195 Al cl l hSl_198.old) ?_
     rintro _ w208 ⟨rfl, hF207⟩
     refine ⟨_, rfl, fun a h209 => ?_⟩
     have hsw208 := hF207.size
     have hF_210 := hF_197.new hF207
     have hB185_215 := hB185_202.fr0 hF207
     refine V.re h209 [] 35 36 [(4, .bool (!(bP (¬ AllG (gS l) l.length))))] fun a h216 => k181 _ _ ?_
     refine V.exit ?_
     refine V.blk_miss rfl ?_
     refine V.then_e ?_
     refine V.blk_miss rfl ?_
     refine V.then_e (V.blk_hit ?_)
     refine V.then_n (k39 _ _ ?_)
     refine V.sg fun K217 k218 => ?_
     refine V.run h216 [] 2 63 63 [(64, .bool (!(bP (¬ AllG (gS l) l.length))))] fun a h219 => ?_
     by_cases hg220 : (!(bP (¬ AllG (gS l) l.length))) = true
     ·
      have h221 := h219.kbt 64 hg220
      refine V.run h221 [(1, .b hB185_215 1), (0, .seq s ⟨#[]⟩)] 5 65 68 [(69, .bool (decide (s = ⟨#[]⟩)))] fun a h222 => ?_
      by_cases hg223 : s = ⟨#[]⟩
      ·
       have h224 := h222.kt 69 hg223
       refine V.re h224 [(1, .b hB185_215 2), (2, .b hB185_215 3), (1, .i (0 + ((z.length : Nat) : Int))), (1, .b hB185_215 4), (1, .i ((0 + ((z.length : Nat) : Int)) + ((h.length : Nat) : Int))), (0, .eq ((0 + ((z.length : Nat) : Int)) + ((h.length : Nat) : Int)) 0)] 70 82 [(2, .bool (decide (((0 + ((z.length : Nat) : Int)) + ((h.length : Nat) : Int)) = 0)))] fun a h225 => k218 _ _ ?_
       have h226 := h225.only [(2, .bool (decide (((0 + ((z.length : Nat) : Int)) + ((h.length : Nat) : Int)) = 0)))]
       refine V.ret ?_
       refine V.r1 h226 (.bool (decide (((0 + ((z.length : Nat) : Int)) + ((h.length : Nat) : Int)) = 0))) ?_
       unfold okV
       rw [if_neg ht60]
       rw [if_pos ht179]
       exact ⟨congrArg (fun b => Ending.returned (Value.bool b)) (bP_dec.trans (congrArg bP (propext ⟨fun q => ⟨hg223, by omega, by omega, bP_of hg204, gT_false.2 (nbP.1 hg220)⟩, fun q => by (obtain ⟨q1, q2, q3, q4, q5⟩ := q; omega)⟩))), hF_210⟩
      ·
       have h227 := h222.kf 69 hg223
       refine V.re h227 [] 70 82 [(2, .bool false)] fun a h228 => k218 _ _ ?_
       have h229 := h228.only [(2, .bool false)]
       refine V.ret ?_
       refine V.r1 h229 (.bool false) ?_
       unfold okV
       rw [if_neg ht60]
       rw [if_pos ht179]
       exact ⟨congrArg (fun b => Ending.returned (Value.bool b)) (bP_no fun hq => by (obtain ⟨q1, q2, q3, q4, q5⟩ := hq; first | omega | exact absurd q1 (by assumption) | exact absurd (bP_yes q4).symm (by assumption) | exact absurd (nbP.2 (gT_false.1 q5)) (by assumption))), hF_210⟩
     ·
      have h230 := h219.kbf 64 hg220
      refine V.re h230 [] 65 82 [(2, .bool false)] fun a h231 => k218 _ _ ?_
      have h232 := h231.only [(2, .bool false)]
      refine V.ret ?_
      refine V.r1 h232 (.bool false) ?_
      unfold okV
      rw [if_neg ht60]
      rw [if_pos ht179]
      exact ⟨congrArg (fun b => Ending.returned (Value.bool b)) (bP_no fun hq => by (obtain ⟨q1, q2, q3, q4, q5⟩ := hq; first | omega | exact absurd q1 (by assumption) | exact absurd (bP_yes q4).symm (by assumption) | exact absurd (nbP.2 (gT_false.1 q5)) (by assumption))), hF_210⟩
    ·
     have h233 := h203.kbf 31 hg204
     refine V.re h233 [] 32 36 [(4, .bool false)] fun a h234 => k181 _ _ ?_
     refine V.exit ?_
     refine V.blk_miss rfl ?_
     refine V.then_e ?_
     refine V.blk_miss rfl ?_
     refine V.then_e (V.blk_hit ?_)
     refine V.then_n (k39 _ _ ?_)
     refine V.sr h234 [] 63 82 [(2, .bool false)] fun a h237 => ?_
     refine V.ret ?_
     refine V.r1 h237 (.bool false) ?_
     unfold okV
     rw [if_neg ht60]
     rw [if_pos ht179]
     exact ⟨congrArg (fun b => Ending.returned (Value.bool b)) (bP_no fun hq => by (obtain ⟨q1, q2, q3, q4, q5⟩ := hq; first | omega | exact absurd q1 (by assumption) | exact absurd (bP_yes q4).symm (by assumption) | exact absurd (nbP.2 (gT_false.1 q5)) (by assumption))), hF_197⟩
   ·
    refine V.skip ?_
    refine V.then_n (k175 _ _ ?_)
    refine V.seq fun K238 k239 => ?_
    refine V.sr h178 [(0, .eq k 4)] 15 15 [(14, .bool (decide (k = 4)))] fun a h242 => ?_
    refine V.cp h242 (k = 4) (fun ht243 => ?_) (fun ht243 => ?_)
    ·
     refine V.exit (V.then_e (V.then_e ?_))
     refine V.blk_miss rfl ?_
     refine V.then_e ?_
     refine V.blk_miss rfl ?_
     refine V.then_e ?_
     refine V.blk_miss rfl ?_
     refine V.then_e (V.blk_hit ?_)
     refine V.then_n (k46 _ _ ?_)
     refine V.seq fun K244 k245 => ?_
     refine V.sg fun K246 k247 => ?_
     refine V.run h242 [] 1 1 0 [(37, .pointer (some ⟨b16, 3, none⟩))] fun a h251 => ?_
     refine V.go (V.stn b16 3 (.slice none 0 0) [.slice none 0 0] h251.e evc rfl rfl (by kernel_rfl) hB28 (by simp) [.int .i64 k, .string s, .slice Al l.length cl, .slice none 0 0, .slice Ah h.length ch] rfl ?_)
     intro w248 hB249 hF250 hsw248
     have hF_252 := hF_30.own hF250 (by simp <;> omega)
     have hSz_254 := hSz_32.fr hF250 (by simp <;> omega)
     have hB6_256 := hB6_34.fr1 hF250 (by omega)
     refine V.nt (k247 _ _ ?_)
     refine V.rg ?_
     refine V.run h251 [(1, .b hB6_256 3)] 3 38 39 [(40, .int .i64 ((z.length : Nat) : Int))] fun a h257 => ?_
     refine V.cl h257 (Go.Proofs.enters_of Tryz.func97 (by kernel_rfl) rfl) (sized_any w248 ((z.length : Nat) : Int)) ?_
     rintro _ w259 ⟨rfl, hF258⟩
     refine ⟨_, rfl, fun a h260 => ?_⟩
     have hsw259 := hF258.size
     have hF_261 := hF_252.new hF258
     have hSz_263 := hSz_254.fr0 hF258
     have hB6_265 := hB6_256.fr0 hF258
     have hB249_266 := hB249.fr0 hF258
     refine V.run h260 [] 1 1 0 [(42, .bool (bP (1 ≤ ((z.length : Nat) : Int) ∧ ((z.length : Nat) : Int) ≤ 65536)))] fun a h267 => ?_
     by_cases hg268 : (bP (1 ≤ ((z.length : Nat) : Int) ∧ ((z.length : Nat) : Int) ≤ 65536)) = true
     ·
      have h269 := h267.kbt 42 hg268
      refine V.run h269 [(1, .b hB6_265 3)] 2 43 43 [(44, .slice Az z.length cz)] fun a h270 => ?_
      refine V.clg h270 (Go.Proofs.enters_of Tryz.func100 (by kernel_rfl) rfl) (zset_any w259 Az cz z hSz_263.old (by first | omega | (have hq := bP_of (p := 1 ≤ ((z.length : Nat) : Int) ∧ ((z.length : Nat) : Int) ≤ 65536) (by assumption); omega)) hz) ?_
      rintro _ w272 ⟨rfl, hF271⟩
      refine ⟨_, rfl, fun a h273 => ?_⟩
      have hsw272 := hF271.size
      have hF_274 := hF_261.new hF271
      have hB249_279 := hB249_266.fr0 hF271
      refine V.re h273 [] 46 46 [(4, .bool (bP (AllG (gZ z) z.length ∧ (setOf (mTx z z.length)).length = z.length ∧ AllG (gR scR (ahd) z) z.length)))] fun a h280 => k245 _ _ ?_
      refine V.exit ?_
      refine V.blk_miss rfl ?_
      refine V.then_e (V.blk_hit ?_)
      refine V.then_n (k39 _ _ ?_)
      refine V.sg fun K281 k282 => ?_
      refine V.run h280 [] 2 63 63 [(64, .bool (bP (AllG (gZ z) z.length ∧ (setOf (mTx z z.length)).length = z.length ∧ AllG (gR scR (ahd) z) z.length)))] fun a h283 => ?_
      by_cases hg284 : (bP (AllG (gZ z) z.length ∧ (setOf (mTx z z.length)).length = z.length ∧ AllG (gR scR (ahd) z) z.length)) = true
      ·
       have h285 := h283.kbt 64 hg284
       refine V.run h285 [(1, .b hB249_279 1), (0, .seq s ⟨#[]⟩)] 5 65 68 [(69, .bool (decide (s = ⟨#[]⟩)))] fun a h286 => ?_
       by_cases hg287 : s = ⟨#[]⟩
       ·
        have h288 := h286.kt 69 hg287
        refine V.re h288 [(1, .b hB249_279 2), (2, .b hB249_279 3), (1, .i (((l.length : Nat) : Int) + 0)), (1, .b hB249_279 4), (1, .i ((((l.length : Nat) : Int) + 0) + ((h.length : Nat) : Int))), (0, .eq ((((l.length : Nat) : Int) + 0) + ((h.length : Nat) : Int)) 0)] 70 82 [(2, .bool (decide (((((l.length : Nat) : Int) + 0) + ((h.length : Nat) : Int)) = 0)))] fun a h289 => k282 _ _ ?_
        have h290 := h289.only [(2, .bool (decide (((((l.length : Nat) : Int) + 0) + ((h.length : Nat) : Int)) = 0)))]
        refine V.ret ?_
        refine V.r1 h290 (.bool (decide (((((l.length : Nat) : Int) + 0) + ((h.length : Nat) : Int)) = 0))) ?_
        unfold okV
        rw [if_neg ht60]
        rw [if_neg ht179]
        rw [if_neg ht98]
        rw [if_pos ht243]
        exact ⟨congrArg (fun b => Ending.returned (Value.bool b)) (bP_dec.trans (congrArg bP (propext ⟨fun q => ⟨hg287, by omega, by omega, bP_of hg268, ⟨gM_iff.2 ⟨(bP_of hg284).1, (bP_of hg284).2.2⟩, (bP_of hg284).2.1⟩⟩, fun q => by (obtain ⟨q1, q2, q3, q4, q5⟩ := q; omega)⟩))), hF_274⟩
       ·
        have h291 := h286.kf 69 hg287
        refine V.re h291 [] 70 82 [(2, .bool false)] fun a h292 => k282 _ _ ?_
        have h293 := h292.only [(2, .bool false)]
        refine V.ret ?_
        refine V.r1 h293 (.bool false) ?_
        unfold okV
        rw [if_neg ht60]
        rw [if_neg ht179]
        rw [if_neg ht98]
        rw [if_pos ht243]
        exact ⟨congrArg (fun b => Ending.returned (Value.bool b)) (bP_no fun hq => by (obtain ⟨q1, q2, q3, q4, q5⟩ := hq; first | omega | exact absurd q1 (by assumption) | exact absurd (bP_yes q4).symm (by assumption) | exact absurd (bP_yes (show AllG (gZ z) z.length ∧ (setOf (mTx z z.length)).length = z.length ∧ AllG (gR scR (ahd) z) z.length from ⟨(gM_iff.1 q5.1).1, q5.2, (gM_iff.1 q5.1).2⟩)).symm (by assumption))), hF_274⟩
      ·
       have h294 := h283.kbf 64 hg284
       refine V.re h294 [] 65 82 [(2, .bool false)] fun a h295 => k282 _ _ ?_
       have h296 := h295.only [(2, .bool false)]
       refine V.ret ?_
       refine V.r1 h296 (.bool false) ?_
       unfold okV
       rw [if_neg ht60]
       rw [if_neg ht179]
       rw [if_neg ht98]
       rw [if_pos ht243]
       exact ⟨congrArg (fun b => Ending.returned (Value.bool b)) (bP_no fun hq => by (obtain ⟨q1, q2, q3, q4, q5⟩ := hq; first | omega | exact absurd q1 (by assumption) | exact absurd (bP_yes q4).symm (by assumption) | exact absurd (bP_yes (show AllG (gZ z) z.length ∧ (setOf (mTx z z.length)).length = z.length ∧ AllG (gR scR (ahd) z) z.length from ⟨(gM_iff.1 q5.1).1, q5.2, (gM_iff.1 q5.1).2⟩)).symm (by assumption))), hF_274⟩
     ·
      have h297 := h267.kbf 42 hg268
      refine V.re h297 [] 43 46 [(4, .bool false)] fun a h298 => k245 _ _ ?_
      refine V.exit ?_
      refine V.blk_miss rfl ?_
      refine V.then_e (V.blk_hit ?_)
      refine V.then_n (k39 _ _ ?_)
      refine V.sr h298 [] 63 82 [(2, .bool false)] fun a h301 => ?_
      refine V.ret ?_
      refine V.r1 h301 (.bool false) ?_
      unfold okV
      rw [if_neg ht60]
      rw [if_neg ht179]
      rw [if_neg ht98]
      rw [if_pos ht243]
      exact ⟨congrArg (fun b => Ending.returned (Value.bool b)) (bP_no fun hq => by (obtain ⟨q1, q2, q3, q4, q5⟩ := hq; first | omega | exact absurd q1 (by assumption) | exact absurd (bP_yes q4).symm (by assumption) | exact absurd (bP_yes (show AllG (gZ z) z.length ∧ (setOf (mTx z z.length)).length = z.length ∧ AllG (gR scR (ahd) z) z.length from ⟨(gM_iff.1 q5.1).1, q5.2, (gM_iff.1 q5.1).2⟩)).symm (by assumption))), hF_261⟩
    ·
     refine V.skip ?_
     refine V.then_n (k239 _ _ ?_)
     refine V.sr h242 [(0, .eq k 5)] 17 17 [(16, .bool (decide (k = 5)))] fun a h304 => ?_
     refine V.cp h304 (k = 5) (fun ht305 => ?_) (fun ht305 => ?_)
     ·
      refine V.exit (V.then_e ?_)
      refine V.blk_miss rfl ?_
      refine V.then_e ?_
      refine V.blk_miss rfl ?_
      refine V.then_e ?_
      refine V.blk_miss rfl ?_
      refine V.then_e ?_
      refine V.blk_miss rfl ?_
      refine V.then_e (V.blk_hit ?_)
      refine V.then_n (k44 _ _ ?_)
      refine V.seq fun K306 k307 => ?_
      refine V.sg fun K308 k309 => ?_
      refine V.run h304 [] 1 1 0 [(47, .pointer (some ⟨b16, 4, none⟩))] fun a h313 => ?_
      refine V.go (V.stn b16 4 (.slice none 0 0) [.slice none 0 0] h313.e evc rfl rfl (by kernel_rfl) hB28 (by simp) [.int .i64 k, .string s, .slice Al l.length cl, .slice Az z.length cz, .slice none 0 0] rfl ?_)
      intro w310 hB311 hF312 hsw310
      have hF_314 := hF_30.own hF312 (by simp <;> omega)
      have hSh_317 := hSh_33.fr hF312 (by simp <;> omega)
      have hB6_318 := hB6_34.fr1 hF312 (by omega)
      refine V.nt (k309 _ _ ?_)
      refine V.rg ?_
      refine V.run h313 [(1, .b hB6_318 4)] 3 48 49 [(50, .int .i64 ((h.length : Nat) : Int))] fun a h319 => ?_
      refine V.cl h319 (Go.Proofs.enters_of Tryz.func97 (by kernel_rfl) rfl) (sized_any w310 ((h.length : Nat) : Int)) ?_
      rintro _ w321 ⟨rfl, hF320⟩
      refine ⟨_, rfl, fun a h322 => ?_⟩
      have hsw321 := hF320.size
      have hF_323 := hF_314.new hF320
      have hSh_326 := hSh_317.fr0 hF320
      have hB6_327 := hB6_318.fr0 hF320
      have hB311_328 := hB311.fr0 hF320
      refine V.run h322 [] 1 1 0 [(52, .bool (bP (1 ≤ ((h.length : Nat) : Int) ∧ ((h.length : Nat) : Int) ≤ 65536)))] fun a h329 => ?_
      by_cases hg330 : (bP (1 ≤ ((h.length : Nat) : Int) ∧ ((h.length : Nat) : Int) ≤ 65536)) = true
      ·
       have h331 := h329.kbt 52 hg330
       refine V.run h331 [(1, .b hB6_327 4)] 2 53 53 [(54, .slice Ah h.length ch)] fun a h332 => ?_
       refine V.clg h332 (Go.Proofs.enters_of Tryz.func101 (by kernel_rfl) rfl) (rising_fd w321 Ah ch h hSh_326.old) ?_
       rintro _ w334 ⟨rfl, hF333⟩
       refine ⟨_, rfl, fun a h335 => ?_⟩
       have hsw334 := hF333.size
       have hF_336 := hF_323.new hF333
       have hSh_339 := hSh_326.fr0 hF333
       have hB6_340 := hB6_327.fr0 hF333
       have hB311_341 := hB311_328.fr0 hF333
       refine V.run h335 [] 2 56 56 [(57, .bool (bP (AllG (gR fdR (fun x y => slt x.1 y.1) h) h.length)))] fun a h342 => ?_
       by_cases hg343 : (bP (AllG (gR fdR (fun x y => slt x.1 y.1) h) h.length)) = true
       ·
        have h344 := h342.kbt 57 hg343
        refine V.run h344 [(1, .b hB6_340 4)] 2 58 58 [(59, .slice Ah h.length ch)] fun a h345 => ?_
        refine V.clg h345 (Go.Proofs.enters_of Tryz.func102 (by kernel_rfl) rfl) (con_fd w334 Ah ch h hSh_339.old) ?_
        rintro _ w347 ⟨rfl, hF346⟩
        refine ⟨_, rfl, fun a h348 => ?_⟩
        have hsw347 := hF346.size
        have hF_349 := hF_336.new hF346
        have hB311_354 := hB311_341.fr0 hF346
        refine V.re h348 [] 61 62 [(4, .bool (!(bP (¬ AllG (gFs h) h.length))))] fun a h355 => k307 _ _ ?_
        refine V.exit (V.blk_hit ?_)
        refine V.then_n (k39 _ _ ?_)
        refine V.sg fun K356 k357 => ?_
        refine V.run h355 [] 2 63 63 [(64, .bool (!(bP (¬ AllG (gFs h) h.length))))] fun a h358 => ?_
        by_cases hg359 : (!(bP (¬ AllG (gFs h) h.length))) = true
        ·
         have h360 := h358.kbt 64 hg359
         refine V.run h360 [(1, .b hB311_354 1), (0, .seq s ⟨#[]⟩)] 5 65 68 [(69, .bool (decide (s = ⟨#[]⟩)))] fun a h361 => ?_
         by_cases hg362 : s = ⟨#[]⟩
         ·
          have h363 := h361.kt 69 hg362
          refine V.re h363 [(1, .b hB311_354 2), (2, .b hB311_354 3), (1, .i (((l.length : Nat) : Int) + ((z.length : Nat) : Int))), (1, .b hB311_354 4), (1, .i ((((l.length : Nat) : Int) + ((z.length : Nat) : Int)) + 0)), (0, .eq ((((l.length : Nat) : Int) + ((z.length : Nat) : Int)) + 0) 0)] 70 82 [(2, .bool (decide (((((l.length : Nat) : Int) + ((z.length : Nat) : Int)) + 0) = 0)))] fun a h364 => k357 _ _ ?_
          have h365 := h364.only [(2, .bool (decide (((((l.length : Nat) : Int) + ((z.length : Nat) : Int)) + 0) = 0)))]
          refine V.ret ?_
          refine V.r1 h365 (.bool (decide (((((l.length : Nat) : Int) + ((z.length : Nat) : Int)) + 0) = 0))) ?_
          unfold okV
          rw [if_neg ht60]
          rw [if_neg ht179]
          rw [if_neg ht98]
          rw [if_neg ht243]
          rw [if_pos ht305]
          exact ⟨congrArg (fun b => Ending.returned (Value.bool b)) (bP_dec.trans (congrArg bP (propext ⟨fun q => ⟨hg362, by omega, by omega, bP_of hg330, gF_iff.2 ⟨bP_of hg343, nbP.1 hg359⟩⟩, fun q => by (obtain ⟨q1, q2, q3, q4, q5⟩ := q; omega)⟩))), hF_349⟩
         ·
          have h366 := h361.kf 69 hg362
          refine V.re h366 [] 70 82 [(2, .bool false)] fun a h367 => k357 _ _ ?_
          have h368 := h367.only [(2, .bool false)]
          refine V.ret ?_
          refine V.r1 h368 (.bool false) ?_
          unfold okV
          rw [if_neg ht60]
          rw [if_neg ht179]
          rw [if_neg ht98]
          rw [if_neg ht243]
          rw [if_pos ht305]
          exact ⟨congrArg (fun b => Ending.returned (Value.bool b)) (bP_no fun hq => by (obtain ⟨q1, q2, q3, q4, q5⟩ := hq; first | omega | exact absurd q1 (by assumption) | exact absurd (bP_yes q4).symm (by assumption) | exact absurd (bP_yes (gF_iff.1 q5).1).symm (by assumption) | exact absurd (nbP.2 (gF_iff.1 q5).2) (by assumption))), hF_349⟩
        ·
         have h369 := h358.kbf 64 hg359
         refine V.re h369 [] 65 82 [(2, .bool false)] fun a h370 => k357 _ _ ?_
         have h371 := h370.only [(2, .bool false)]
         refine V.ret ?_
         refine V.r1 h371 (.bool false) ?_
         unfold okV
         rw [if_neg ht60]
         rw [if_neg ht179]
         rw [if_neg ht98]
         rw [if_neg ht243]
         rw [if_pos ht305]
         exact ⟨congrArg (fun b => Ending.returned (Value.bool b)) (bP_no fun hq => by (obtain ⟨q1, q2, q3, q4, q5⟩ := hq; first | omega | exact absurd q1 (by assumption) | exact absurd (bP_yes q4).symm (by assumption) | exact absurd (bP_yes (gF_iff.1 q5).1).symm (by assumption) | exact absurd (nbP.2 (gF_iff.1 q5).2) (by assumption))), hF_349⟩
       ·
        have h372 := h342.kbf 57 hg343
        refine V.re h372 [] 58 62 [(4, .bool false)] fun a h373 => k307 _ _ ?_
        refine V.exit (V.blk_hit ?_)
        refine V.then_n (k39 _ _ ?_)
        refine V.sr h373 [] 63 82 [(2, .bool false)] fun a h376 => ?_
        refine V.ret ?_
        refine V.r1 h376 (.bool false) ?_
        unfold okV
        rw [if_neg ht60]
        rw [if_neg ht179]
        rw [if_neg ht98]
        rw [if_neg ht243]
        rw [if_pos ht305]
        exact ⟨congrArg (fun b => Ending.returned (Value.bool b)) (bP_no fun hq => by (obtain ⟨q1, q2, q3, q4, q5⟩ := hq; first | omega | exact absurd q1 (by assumption) | exact absurd (bP_yes q4).symm (by assumption) | exact absurd (bP_yes (gF_iff.1 q5).1).symm (by assumption) | exact absurd (nbP.2 (gF_iff.1 q5).2) (by assumption))), hF_336⟩
      ·
       have h377 := h329.kbf 52 hg330
       refine V.re h377 [] 53 62 [(4, .bool false)] fun a h378 => k307 _ _ ?_
       refine V.exit (V.blk_hit ?_)
       refine V.then_n (k39 _ _ ?_)
       refine V.sr h378 [] 63 82 [(2, .bool false)] fun a h381 => ?_
       refine V.ret ?_
       refine V.r1 h381 (.bool false) ?_
       unfold okV
       rw [if_neg ht60]
       rw [if_neg ht179]
       rw [if_neg ht98]
       rw [if_neg ht243]
       rw [if_pos ht305]
       exact ⟨congrArg (fun b => Ending.returned (Value.bool b)) (bP_no fun hq => by (obtain ⟨q1, q2, q3, q4, q5⟩ := hq; first | omega | exact absurd q1 (by assumption) | exact absurd (bP_yes q4).symm (by assumption) | exact absurd (bP_yes (gF_iff.1 q5).1).symm (by assumption) | exact absurd (nbP.2 (gF_iff.1 q5).2) (by assumption))), hF_323⟩
     ·
      refine V.skip ?_
      refine V.then_n (k54 _ _ ?_)
      refine V.exit ?_
      refine V.blk_miss rfl ?_
      refine V.then_e ?_
      refine V.blk_miss rfl ?_
      refine V.then_e ?_
      refine V.blk_miss rfl ?_
      refine V.then_e ?_
      refine V.blk_miss rfl ?_
      refine V.then_e ?_
      refine V.blk_miss rfl ?_
      refine V.then_e (V.blk_hit ?_)
      refine V.then_n (k39 _ _ ?_)
      refine V.sr h304 [] 63 82 [(2, .bool false)] fun a h384 => ?_
      refine V.ret ?_
      refine V.r1 h384 (.bool false) ?_
      unfold okV
      rw [if_neg ht60]
      rw [if_neg ht179]
      rw [if_neg ht98]
      rw [if_neg ht243]
      rw [if_neg ht305]
      exact ⟨congrArg (fun b => Ending.returned (Value.bool b)) (bP_no id), hF_30⟩
/-- An entry that memory can hold. -/
def bndE (x : EnD) : Prop := x.l.length ≤ 140737488355328 ∧ x.z.length ≤ 140737488355328 ∧ x.h.length ≤ 140737488355328 ∧ ∀ y ∈ x.z, y.1.size ≤ maxLen
def gO (l : List EnD) (i : Nat) : Prop := okD (at_ enR l (i : Int))
theorem at_memE {l : List EnD} {i : Nat} (h : i < l.length) : at_ enR l (i : Int) ∈ l := List.mem_of_getElem? (at_some enR (xs := l) (i := (i : Int)) (by omega) (by omega))
theorem gE_iff {l : List EnD} {n : Nat} : AllG (gE l) n ↔ AllG (gR enR (fun x y => slt x.key y.key) l) n ∧ AllG (gO l) n :=
  ⟨fun h => ⟨fun i hi h0 => (h i hi).2 h0, fun i hi => (h i hi).1⟩, fun h i hi => ⟨h.2 i hi, fun h0 => h.1 i hi h0⟩⟩
theorem entry_any (w : World) (key : ByteArray) (k : Int) (s : ByteArray) (Al : Option Addr) (cl : Nat) (l : List ByteArray) (hSl : SlR Rp.str (fun k => k < w.heap.size) w (.slice Al l.length cl) l) (Az : Option Addr) (cz : Nat) (z : List (ByteArray × Int)) (hSz : SlR scR (fun k => k < w.heap.size) w (.slice Az z.length cz) z) (Ah : Option Addr) (ch : Nat) (h : List (ByteArray × ByteArray)) (hSh : SlR fdR (fun k => k < w.heap.size) w (.slice Ah h.length ch) h) (at' : Int) (hll : l.length ≤ 140737488355328) (hlz : z.length ≤ 140737488355328) (hlh : h.length ≤ 140737488355328) (hz : ∀ x ∈ z, x.1.size ≤ maxLen) : Calls Tryz.prog 54 #[.agg #[.string key, .int .i64 k, .string s, .slice Al l.length cl, .slice Az z.length cz, .slice Ah h.length ch, .int .i64 at']] w (fun e w' => e = .returned (.bool (bP (okE key at' (okV k s l z h)))) ∧ Fr [] w w') := by
 have hF := Fr.refl [] w
 refine V.en 21 Tryz.func54 fun a h1 => ?_
 refine V.sg fun K2 k3 => ?_
 refine V.go (V.mk [(0, .agg #[.string key, .int .i64 k, .string s, .slice Al l.length cl, .slice Az z.length cz, .slice Ah h.length ch, .int .i64 at'])] ⟨h1.e, trivial⟩ (by kernel_rfl) [.string key, .int .i64 k, .string s, .slice Al l.length cl, .slice Az z.length cz, .slice Ah h.length ch, .int .i64 at'] 55 (fun b => .pointer (some ⟨b, 0, none⟩)) (by kernel_rfl) ?_)
 intro w5 b4 heb4 hB6 hF7 hsb4
 have hF_8 := hF.new hF7
 have hSl_9 := hSl.fr0 hF7
 have hSz_10 := hSz.fr0 hF7
 have hSh_11 := hSh.fr0 hF7
 refine V.pt h1 fun a h12 => ?_
 refine V.re h12 [] 2 2 [] fun a h13 => k3 _ _ ?_
 refine V.sg fun K14 k15 => ?_
 refine V.run h13 [(1, .b hB6 0)] 2 3 3 [(4, .string key)] fun a h16 => ?_
 refine V.cl h16 (Go.Proofs.enters_of Tryz.func94 (by kernel_rfl) rfl) (short_any w5 key) ?_
 rintro _ w18 ⟨rfl, hF17⟩
 refine ⟨_, rfl, fun a h19 => ?_⟩
 have hsw18 := hF17.size
 have hF_20 := hF_8.new hF17
 have hSl_21 := hSl_9.fr0 hF17
 have hSz_22 := hSz_10.fr0 hF17
 have hSh_23 := hSh_11.fr0 hF17
 have hB6_24 := hB6.fr0 hF17
 refine V.run h19 [] 1 1 0 [(6, .bool (decide ((key.size : Int) ≤ 65536)))] fun a h25 => ?_
 by_cases hg26 : (key.size : Int) ≤ 65536
 ·
  have h27 := h25.kt 6 hg26
  refine V.run h27 [(1, .b hB6_24 6)] 5 7 10 [(11, .bool (decide (at' ≥ (-1))))] fun a h28 => ?_
  by_cases hg29 : at' ≥ (-1)
  ·
   have h30 := h28.kt 11 hg29
   refine V.run h30 [(1, .b hB6_24 6)] 5 12 15 [(16, .bool (decide (at' ≤ 1099511627776)))] fun a h31 => ?_
   by_cases hg32 : at' ≤ 1099511627776
   ·
    have h33 := h31.kt 16 hg32
    refine V.run h33 [(1, .bs hB6_24 1 [.int .i64 k, .string s, .slice Al l.length cl, .slice Az z.length cz, .slice Ah h.length ch])] 2 17 17 [(18, .agg #[.int .i64 k, .string s, .slice Al l.length cl, .slice Az z.length cz, .slice Ah h.length ch])] fun a h34 => ?_
    refine V.clg h34 (Go.Proofs.enters_of Tryz.func48 (by kernel_rfl) rfl) (right_any w18 k s Al cl l hSl_21.old Az cz z hSz_22.old Ah ch h hSh_23.old hll hlz hlh hz) ?_
    rintro _ w36 ⟨rfl, hF35⟩
    refine ⟨_, rfl, fun a h37 => ?_⟩
    have hsw36 := hF35.size
    have hF_38 := hF_20.new hF35
    refine V.re h37 [] 20 20 [(2, .bool (bP (okV k s l z h)))] fun a h43 => k15 _ _ ?_
    refine V.ret ?_
    refine V.r1 h43 (.bool (bP (okV k s l z h))) ?_
    exact ⟨congrArg (fun b => Ending.returned (Value.bool b)) (congrArg bP (propext ⟨fun q => ⟨by omega, by omega, q⟩, fun q => q.2.2⟩)), hF_38⟩
   ·
    have h44 := h31.kf 16 hg32
    refine V.re h44 [] 17 20 [(2, .bool false)] fun a h45 => k15 _ _ ?_
    refine V.ret ?_
    refine V.r1 h45 (.bool false) ?_
    exact ⟨congrArg (fun b => Ending.returned (Value.bool b)) (bP_no fun hq => by (obtain ⟨q1, q2, q3⟩ := hq; omega)), hF_20⟩
  ·
   have h46 := h28.kf 11 hg29
   refine V.re h46 [] 12 20 [(2, .bool false)] fun a h47 => k15 _ _ ?_
   refine V.ret ?_
   refine V.r1 h47 (.bool false) ?_
   exact ⟨congrArg (fun b => Ending.returned (Value.bool b)) (bP_no fun hq => by (obtain ⟨q1, q2, q3⟩ := hq; omega)), hF_20⟩
 ·
  have h48 := h25.kf 6 hg26
  refine V.re h48 [] 7 20 [(2, .bool false)] fun a h49 => k15 _ _ ?_
  refine V.ret ?_
  refine V.r1 h49 (.bool false) ?_
  exact ⟨congrArg (fun b => Ending.returned (Value.bool b)) (bP_no fun hq => by (obtain ⟨q1, q2, q3⟩ := hq; omega)), hF_20⟩
theorem chk1_any (w : World) (key : ByteArray) (k : Int) (s : ByteArray) (Al : Option Addr) (cl : Nat) (l : List ByteArray) (hSl : SlR Rp.str (fun k => k < w.heap.size) w (.slice Al l.length cl) l) (Az : Option Addr) (cz : Nat) (z : List (ByteArray × Int)) (hSz : SlR scR (fun k => k < w.heap.size) w (.slice Az z.length cz) z) (Ah : Option Addr) (ch : Nat) (h : List (ByteArray × ByteArray)) (hSh : SlR fdR (fun k => k < w.heap.size) w (.slice Ah h.length ch) h) (at' : Int) (hll : l.length ≤ 140737488355328) (hlz : z.length ≤ 140737488355328) (hlh : h.length ≤ 140737488355328) (hz : ∀ x ∈ z, x.1.size ≤ maxLen) : Calls Tryz.prog 53 #[.agg #[.string key, .int .i64 k, .string s, .slice Al l.length cl, .slice Az z.length cz, .slice Ah h.length ch, .int .i64 at']] w (fun e w' => e = .returned (.bool (!bP (okE key at' (okV k s l z h)))) ∧ Fr [] w w') := by
 have hF := Fr.refl [] w
 refine V.en 6 Tryz.func53 fun a h1 => ?_
 refine V.sg fun K2 k3 => ?_
 refine V.go (V.mk [(0, .agg #[.string key, .int .i64 k, .string s, .slice Al l.length cl, .slice Az z.length cz, .slice Ah h.length ch, .int .i64 at'])] ⟨h1.e, trivial⟩ (by kernel_rfl) [.string key, .int .i64 k, .string s, .slice Al l.length cl, .slice Az z.length cz, .slice Ah h.length ch, .int .i64 at'] 55 (fun b => .pointer (some ⟨b, 0, none⟩)) (by kernel_rfl) ?_)
 intro w5 b4 heb4 hB6 hF7 hsb4
 have hF_8 := hF.new hF7
 have hSl_9 := hSl.fr0 hF7
 have hSz_10 := hSz.fr0 hF7
 have hSh_11 := hSh.fr0 hF7
 refine V.pt h1 fun a h12 => ?_
 refine V.re h12 [] 2 2 [] fun a h13 => k3 _ _ ?_
 refine V.sg fun K14 k15 => ?_
 refine V.run h13 [(0, .bs hB6 0 [.string key, .int .i64 k, .string s, .slice Al l.length cl, .slice Az z.length cz, .slice Ah h.length ch, .int .i64 at'])] 1 1 0 [(3, .agg #[.string key, .int .i64 k, .string s, .slice Al l.length cl, .slice Az z.length cz, .slice Ah h.length ch, .int .i64 at'])] fun a h16 => ?_
 refine V.cl h16 (Go.Proofs.enters_of Tryz.func54 (by kernel_rfl) rfl) (entry_any w5 key k s Al cl l hSl_9.old Az cz z hSz_10.old Ah ch h hSh_11.old at' hll hlz hlh hz) ?_
 rintro _ w18 ⟨rfl, hF17⟩
 refine ⟨_, rfl, fun a h19 => ?_⟩
 have hsw18 := hF17.size
 have hF_20 := hF_8.new hF17
 refine V.re h19 [] 5 5 [(2, .bool (!(bP (okE key at' (okV k s l z h)))))] fun a h25 => k15 _ _ ?_
 refine V.ret ?_
 refine V.r1 h25 (.bool (!(bP (okE key at' (okV k s l z h))))) ?_
 exact ⟨rfl, hF_20⟩
theorem ix_en (w : World) (Al : Option Addr) (cl : Nat) (l : List EnD) (hSl : SlR enR (fun k => k < w.heap.size) w (.slice Al l.length cl) l) (hbn : ∀ x ∈ l, bndE x) : Calls Tryz.prog 109 #[.slice Al l.length cl, .func (.func 53) #[] #[]] w (fun e w' => ∃ r : Int, e = .returned (.int .i64 r) ∧ Fr [] w w' ∧ ((r = -1 ∧ AllG (gO l) l.length) ∨ (0 ≤ r ∧ ¬ AllG (gO l) l.length))) := by
 have hF := Fr.refl [] w
 have hlen0 := hSl.len_le
 refine V.en 19 Tryz.func109 fun a h1 => ?_
 refine V.sr h1 [] 4 4 [] fun a h4 => ?_
 refine V.seq fun K5 k6 => ?_
 refine V.sr h4 [] 6 6 [(7, .int .i64 ((l.length : Nat) : Int)), (8, .int .i64 0)] fun a h9 => ?_
 refine V.block ?_
 refine V.loop1 (fun (i : Nat) a_ w_ => En 19 [] a_ [(0, .slice Al l.length cl), (1, .func (.func 53) #[] #[]), (7, .int .i64 ((l.length : Nat) : Int)), (8, .int .i64 (i : Int))] ∧ Fr [] w w_ ∧ SlR enR (fun k => k < w.heap.size) w_ (.slice Al l.length cl) l ∧ (i ≤ l.length) ∧ (AllG (gO l) i)) (fun (i : Nat) => l.length - i) 0 ?_ ?_
 ·
  refine ⟨(h9.eq 8 (v := (.int .i64 0)) (u := (.int .i64 (0 : Int))) (V.int_eq (by omega))).only _, hF, hSl, (by omega), (AllG.zero _)⟩
 ·
  rintro i a10 w11 ⟨h12, hF_13, hSl_14, hi, hG⟩
  have hfs15 := hF_13.size
  refine V.sr h12 [] 1 0 [(9, .bool (decide ((i : Int) < ((l.length : Nat) : Int))))] fun a h18 => ?_
  refine V.seq fun K19 k20 => ?_
  refine V.cp h18 ((i : Int) < ((l.length : Nat) : Int)) (fun ht21 => ?_) (fun ht21 => ?_)
  ·
   refine V.skip ?_
   refine V.then_n (k20 _ _ ?_)
   refine V.seq fun K22 k23 => ?_
   refine V.block ?_
   refine V.sr h18 [] 10 10 [(5, .int .i64 (i : Int))] fun a h26 => ?_
   obtain ⟨g29, o30, hA31, hA31l, hA31z⟩ := hSl_14.addr (by omega)
   obtain ⟨cs32, hok33, hE34⟩ := hSl_14.els hA31 (i : Int) (by omega) (by omega)
   obtain ⟨Al35, cl36, Az37, cz38, Ah39, ch40, rfl, hS41, hS42, hS43⟩ := en_open hok33
   refine V.sg fun K27 k28 => ?_
   refine V.run h26 [(3, .ix g29 o30 l.length cl .i64 (i : Int) 7 hA31), (0, .ls ⟨g29, o30 + (i : Int).toNat * 7, none⟩ [.string ((at_ enR l (i : Int)).key), .int .i64 ((at_ enR l (i : Int)).k), .string ((at_ enR l (i : Int)).s), .slice Al35 ((at_ enR l (i : Int)).l.length) cl36, .slice Az37 ((at_ enR l (i : Int)).z.length) cz38, .slice Ah39 ((at_ enR l (i : Int)).h.length) ch40, .int .i64 ((at_ enR l (i : Int)).till)] (hE34.cells 0 _ rfl))] 5 12 14 [(11, .func (.func 53) #[] #[]), (15, .agg #[.string ((at_ enR l (i : Int)).key), .int .i64 ((at_ enR l (i : Int)).k), .string ((at_ enR l (i : Int)).s), .slice Al35 ((at_ enR l (i : Int)).l.length) cl36, .slice Az37 ((at_ enR l (i : Int)).z.length) cz38, .slice Ah39 ((at_ enR l (i : Int)).h.length) ch40, .int .i64 ((at_ enR l (i : Int)).till)])] fun a h44 => ?_
   refine V.cl h44 (Go.Proofs.enters_of Tryz.func53 (by kernel_rfl) rfl) (chk1_any w11 ((at_ enR l (i : Int)).key) ((at_ enR l (i : Int)).k) ((at_ enR l (i : Int)).s) Al35 cl36 ((at_ enR l (i : Int)).l) hS41.old Az37 cz38 ((at_ enR l (i : Int)).z) hS42.old Ah39 ch40 ((at_ enR l (i : Int)).h) hS43.old ((at_ enR l (i : Int)).till) (hbn _ (at_memE (by omega))).1 (hbn _ (at_memE (by omega))).2.1 (hbn _ (at_memE (by omega))).2.2.1 (hbn _ (at_memE (by omega))).2.2.2) ?_
   rintro _ w46 ⟨rfl, hF45⟩
   refine ⟨_, rfl, fun a h47 => ?_⟩
   have hsw46 := hF45.size
   have hF_48 := hF_13.new hF45
   have hSl_49 := hSl_14.fr0 hF45
   refine V.nt (k28 _ _ ?_)
   refine V.cb h47 (!bP (okE ((at_ enR l (i : Int)).key) ((at_ enR l (i : Int)).till) (okV ((at_ enR l (i : Int)).k) ((at_ enR l (i : Int)).s) ((at_ enR l (i : Int)).l) ((at_ enR l (i : Int)).z) ((at_ enR l (i : Int)).h)))) (fun ht54 => ?_) (fun ht54 => ?_)
   ·
    refine V.sr h47 [] 17 17 [(4, .int .i64 (i : Int))] fun a h57 => ?_
    refine V.ret (V.blk_r (V.then_r (V.then_r (V.blk_r (V.then_r ?_)))))
    refine V.r1 h57 (.int .i64 (i : Int)) ?_
    exact ⟨_, rfl, hF_48, .inr ⟨by omega, AllG.no (i := i) (by omega) fun hg => by unfold gO okD at hg; have h1 := (bP_yes hg).symm; have hq := ht54; rw [h1] at hq; simp at hq⟩⟩
   ·
    refine V.skip (V.blk_n ?_)
    refine V.then_n (k23 _ _ ?_)
    refine V.rr h47 [(0, .i ((i : Int) + 1))] 18 18 [(8, .int .i64 ((i : Int) + 1))] fun a h58 => ?_
    refine V.then_n ?_
    refine ⟨i + 1, by omega, ?_⟩
    refine ⟨(h58.eq 8 (v := (.int .i64 ((i : Int) + 1))) (u := (.int .i64 ((i + 1) : Int))) (V.int_eq (by omega))).only _, hF_48, hSl_49, (by omega), (hG.step (bP_of (by have hq := ht54; simp at hq; exact hq)))⟩
  ·
   refine V.exit (V.then_e (V.then_e (V.blk_hit ?_)))
   refine V.then_n (k6 _ _ ?_)
   refine V.sr h18 [] 1 0 [(4, .int .i64 (-1))] fun a h61 => ?_
   refine V.ret ?_
   refine V.r1 h61 (.int .i64 (-1)) ?_
   exact ⟨_, rfl, hF_13, .inl ⟨rfl, hG.le (by omega)⟩⟩
theorem con_en (w : World) (Al : Option Addr) (cl : Nat) (l : List EnD) (hSl : SlR enR (fun k => k < w.heap.size) w (.slice Al l.length cl) l) (hbn : ∀ x ∈ l, bndE x) : Calls Tryz.prog 52 #[.slice Al l.length cl, .func (.func 53) #[] #[]] w (fun e w' => e = .returned (.bool (bP (¬ AllG (gO l) l.length))) ∧ Fr [] w w') := by
 have hF := Fr.refl [] w
 refine V.en 9 Tryz.func52 fun a h1 => ?_
 refine V.sr h1 [] 4 4 [] fun a h4 => ?_
 refine V.sg fun K5 k6 => ?_
 refine V.run h4 [] 2 1 0 [(5, .slice Al l.length cl), (6, .func (.func 53) #[] #[])] fun a h7 => ?_
 refine V.cl h7 (Go.Proofs.enters_of Tryz.func109 (by kernel_rfl) rfl) (ix_en w Al cl l hSl.old hbn) ?_
 rintro _ w11 ⟨r8, rfl, hF9, hr10⟩
 refine ⟨_, rfl, fun a h12 => ?_⟩
 have hsw11 := hF9.size
 have hF_13 := hF.new hF9
 refine V.re h12 [] 8 8 [(4, .bool (decide (r8 ≥ 0)))] fun a h15 => k6 _ _ ?_
 refine V.ret ?_
 refine V.r1 h15 (.bool (decide (r8 ≥ 0))) ?_
 exact ⟨congrArg (fun b => Ending.returned (Value.bool b)) (bP_dec.trans (congrArg bP (propext ⟨fun h => by (rcases hr10 with h1 | h1; omega; exact h1.2), fun h => by (rcases hr10 with h1 | h1; exact absurd h1.2 h; omega)⟩))), hF_13⟩
theorem check_any (w : World) (Al : Option Addr) (cl : Nat) (l : List EnD) (hSl : SlR enR (fun k => k < w.heap.size) w (.slice Al l.length cl) l) (hbn : ∀ x ∈ l, bndE x) : Calls Tryz.prog 20 #[.slice Al l.length cl] w (fun e w' => e = .returned (.int .i64 (imgN l)) ∧ Fr [] w w') := by
 have hF := Fr.refl [] w
 have hlen0 := hSl.len_le
 refine V.en 13 Tryz.func20 fun a h1 => ?_
 refine V.sr h1 [] 2 2 [] fun a h4 => ?_
 refine V.seq fun K5 k6 => ?_
 refine V.sr h4 [] 3 4 [(5, .bool (decide (((l.length : Nat) : Int) > 65536)))] fun a h9 => ?_
 refine V.cp h9 (((l.length : Nat) : Int) > 65536) (fun ht10 => ?_) (fun ht10 => ?_)
 ·
  refine V.sr h9 [] 1 0 [(2, .int .i64 3)] fun a h13 => ?_
  refine V.ret (V.then_r ?_)
  refine V.r1 h13 (.int .i64 3) ?_
  exact ⟨congrArg (fun b => Ending.returned (Value.int .i64 b)) (imgN_many (by omega)).symm, hF⟩
 ·
  refine V.skip ?_
  refine V.then_n (k6 _ _ ?_)
  refine V.seq fun K14 k15 => ?_
  refine V.sg fun K16 k17 => ?_
  refine V.run h9 [] 1 1 0 [(6, .slice Al l.length cl)] fun a h18 => ?_
  refine V.cl h18 (Go.Proofs.enters_of Tryz.func50 (by kernel_rfl) rfl) (rising_en w Al cl l hSl.old) ?_
  rintro _ w20 ⟨rfl, hF19⟩
  refine ⟨_, rfl, fun a h21 => ?_⟩
  have hsw20 := hF19.size
  have hF_22 := hF.new hF19
  have hSl_23 := hSl.fr0 hF19
  refine V.run h21 [] 2 8 8 [(9, .bool (!(bP (AllG (gR enR (fun x y => slt x.key y.key) l) l.length))))] fun a h24 => ?_
  by_cases hg25 : (!(bP (AllG (gR enR (fun x y => slt x.key y.key) l) l.length))) = true
  ·
   have h26 := h24.kbt 9 hg25
   refine V.re h26 [] 10 11 [(12, .bool true)] fun a h27 => k17 _ _ ?_
   refine V.ct h27 ?_
   refine V.sr h27 [] 1 0 [(2, .int .i64 90)] fun a h30 => ?_
   refine V.ret (V.then_r ?_)
   refine V.r1 h30 (.int .i64 90) ?_
   exact ⟨congrArg (fun b => Ending.returned (Value.int .i64 b)) (imgN_no (by omega) fun hg => by first | (have h1 := (bP_yes (gE_iff.1 hg).1).symm; have hq := hg25; rw [h1] at hq; simp at hq; done) | (have h2 := nbP.2 (gE_iff.1 hg).2; have hq := hg25; rw [hq] at h2; simp at h2)).symm, hF_22⟩
  ·
   have h31 := h24.kbf 9 hg25
   refine V.run h31 [] 1 1 0 [(10, .slice Al l.length cl)] fun a h32 => ?_
   refine V.clg h32 (Go.Proofs.enters_of Tryz.func52 (by kernel_rfl) rfl) (con_en w20 Al cl l hSl_23.old hbn) ?_
   rintro _ w34 ⟨rfl, hF33⟩
   refine ⟨_, rfl, fun a h35 => ?_⟩
   have hsw34 := hF33.size
   have hF_36 := hF_22.new hF33
   refine V.re h35 [] 1 0 [(12, .bool (bP (¬ AllG (gO l) l.length)))] fun a h38 => k17 _ _ ?_
   refine V.cb h38 (bP (¬ AllG (gO l) l.length)) (fun ht39 => ?_) (fun ht39 => ?_)
   ·
    refine V.sr h38 [] 1 0 [(2, .int .i64 90)] fun a h42 => ?_
    refine V.ret (V.then_r ?_)
    refine V.r1 h42 (.int .i64 90) ?_
    exact ⟨congrArg (fun b => Ending.returned (Value.int .i64 b)) (imgN_no (by omega) fun hg => by first | (have h1 := (bP_yes (gE_iff.1 hg).1).symm; have hq := hg25; rw [h1] at hq; simp at hq; done) | (have h2 := nbP.2 (gE_iff.1 hg).2; have hq := ht39; rw [hq] at h2; simp at h2)).symm, hF_36⟩
   ·
    refine V.skip ?_
    refine V.then_n (k15 _ _ ?_)
    refine V.sr h38 [] 1 0 [(2, .int .i64 0)] fun a h45 => ?_
    refine V.ret ?_
    refine V.r1 h45 (.int .i64 0) ?_
    exact ⟨congrArg (fun b => Ending.returned (Value.int .i64 b)) (imgN_ok (by omega) (gE_iff.2 ⟨bP_of (by have hq := hg25; simpa using hq), nbP.1 (by have hq := ht39; simpa using hq)⟩)).symm, hF_36⟩
theorem info98 : (Tryz.prog.info? 98).map (fun i => (i.zero, i.size, i.bytes)) = some (some (.agg #[.string ⟨#[]⟩, .int .i64 0]), 2, 24) := by kernel_rfl
theorem info101 : (Tryz.prog.info? 101).map (fun i => (i.zero, i.size, i.bytes)) = some (some (.agg #[.string ⟨#[]⟩, .string ⟨#[]⟩]), 2, 32) := by kernel_rfl
theorem clone_str (w : World) (ad : Addr) (c : Nat) (l : List ByteArray) (hS : SlR Rp.str (fun k => k < w.heap.size) w (.slice (some ad) l.length c) l) (hl : l.length ≤ 1099511627776) : Calls Tryz.prog 111 #[.slice (some ad) l.length c] w (fun e w' => ∃ A' c', e = .returned (.slice A' l.length c') ∧ OwR Rp.str NoZ w' w.heap.size 9 (.slice A' l.length c') l ∧ Fr [] w w') := by
 have hF := Fr.refl [] w
 refine V.en 8 Tryz.func111 fun a h1 => ?_
 refine V.sr h1 [] 2 2 [] fun a h4 => ?_
 refine V.seq fun K5 k6 => ?_
 refine V.sr h4 [] 3 3 [(4, .bool false)] fun a h9 => ?_
 refine V.cf h9 ?_
 refine V.skip ?_
 refine V.then_n (k6 _ _ ?_)
 refine V.sg fun K10 k11 => ?_
 refine V.go (V.mk [] trivial (by kernel_rfl) [] 9 (fun b => .slice (some ⟨b, 0, none⟩) 0 0) (by kernel_rfl) ?_)
 intro w13 b12 heb12 hB14 hF15 hsb12
 have hF_16 := hF.new hF15
 have hS_17 := hS.fr0 hF15
 refine V.pt h9 fun a h18 => ?_
 have hO19 := OwR.empty (R := Rp.str) (base := b12) hB14 (Nat.le_refl _)
 refine V.run h18 [] 1 1 0 [(6, .slice (some ad) l.length c)] fun a h25 => ?_
 refine V.go (V.appS (R := Rp.str) (h25.e (v := (.slice (some ⟨b12, 0, none⟩) 0 0))) (h25.e (v := (.slice (some ad) l.length c))) (by kernel_rfl) info9 (by kernel_rfl) (by decide) hO19 hS_17 (fun _ _ h => h) (by (try simp only [List.length_nil]); omega) (by decide) (by omega) ?_)
 intro A20 c21 w22 hO23 hF24
 have hsw22 := hF24.size
 have hF_26 := hF_16.own hF24 (own_ge hO19 (by omega))
 refine V.pt h25 fun a h28 => ?_
 refine V.re h28 [] 1 0 [(2, .slice A20 ((([] : List ByteArray)).length + (l).length) c21)] fun a h29 => k11 _ _ ?_
 refine V.ret ?_
 refine V.r1 h29 (.slice A20 ((([] : List ByteArray)).length + (l).length) c21) ?_
 have hq := hO23.rebase (base' := w.heap.size) (by omega)
 simp only [List.nil_append, List.length_nil, Nat.zero_add] at hq ⊢
 exact ⟨_, _, rfl, hq, hF_26⟩
theorem clonen_str (w : World) (c : Nat) : Calls Tryz.prog 111 #[.slice none 0 c] w (fun e w' => e = .returned (.slice none 0 0) ∧ Fr [] w w') := by
 have hF := Fr.refl [] w
 refine V.en 8 Tryz.func111 fun a h1 => ?_
 refine V.sr h1 [] 2 2 [] fun a h4 => ?_
 refine V.seq fun K5 k6 => ?_
 refine V.sr h4 [] 3 3 [(4, .bool true)] fun a h9 => ?_
 refine V.ct h9 ?_
 refine V.sr h9 [] 1 0 [(2, .slice none 0 0)] fun a h12 => ?_
 refine V.ret (V.then_r ?_)
 refine V.r1 h12 (.slice none 0 0) ?_
 exact ⟨rfl, hF⟩
theorem clone_sc (w : World) (ad : Addr) (c : Nat) (l : List (ByteArray × Int)) (hS : SlR scR (fun k => k < w.heap.size) w (.slice (some ad) l.length c) l) (hl : l.length ≤ 1099511627776) : Calls Tryz.prog 112 #[.slice (some ad) l.length c] w (fun e w' => ∃ A' c', e = .returned (.slice A' l.length c') ∧ OwR scR NoZ w' w.heap.size 98 (.slice A' l.length c') l ∧ Fr [] w w') := by
 have hF := Fr.refl [] w
 refine V.en 8 Tryz.func112 fun a h1 => ?_
 refine V.sr h1 [] 2 2 [] fun a h4 => ?_
 refine V.seq fun K5 k6 => ?_
 refine V.sr h4 [] 3 3 [(4, .bool false)] fun a h9 => ?_
 refine V.cf h9 ?_
 refine V.skip ?_
 refine V.then_n (k6 _ _ ?_)
 refine V.sg fun K10 k11 => ?_
 refine V.go (V.mk [] trivial (by kernel_rfl) [] 98 (fun b => .slice (some ⟨b, 0, none⟩) 0 0) (by kernel_rfl) ?_)
 intro w13 b12 heb12 hB14 hF15 hsb12
 have hF_16 := hF.new hF15
 have hS_17 := hS.fr0 hF15
 refine V.pt h9 fun a h18 => ?_
 have hO19 := OwR.empty (R := scR) (base := b12) hB14 (Nat.le_refl _)
 refine V.run h18 [] 1 1 0 [(6, .slice (some ad) l.length c)] fun a h25 => ?_
 refine V.go (V.appS (R := scR) (h25.e (v := (.slice (some ⟨b12, 0, none⟩) 0 0))) (h25.e (v := (.slice (some ad) l.length c))) (by kernel_rfl) info98 (by kernel_rfl) (by decide) hO19 hS_17 (fun _ _ h => h) (by (try simp only [List.length_nil]); omega) (by decide) (by omega) ?_)
 intro A20 c21 w22 hO23 hF24
 have hsw22 := hF24.size
 have hF_26 := hF_16.own hF24 (own_ge hO19 (by omega))
 refine V.pt h25 fun a h28 => ?_
 refine V.re h28 [] 1 0 [(2, .slice A20 ((([] : List (ByteArray × Int))).length + (l).length) c21)] fun a h29 => k11 _ _ ?_
 refine V.ret ?_
 refine V.r1 h29 (.slice A20 ((([] : List (ByteArray × Int))).length + (l).length) c21) ?_
 have hq := hO23.rebase (base' := w.heap.size) (by omega)
 simp only [List.nil_append, List.length_nil, Nat.zero_add] at hq ⊢
 exact ⟨_, _, rfl, hq, hF_26⟩
theorem clonen_sc (w : World) (c : Nat) : Calls Tryz.prog 112 #[.slice none 0 c] w (fun e w' => e = .returned (.slice none 0 0) ∧ Fr [] w w') := by
 have hF := Fr.refl [] w
 refine V.en 8 Tryz.func112 fun a h1 => ?_
 refine V.sr h1 [] 2 2 [] fun a h4 => ?_
 refine V.seq fun K5 k6 => ?_
 refine V.sr h4 [] 3 3 [(4, .bool true)] fun a h9 => ?_
 refine V.ct h9 ?_
 refine V.sr h9 [] 1 0 [(2, .slice none 0 0)] fun a h12 => ?_
 refine V.ret (V.then_r ?_)
 refine V.r1 h12 (.slice none 0 0) ?_
 exact ⟨rfl, hF⟩
theorem clone_fd (w : World) (ad : Addr) (c : Nat) (l : List (ByteArray × ByteArray)) (hS : SlR fdR (fun k => k < w.heap.size) w (.slice (some ad) l.length c) l) (hl : l.length ≤ 1099511627776) : Calls Tryz.prog 113 #[.slice (some ad) l.length c] w (fun e w' => ∃ A' c', e = .returned (.slice A' l.length c') ∧ OwR fdR NoZ w' w.heap.size 101 (.slice A' l.length c') l ∧ Fr [] w w') := by
 have hF := Fr.refl [] w
 refine V.en 8 Tryz.func113 fun a h1 => ?_
 refine V.sr h1 [] 2 2 [] fun a h4 => ?_
 refine V.seq fun K5 k6 => ?_
 refine V.sr h4 [] 3 3 [(4, .bool false)] fun a h9 => ?_
 refine V.cf h9 ?_
 refine V.skip ?_
 refine V.then_n (k6 _ _ ?_)
 refine V.sg fun K10 k11 => ?_
 refine V.go (V.mk [] trivial (by kernel_rfl) [] 101 (fun b => .slice (some ⟨b, 0, none⟩) 0 0) (by kernel_rfl) ?_)
 intro w13 b12 heb12 hB14 hF15 hsb12
 have hF_16 := hF.new hF15
 have hS_17 := hS.fr0 hF15
 refine V.pt h9 fun a h18 => ?_
 have hO19 := OwR.empty (R := fdR) (base := b12) hB14 (Nat.le_refl _)
 refine V.run h18 [] 1 1 0 [(6, .slice (some ad) l.length c)] fun a h25 => ?_
 refine V.go (V.appS (R := fdR) (h25.e (v := (.slice (some ⟨b12, 0, none⟩) 0 0))) (h25.e (v := (.slice (some ad) l.length c))) (by kernel_rfl) info101 (by kernel_rfl) (by decide) hO19 hS_17 (fun _ _ h => h) (by (try simp only [List.length_nil]); omega) (by decide) (by omega) ?_)
 intro A20 c21 w22 hO23 hF24
 have hsw22 := hF24.size
 have hF_26 := hF_16.own hF24 (own_ge hO19 (by omega))
 refine V.pt h25 fun a h28 => ?_
 refine V.re h28 [] 1 0 [(2, .slice A20 ((([] : List (ByteArray × ByteArray))).length + (l).length) c21)] fun a h29 => k11 _ _ ?_
 refine V.ret ?_
 refine V.r1 h29 (.slice A20 ((([] : List (ByteArray × ByteArray))).length + (l).length) c21) ?_
 have hq := hO23.rebase (base' := w.heap.size) (by omega)
 simp only [List.nil_append, List.length_nil, Nat.zero_add] at hq ⊢
 exact ⟨_, _, rfl, hq, hF_26⟩
theorem clonen_fd (w : World) (c : Nat) : Calls Tryz.prog 113 #[.slice none 0 c] w (fun e w' => e = .returned (.slice none 0 0) ∧ Fr [] w w') := by
 have hF := Fr.refl [] w
 refine V.en 8 Tryz.func113 fun a h1 => ?_
 refine V.sr h1 [] 2 2 [] fun a h4 => ?_
 refine V.seq fun K5 k6 => ?_
 refine V.sr h4 [] 3 3 [(4, .bool true)] fun a h9 => ?_
 refine V.ct h9 ?_
 refine V.sr h9 [] 1 0 [(2, .slice none 0 0)] fun a h12 => ?_
 refine V.ret (V.then_r ?_)
 refine V.r1 h12 (.slice none 0 0) ?_
 exact ⟨rfl, hF⟩
end Go.Proofs.YtdebkbfnngkdlaaGreatDoor
end
section
namespace Go.V
open Go.Plan (wpL)
open Go.RowKit Go.Base
set_option linter.unusedVariables false
set_option linter.unusedSimpArgs false
theorem hss (s s' : ByteArray) : (s.toList == s'.toList) = decide (s = s') := by
  rw [Bool.eq_iff_iff, beq_iff_eq, decide_eq_true_eq]
  exact ⟨fun h => by have := congrArg Value.bool (show (s.toList == s'.toList) = true by rw [h]; exact beq_self_eq_true _); rw [t_seql] at this; injection this with this; exact of_decide_eq_true this, fun h => by rw [h]⟩
section
variable {P : Program}
def strU (P : Program) (t : TypeId) : Bool := match P.underlying t with
  | some .string => true
  | _ => false
/-- A struct of a text and a number. -/
def aggSS (P : Program) (t : TypeId) : Bool := match P.underlying t with
  | some (.struct fs) => (match fs.toList with
    | [f0, f1] => f0.name != "_" && scalar P f0.type && strU P f0.type && f0.offset == 0 && (f1.name != "_" && scalar P f1.type && strU P f1.type && f1.offset == 1)
    | _ => false) && !P.stoodInHeld t && !P.eqGuardType P.depth t
  | _ => false
theorem equalIn_SS {t : TypeId} {s s' : ByteArray} {n n' : ByteArray} {w : World} (h : aggSS P t = true) :
    (Op.equalIn 10000 t (.agg #[.string s, .string n]) (.agg #[.string s', .string n'])).run P w = .ok (decide (s = s' ∧ n = n')) w ∧ P.eqGuardType P.depth t = false := by
  unfold aggSS at h
  split at h
  · rename_i fs hu
    simp only [Bool.and_eq_true, Bool.not_eq_true'] at h
    obtain ⟨⟨h1, h2⟩, h3⟩ := h
    refine ⟨?_, h3⟩
    split at h1
    · rename_i f0 f1 hfs
      simp only [Bool.and_eq_true, bne_iff_ne, beq_iff_eq] at h1
      obtain ⟨⟨⟨⟨a1, a2⟩, a3⟩, a4⟩, ⟨⟨b1, b2⟩, b3⟩, b4⟩ := h1
      have hfo : P.fieldsOf t = fs := by unfold Program.fieldsOf; rw [hu]
      have hs : P.underlying f0.type = some .string := by unfold strU at a3; split at a3 <;> first | assumption | cases a3
      have hk : P.underlying f1.type = some .string := by unfold strU at b3; split at b3 <;> first | assumption | cases b3
      have e0 : (#[Value.string s, .string n] : Array Value)[0]? = some (.string s) := rfl
      have e0' : (#[Value.string s', .string n'] : Array Value)[0]? = some (.string s') := rfl
      have e1 : (#[Value.string s, .string n] : Array Value)[1]? = some (.string n) := rfl
      have e1' : (#[Value.string s', .string n'] : Array Value)[1]? = some (.string n') := rfl
      rw [show (10000 : Nat) = 9998 + 1 + 1 from rfl, run_equalIn_agg w (9998 + 1) t _ _ (by rw [hfo]; exact hu) h2, hfo, hfs]
      simp only [Op.eqFields]
      rw [if_pos a1, Sem.run_bind, a4, run_part a2 e0]
      simp only [Result.andThen_ok]
      rw [Sem.run_bind, run_part a2 e0']
      simp only [Result.andThen_ok]
      rw [Sem.run_bind, run_equalIn_string w 9998 f0.type _ _ hs]
      simp only [Result.andThen_ok, hss s s']
      by_cases hq : s = s'
      · rw [decide_eq_true hq, Bool.not_true, if_neg (by decide), if_pos b1, Sem.run_bind, b4, run_part b2 e1]
        simp only [Result.andThen_ok]
        rw [Sem.run_bind, run_part b2 e1']
        simp only [Result.andThen_ok]
        rw [Sem.run_bind, run_equalIn_string w 9998 f1.type _ _ hk]
        simp only [Result.andThen_ok, hss n n']
        by_cases hn : n = n'
        · rw [decide_eq_true hn, Bool.not_true, if_neg (by decide), decide_eq_true ⟨hq, hn⟩]; rfl
        · rw [decide_eq_false hn, Bool.not_false, if_pos rfl, decide_eq_false (fun h => hn h.2)]; rfl
      · rw [decide_eq_false hq, Bool.not_false, if_pos rfl, decide_eq_false (fun h => hq h.1)]; rfl
    · cases h1
  · cases h
end
section
variable {P : Program} {ro : Option Nat} {Q : Exit → Act → World → Prop} {a : Act} {w : World} {ops : Array Oper} {rest : List Oper} {d : Option Tmp} {ty : TypeId} {pos : String} {aft : Array Edge} {g : Option (Nat × Bool)}
theorem neqSS {t t' : TypeId} {x y : Operand} (s s' n n' : ByteArray) (hx : a.eval x = .agg #[.string s, .string n]) (hy : a.eval y = .agg #[.string s', .string n']) (h : aggSS P t = true)
    (kk : L ro P ops Q rest (a.put d (.bool (decide (¬ (s = s' ∧ n = n'))))) w) : St ro P ops Q rest ⟨d, .binOp .neq t x y t', ty, pos, aft, g⟩ a w := by
  obtain ⟨h1, h2⟩ := equalIn_SS (s := s) (s' := s') (n := n) (n' := n') (w := w) h
  refine St.val (v := .bool (decide (¬ (s = s' ∧ n = n')))) (w' := w) ?_ kk
  simp only [execOp, hx, hy]
  rw [Sem.run_bind, Sem.run_bind, run_eqGuard_agg w .neq t x y _ _ h2]
  simp only [Result.andThen_ok]
  rw [run_neq_struct, h1]
  simp [Result.andThen, Sem.run_pure]
end
section
variable {P : Program}
def strT (P : Program) (t : TypeId) : Bool := match P.underlying t with
  | some .string => true
  | _ => false
/-- A struct of a text and a number. -/
def aggSI (P : Program) (t : TypeId) : Bool := match P.underlying t with
  | some (.struct fs) => (match fs.toList with
    | [f0, f1] => f0.name != "_" && scalar P f0.type && strT P f0.type && f0.offset == 0 && (f1.name != "_" && scalar P f1.type && intT P f1.type && f1.offset == 1)
    | _ => false) && !P.stoodInHeld t && !P.eqGuardType P.depth t
  | _ => false
theorem equalIn_SI {t : TypeId} {s s' : ByteArray} {n n' : Int} {k : IntKind} {w : World} (h : aggSI P t = true) :
    (Op.equalIn 10000 t (.agg #[.string s, .int k n]) (.agg #[.string s', .int k n'])).run P w = .ok (decide (s = s' ∧ n = n')) w ∧ P.eqGuardType P.depth t = false := by
  unfold aggSI at h
  split at h
  · rename_i fs hu
    simp only [Bool.and_eq_true, Bool.not_eq_true'] at h
    obtain ⟨⟨h1, h2⟩, h3⟩ := h
    refine ⟨?_, h3⟩
    split at h1
    · rename_i f0 f1 hfs
      simp only [Bool.and_eq_true, bne_iff_ne, beq_iff_eq] at h1
      obtain ⟨⟨⟨⟨a1, a2⟩, a3⟩, a4⟩, ⟨⟨b1, b2⟩, b3⟩, b4⟩ := h1
      have hfo : P.fieldsOf t = fs := by unfold Program.fieldsOf; rw [hu]
      have hs : P.underlying f0.type = some .string := by unfold strT at a3; split at a3 <;> first | assumption | cases a3
      obtain ⟨k', hk⟩ : ∃ k', P.underlying f1.type = some (.int k') := by unfold intT at b3; split at b3 <;> first | exact ⟨_, ‹_›⟩ | cases b3
      have e0 : (#[Value.string s, .int k n] : Array Value)[0]? = some (.string s) := rfl
      have e0' : (#[Value.string s', .int k n'] : Array Value)[0]? = some (.string s') := rfl
      have e1 : (#[Value.string s, .int k n] : Array Value)[1]? = some (.int k n) := rfl
      have e1' : (#[Value.string s', .int k n'] : Array Value)[1]? = some (.int k n') := rfl
      have hss : (s.toList == s'.toList) = decide (s = s') := by
        rw [Bool.eq_iff_iff, beq_iff_eq, decide_eq_true_eq]
        exact ⟨fun h => by have := congrArg Value.bool (show (s.toList == s'.toList) = true by rw [h]; exact beq_self_eq_true _); rw [t_seql] at this; injection this with this; exact of_decide_eq_true this, fun h => by rw [h]⟩
      rw [show (10000 : Nat) = 9998 + 1 + 1 from rfl, run_equalIn_agg w (9998 + 1) t _ _ (by rw [hfo]; exact hu) h2, hfo, hfs]
      simp only [Op.eqFields]
      rw [if_pos a1, Sem.run_bind, a4, run_part a2 e0]
      simp only [Result.andThen_ok]
      rw [Sem.run_bind, run_part a2 e0']
      simp only [Result.andThen_ok]
      rw [Sem.run_bind, run_equalIn_string w 9998 f0.type _ _ hs]
      simp only [Result.andThen_ok, hss]
      by_cases hq : s = s'
      · rw [decide_eq_true hq, Bool.not_true, if_neg (by decide), if_pos b1, Sem.run_bind, b4, run_part b2 e1]
        simp only [Result.andThen_ok]
        rw [Sem.run_bind, run_part b2 e1']
        simp only [Result.andThen_ok]
        rw [Sem.run_bind, run_equalIn_int w 9998 f1.type k k' _ _ hk]
        simp only [Result.andThen_ok]
        by_cases hn : n = n'
        · rw [hn, beq_self_eq_true, Bool.not_true, if_neg (by decide), decide_eq_true ⟨hq, rfl⟩]; rfl
        · rw [show (n == n') = false from by simpa using hn, Bool.not_false, if_pos rfl, decide_eq_false (fun h => hn h.2)]; rfl
      · rw [decide_eq_false hq, Bool.not_false, if_pos rfl, decide_eq_false (fun h => hq h.1)]; rfl
    · cases h1
  · cases h
end
section
variable {P : Program} {ro : Option Nat} {Q : Exit → Act → World → Prop} {a : Act} {w : World} {ops : Array Oper} {rest : List Oper} {d : Option Tmp} {ty : TypeId} {pos : String} {aft : Array Edge} {g : Option (Nat × Bool)}
theorem neqSI {t t' : TypeId} {x y : Operand} (k : IntKind) (s s' : ByteArray) (n n' : Int) (hx : a.eval x = .agg #[.string s, .int k n]) (hy : a.eval y = .agg #[.string s', .int k n']) (h : aggSI P t = true)
    (kk : L ro P ops Q rest (a.put d (.bool (decide (¬ (s = s' ∧ n = n'))))) w) : St ro P ops Q rest ⟨d, .binOp .neq t x y t', ty, pos, aft, g⟩ a w := by
  obtain ⟨h1, h2⟩ := equalIn_SI (k := k) (s := s) (s' := s') (n := n) (n' := n') (w := w) h
  refine St.val (v := .bool (decide (¬ (s = s' ∧ n = n')))) (w' := w) ?_ kk
  simp only [execOp, hx, hy]
  rw [Sem.run_bind, Sem.run_bind, run_eqGuard_agg w .neq t x y _ _ h2]
  simp only [Result.andThen_ok]
  rw [run_neq_struct, h1]
  simp [Result.andThen, Sem.run_pure]
end
end Go.V
end
section
namespace Go.Proofs.YtdebkbfnngkdlaaGreatDoor
open Go.V Go.Base
open Go.RowKit (Below)
attribute [local irreducible] Act.put Act.eval
set_option linter.unusedVariables false
set_option linter.unusedSimpArgs false
set_option maxHeartbeats 4000000
set_option maxRecDepth 20000
/-! ### Equal rows, by places -/
theorem at_el {α : Type} (R : Rp α) {l : List α} {i : Nat} (h : i < l.length) : at_ R l (i : Int) = l[i] := Option.some.inj ((at_some R (xs := l) (i := (i : Int)) (by omega) (by omega)).symm.trans (List.getElem?_eq_getElem h))
def gQ {α : Type} (R : Rp α) (l r : List α) (i : Nat) : Prop := at_ R l (i : Int) = at_ R r (i : Int)
theorem gQ_eq {α : Type} {R : Rp α} {l r : List α} (h : l.length = r.length) (hG : AllG (gQ R l r) l.length) : l = r :=
  List.ext_getElem h fun i h1 h2 => by
    have hq := hG i h1
    unfold gQ at hq
    rwa [at_el R h1, at_el R h2] at hq
theorem rsame_any (w : World) (Al : Option Addr) (cl : Nat) (l : List (ByteArray × Int)) (hSl : SlR scR (fun k => k < w.heap.size) w (.slice Al l.length cl) l) (Ar : Option Addr) (cr : Nat) (r : List (ByteArray × Int)) (hSr : SlR scR (fun k => k < w.heap.size) w (.slice Ar r.length cr) r) : Calls Tryz.prog 61 #[.slice Al l.length cl, .slice Ar r.length cr] w (fun e w' => e = .returned (.bool (bP (l = r))) ∧ Fr [] w w') := by
 have hF := Fr.refl [] w
 have hlen0 := hSl.len_le
 have hlen1 := hSr.len_le
 refine V.en 26 Tryz.func61 fun a h1 => ?_
 refine V.sr h1 [] 4 4 [] fun a h4 => ?_
 refine V.seq fun K5 k6 => ?_
 refine V.sr h4 [(4, .ne ((l.length : Nat) : Int) ((r.length : Nat) : Int))] 6 9 [(10, .bool (decide (¬ ((l.length : Nat) : Int) = ((r.length : Nat) : Int))))] fun a h9 => ?_
 refine V.cp h9 (¬ ((l.length : Nat) : Int) = ((r.length : Nat) : Int)) (fun ht10 => ?_) (fun ht10 => ?_)
 ·
  refine V.sr h9 [] 1 0 [(4, .bool false)] fun a h13 => ?_
  refine V.ret (V.then_r ?_)
  refine V.r1 h13 (.bool false) ?_
  exact ⟨congrArg (fun b => Ending.returned (Value.bool b)) (bP_no fun hq => by subst hq; omega), hF⟩
 ·
  refine V.skip ?_
  refine V.then_n (k6 _ _ ?_)
  refine V.seq fun K14 k15 => ?_
  refine V.sr h9 [] 1 0 [(5, .int .i64 0)] fun a h18 => ?_
  refine V.block ?_
  refine V.loop1 (fun (i : Nat) a_ w_ => En 26 [] a_ [(0, .slice Al l.length cl), (1, .slice Ar r.length cr), (5, .int .i64 (i : Int))] ∧ Fr [] w w_ ∧ SlR scR (fun k => k < w.heap.size) w_ (.slice Al l.length cl) l ∧ SlR scR (fun k => k < w.heap.size) w_ (.slice Ar r.length cr) r ∧ (i ≤ l.length) ∧ (AllG (gQ scR l r) i)) (fun (i : Nat) => l.length - i) 0 ?_ ?_
  ·
   refine ⟨(h18.eq 5 (v := (.int .i64 0)) (u := (.int .i64 (0 : Int))) (V.int_eq (by omega))).only _, hF, hSl, hSr, (by omega), (AllG.zero _)⟩
  ·
   rintro i a19 w20 ⟨h21, hF_22, hSl_23, hSr_24, hi, hG⟩
   have hfs25 := hF_22.size
   refine V.seq fun K26 k27 => ?_
   refine V.sr h21 [] 11 13 [(14, .bool (decide ((i : Int) < ((l.length : Nat) : Int))))] fun a h30 => ?_
   refine V.cp h30 ((i : Int) < ((l.length : Nat) : Int)) (fun ht31 => ?_) (fun ht31 => ?_)
   ·
    refine V.skip ?_
    refine V.then_n (k27 _ _ ?_)
    refine V.seq fun K32 k33 => ?_
    refine V.block ?_
    refine V.seq fun K34 k35 => ?_
    refine V.pl [([0,1,2,3,4,5,6,7],some (8,[])),([],none)] fun w36 hF37 hsw36 => ?_
    have hF_38 := hF_22.new hF37
    have hSl_39 := hSl_23.fr0 hF37
    have hSr_40 := hSr_24.fr0 hF37
    obtain ⟨g41, o42, hA43, hA43l, hA43z⟩ := hSl_39.addr (by omega)
    obtain ⟨cs44, hok45, hE46⟩ := hSl_39.els hA43 (i : Int) (by omega) (by omega)
    obtain rfl : cs44 = [.string (at_ scR l (i : Int)).1, .int .i64 (at_ scR l (i : Int)).2] := hok45
    obtain ⟨g47, o48, hA49, hA49l, hA49z⟩ := hSr_40.addr (by omega)
    obtain ⟨cs50, hok51, hE52⟩ := hSr_40.els hA49 (i : Int) (by omega) (by omega)
    obtain rfl : cs50 = [.string (at_ scR r (i : Int)).1, .int .i64 (at_ scR r (i : Int)).2] := hok51
    refine V.pe h30 [(2, .ix g41 o42 l.length cl .i64 (i : Int) 2 hA43), (0, .ls ⟨g41, o42 + (i : Int).toNat * 2, none⟩ [.string ((at_ scR l (i : Int)).1), .int .i64 ((at_ scR l (i : Int)).2)] (hE46.cells 0 _ rfl)), (2, .ix g47 o48 r.length cr .i64 (i : Int) 2 hA49), (0, .ls ⟨g47, o48 + (i : Int).toNat * 2, none⟩ [.string ((at_ scR r (i : Int)).1), .int .i64 ((at_ scR r (i : Int)).2)] (hE52.cells 0 _ rfl))] 17 23 [(20, .agg #[.string ((at_ scR l (i : Int)).1), .int .i64 ((at_ scR l (i : Int)).2)]), (24, .agg #[.string ((at_ scR r (i : Int)).1), .int .i64 ((at_ scR r (i : Int)).2)])] fun a h53 => ?_
    refine V.go (V.neqSI .i64 ((at_ scR l (i : Int)).1) ((at_ scR r (i : Int)).1) ((at_ scR l (i : Int)).2) ((at_ scR r (i : Int)).2) h53.e h53.e (by kernel_rfl) ?_)
    refine V.pt h53 fun a h54 => ?_
    refine V.eh trivial ?_
    refine V.pz h54 [] 1 0 [] fun a h55 => k35 _ _ ?_
    refine V.cp h55 (¬ (((at_ scR l (i : Int)).1) = ((at_ scR r (i : Int)).1) ∧ ((at_ scR l (i : Int)).2) = ((at_ scR r (i : Int)).2))) (fun ht56 => ?_) (fun ht56 => ?_)
    ·
     refine V.sr h55 [] 1 0 [(4, .bool false)] fun a h59 => ?_
     refine V.ret (V.blk_r (V.then_r (V.then_r (V.blk_r (V.then_r ?_)))))
     refine V.r1 h59 (.bool false) ?_
     exact ⟨congrArg (fun b => Ending.returned (Value.bool b)) (bP_no fun hq => by subst hq; have hq := ht56; simp at hq), hF_38⟩
    ·
     refine V.skip (V.blk_n ?_)
     refine V.then_n (k33 _ _ ?_)
     refine V.rr h55 [(1, .i ((i : Int) + 1))] 15 16 [(5, .int .i64 ((i : Int) + 1))] fun a h60 => ?_
     refine V.then_n ?_
     refine ⟨i + 1, by omega, ?_⟩
     refine ⟨(h60.eq 5 (v := (.int .i64 ((i : Int) + 1))) (u := (.int .i64 ((i + 1) : Int))) (V.int_eq (by omega))).only _, hF_38, hSl_39, hSr_40, (by omega), (hG.step (by have hq := ht56; unfold gQ; first | exact hq | (simpa using hq) | (simp only [Decidable.not_not, Prod.ext_iff] at hq ⊢; exact hq)))⟩
   ·
    refine V.exit (V.then_e (V.then_e (V.blk_hit ?_)))
    refine V.then_n (k15 _ _ ?_)
    refine V.sr h30 [] 1 0 [(4, .bool true)] fun a h63 => ?_
    refine V.ret ?_
    refine V.r1 h63 (.bool true) ?_
    exact ⟨congrArg (fun b => Ending.returned (Value.bool b)) (bP_yes (gQ_eq (R := scR) (by omega) (hG.le (by omega)))), hF_22⟩
/-- Two values are one. -/
def sameV (k : Int) (s : ByteArray) (l : List ByteArray) (z : List (ByteArray × Int)) (h : List (ByteArray × ByteArray)) (k2 : Int) (s2 : ByteArray) (l2 : List ByteArray) (z2 : List (ByteArray × Int)) (h2 : List (ByteArray × ByteArray)) : Prop := k = k2 ∧ s = s2 ∧ l = l2 ∧ z = z2 ∧ h = h2
theorem rsamevalue_any (w : World) (k : Int) (s : ByteArray) (Al : Option Addr) (cl : Nat) (l : List ByteArray) (hSl : SlR Rp.str (fun k => k < w.heap.size) w (.slice Al l.length cl) l) (Az : Option Addr) (cz : Nat) (z : List (ByteArray × Int)) (hSz : SlR scR (fun k => k < w.heap.size) w (.slice Az z.length cz) z) (Ah : Option Addr) (ch : Nat) (h : List (ByteArray × ByteArray)) (hSh : SlR fdR (fun k => k < w.heap.size) w (.slice Ah h.length ch) h) (k2 : Int) (s2 : ByteArray) (Al2 : Option Addr) (cl2 : Nat) (l2 : List ByteArray) (hSl2 : SlR Rp.str (fun k => k < w.heap.size) w (.slice Al2 l2.length cl2) l2) (Az2 : Option Addr) (cz2 : Nat) (z2 : List (ByteArray × Int)) (hSz2 : SlR scR (fun k => k < w.heap.size) w (.slice Az2 z2.length cz2) z2) (Ah2 : Option Addr) (ch2 : Nat) (h2 : List (ByteArray × ByteArray)) (hSh2 : SlR fdR (fun k => k < w.heap.size) w (.slice Ah2 h2.length ch2) h2) : Calls Tryz.prog 24 #[.agg #[.int .i64 k, .string s, .slice Al l.length cl, .slice Az z.length cz, .slice Ah h.length ch], .agg #[.int .i64 k2, .string s2, .slice Al2 l2.length cl2, .slice Az2 z2.length cz2, .slice Ah2 h2.length ch2]] w (fun e w' => e = .returned (.bool (bP (sameV k s l z h k2 s2 l2 z2 h2))) ∧ Fr [] w w') := by
 have hF := Fr.refl [] w
 have hlen0 := hSl.len_le
 have hlen1 := hSh.len_le
 refine V.en 81 Tryz.func24 fun a h1 => ?_
 refine V.sg fun K2 k3 => ?_
 refine V.go (V.mk [(0, .agg #[.int .i64 k, .string s, .slice Al l.length cl, .slice Az z.length cz, .slice Ah h.length ch])] ⟨h1.e, trivial⟩ (by kernel_rfl) [.int .i64 k, .string s, .slice Al l.length cl, .slice Az z.length cz, .slice Ah h.length ch] 46 (fun b => .pointer (some ⟨b, 0, none⟩)) (by kernel_rfl) ?_)
 intro w5 b4 heb4 hB6 hF7 hsb4
 have hF_8 := hF.new hF7
 have hSl_9 := hSl.fr0 hF7
 have hSz_10 := hSz.fr0 hF7
 have hSh_11 := hSh.fr0 hF7
 have hSl2_12 := hSl2.fr0 hF7
 have hSz2_13 := hSz2.fr0 hF7
 have hSh2_14 := hSh2.fr0 hF7
 refine V.pt h1 fun a h15 => ?_
 refine V.go (V.mk [(1, .agg #[.int .i64 k2, .string s2, .slice Al2 l2.length cl2, .slice Az2 z2.length cz2, .slice Ah2 h2.length ch2])] ⟨h15.e, trivial⟩ (by kernel_rfl) [.int .i64 k2, .string s2, .slice Al2 l2.length cl2, .slice Az2 z2.length cz2, .slice Ah2 h2.length ch2] 46 (fun b => .pointer (some ⟨b, 0, none⟩)) (by kernel_rfl) ?_)
 intro w17 b16 heb16 hB18 hF19 hsb16
 have hF_20 := hF_8.new hF19
 have hSl_21 := hSl_9.fr0 hF19
 have hSz_22 := hSz_10.fr0 hF19
 have hSh_23 := hSh_11.fr0 hF19
 have hSl2_24 := hSl2_12.fr0 hF19
 have hSz2_25 := hSz2_13.fr0 hF19
 have hSh2_26 := hSh2_14.fr0 hF19
 have hB6_27 := hB6.fr0 hF19
 refine V.pt h15 fun a h28 => ?_
 refine V.re h28 [] 4 4 [] fun a h29 => k3 _ _ ?_
 refine V.seq fun K30 k31 => ?_
 refine V.sg fun K32 k33 => ?_
 refine V.run h29 [(1, .b hB6_27 0), (1, .b hB18 0), (0, .ne k k2)] 6 7 11 [(12, .bool (decide (¬ k = k2)))] fun a h34 => ?_
 by_cases hg35 : ¬ k = k2
 ·
  have h36 := h34.kt 12 hg35
  refine V.re h36 [] 13 43 [(44, .bool true)] fun a h37 => k33 _ _ ?_
  have h38 := h37.only [(2, .pointer (some ⟨b4, 0, none⟩)), (3, .pointer (some ⟨b16, 0, none⟩)), (44, .bool true)]
  refine V.ct h38 ?_
  refine V.sr h38 [] 1 0 [(4, .bool false)] fun a h41 => ?_
  refine V.ret (V.then_r ?_)
  refine V.r1 h41 (.bool false) ?_
  exact ⟨congrArg (fun b => Ending.returned (Value.bool b)) (bP_no fun hq => by (obtain ⟨q1, q2, q3, q4, q5⟩ := hq; first | exact absurd q1 (by assumption) | exact absurd q2 (by assumption) | exact absurd (bP_yes q3).symm (by assumption) | exact absurd (bP_yes q4).symm (by assumption) | exact absurd (bP_yes q5).symm (by assumption) | (subst q3; omega) | (subst q5; omega) | (have hq := bP_yes q4; have hq2 := hF; rw [← hq] at hq2; simp at hq2; done))), hF_20⟩
 ·
  have h42 := h34.kf 12 hg35
  refine V.run h42 [(1, .b hB6_27 1), (1, .b hB18 1), (0, .sne s s2)] 7 13 18 [(19, .bool (decide (¬ s = s2)))] fun a h43 => ?_
  by_cases hg44 : ¬ s = s2
  ·
   have h45 := h43.kt 19 hg44
   refine V.re h45 [] 20 43 [(44, .bool true)] fun a h46 => k33 _ _ ?_
   have h47 := h46.only [(2, .pointer (some ⟨b4, 0, none⟩)), (3, .pointer (some ⟨b16, 0, none⟩)), (44, .bool true)]
   refine V.ct h47 ?_
   refine V.sr h47 [] 1 0 [(4, .bool false)] fun a h50 => ?_
   refine V.ret (V.then_r ?_)
   refine V.r1 h50 (.bool false) ?_
   exact ⟨congrArg (fun b => Ending.returned (Value.bool b)) (bP_no fun hq => by (obtain ⟨q1, q2, q3, q4, q5⟩ := hq; first | exact absurd q1 (by assumption) | exact absurd q2 (by assumption) | exact absurd (bP_yes q3).symm (by assumption) | exact absurd (bP_yes q4).symm (by assumption) | exact absurd (bP_yes q5).symm (by assumption) | (subst q3; omega) | (subst q5; omega) | (have hq := bP_yes q4; have hq2 := hF; rw [← hq] at hq2; simp at hq2; done))), hF_20⟩
  ·
   have h51 := h43.kf 19 hg44
   refine V.run h51 [(1, .b hB6_27 2), (2, .b hB18 2), (1, .ne ((l.length : Nat) : Int) ((l2.length : Nat) : Int))] 9 20 27 [(28, .bool (decide (¬ ((l.length : Nat) : Int) = ((l2.length : Nat) : Int))))] fun a h52 => ?_
   by_cases hg53 : ¬ ((l.length : Nat) : Int) = ((l2.length : Nat) : Int)
   ·
    have h54 := h52.kt 28 hg53
    refine V.re h54 [] 29 43 [(44, .bool true)] fun a h55 => k33 _ _ ?_
    have h56 := h55.only [(2, .pointer (some ⟨b4, 0, none⟩)), (3, .pointer (some ⟨b16, 0, none⟩)), (44, .bool true)]
    refine V.ct h56 ?_
    refine V.sr h56 [] 1 0 [(4, .bool false)] fun a h59 => ?_
    refine V.ret (V.then_r ?_)
    refine V.r1 h59 (.bool false) ?_
    exact ⟨congrArg (fun b => Ending.returned (Value.bool b)) (bP_no fun hq => by (obtain ⟨q1, q2, q3, q4, q5⟩ := hq; first | exact absurd q1 (by assumption) | exact absurd q2 (by assumption) | exact absurd (bP_yes q3).symm (by assumption) | exact absurd (bP_yes q4).symm (by assumption) | exact absurd (bP_yes q5).symm (by assumption) | (subst q3; omega) | (subst q5; omega) | (have hq := bP_yes q4; have hq2 := hF; rw [← hq] at hq2; simp at hq2; done))), hF_20⟩
   ·
    have h60 := h52.kf 28 hg53
    refine V.run h60 [(1, .b hB6_27 3), (1, .b hB18 3)] 4 29 31 [(30, .slice Az z.length cz), (32, .slice Az2 z2.length cz2)] fun a h61 => ?_
    refine V.clg h61 (Go.Proofs.enters_of Tryz.func61 (by kernel_rfl) rfl) (rsame_any w17 Az cz z hSz_22.old Az2 cz2 z2 hSz2_25.old) ?_
    rintro _ w63 ⟨rfl, hF62⟩
    refine ⟨_, rfl, fun a h64 => ?_⟩
    have hsw63 := hF62.size
    have hF_65 := hF_20.new hF62
    have hSl_66 := hSl_21.fr0 hF62
    have hSz_67 := hSz_22.fr0 hF62
    have hSh_68 := hSh_23.fr0 hF62
    have hSl2_69 := hSl2_24.fr0 hF62
    have hSz2_70 := hSz2_25.fr0 hF62
    have hSh2_71 := hSh2_26.fr0 hF62
    have hB6_72 := hB6_27.fr0 hF62
    have hB18_73 := hB18.fr0 hF62
    refine V.run h64 [] 3 34 35 [(36, .bool (!(bP (z = z2))))] fun a h74 => ?_
    by_cases hg75 : (!(bP (z = z2))) = true
    ·
     have h76 := h74.kbt 36 hg75
     refine V.re h76 [] 37 43 [(44, .bool true)] fun a h77 => k33 _ _ ?_
     have h78 := h77.only [(2, .pointer (some ⟨b4, 0, none⟩)), (3, .pointer (some ⟨b16, 0, none⟩)), (44, .bool true)]
     refine V.ct h78 ?_
     refine V.sr h78 [] 1 0 [(4, .bool false)] fun a h81 => ?_
     refine V.ret (V.then_r ?_)
     refine V.r1 h81 (.bool false) ?_
     exact ⟨congrArg (fun b => Ending.returned (Value.bool b)) (bP_no fun hq => by (obtain ⟨q1, q2, q3, q4, q5⟩ := hq; first | exact absurd q1 (by assumption) | exact absurd q2 (by assumption) | exact absurd (bP_yes q3).symm (by assumption) | exact absurd (bP_yes q4).symm (by assumption) | exact absurd (bP_yes q5).symm (by assumption) | (subst q3; omega) | (subst q5; omega) | (have hq := bP_yes q4; have hq2 := hg75; rw [← hq] at hq2; simp at hq2; done))), hF_65⟩
    ·
     have h82 := h74.kbf 36 hg75
     refine V.re h82 [(1, .b hB6_72 4), (2, .b hB18_73 4), (1, .ne ((h.length : Nat) : Int) ((h2.length : Nat) : Int))] 37 43 [(44, .bool (decide (¬ ((h.length : Nat) : Int) = ((h2.length : Nat) : Int))))] fun a h83 => k33 _ _ ?_
     have h84 := h83.only [(2, .pointer (some ⟨b4, 0, none⟩)), (3, .pointer (some ⟨b16, 0, none⟩)), (44, .bool (decide (¬ ((h.length : Nat) : Int) = ((h2.length : Nat) : Int))))]
     refine V.cp h84 (¬ ((h.length : Nat) : Int) = ((h2.length : Nat) : Int)) (fun ht85 => ?_) (fun ht85 => ?_)
     ·
      refine V.sr h84 [] 1 0 [(4, .bool false)] fun a h88 => ?_
      refine V.ret (V.then_r ?_)
      refine V.r1 h88 (.bool false) ?_
      exact ⟨congrArg (fun b => Ending.returned (Value.bool b)) (bP_no fun hq => by (obtain ⟨q1, q2, q3, q4, q5⟩ := hq; first | exact absurd q1 (by assumption) | exact absurd q2 (by assumption) | exact absurd (bP_yes q3).symm (by assumption) | exact absurd (bP_yes q4).symm (by assumption) | exact absurd (bP_yes q5).symm (by assumption) | (subst q3; omega) | (subst q5; omega) | (have hq := bP_yes q4; have hq2 := hg75; rw [← hq] at hq2; simp at hq2; done))), hF_65⟩
     ·
      refine V.skip ?_
      refine V.then_n (k31 _ _ ?_)
      refine V.seq fun K89 k90 => ?_
      refine V.sr h84 [] 1 0 [(5, .int .i64 0)] fun a h93 => ?_
      refine V.block ?_
      refine V.loop1 (fun (i : Nat) a_ w_ => En 81 [] a_ [(2, .pointer (some ⟨b4, 0, none⟩)), (3, .pointer (some ⟨b16, 0, none⟩)), (5, .int .i64 (i : Int))] ∧ Fr [] w w_ ∧ SlR Rp.str (fun k => k < w.heap.size) w_ (.slice Al l.length cl) l ∧ SlR scR (fun k => k < w.heap.size) w_ (.slice Az z.length cz) z ∧ SlR fdR (fun k => k < w.heap.size) w_ (.slice Ah h.length ch) h ∧ SlR Rp.str (fun k => k < w.heap.size) w_ (.slice Al2 l2.length cl2) l2 ∧ SlR scR (fun k => k < w.heap.size) w_ (.slice Az2 z2.length cz2) z2 ∧ SlR fdR (fun k => k < w.heap.size) w_ (.slice Ah2 h2.length ch2) h2 ∧ Blk w_ b4 [.int .i64 k, .string s, .slice Al l.length cl, .slice Az z.length cz, .slice Ah h.length ch] 46 ∧ Blk w_ b16 [.int .i64 k2, .string s2, .slice Al2 l2.length cl2, .slice Az2 z2.length cz2, .slice Ah2 h2.length ch2] 46 ∧ (i ≤ l.length) ∧ (AllG (gQ Rp.str l l2) i)) (fun (i : Nat) => l.length - i) 0 ?_ ?_
      ·
       refine ⟨(h93.eq 5 (v := (.int .i64 0)) (u := (.int .i64 (0 : Int))) (V.int_eq (by omega))).only _, hF_65, hSl_66, hSz_67, hSh_68, hSl2_69, hSz2_70, hSh2_71, hB6_72, hB18_73, (by omega), (AllG.zero _)⟩
      ·
       rintro i a94 w95 ⟨h96, hF_97, hSl_98, hSz_99, hSh_100, hSl2_101, hSz2_102, hSh2_103, hB6_104, hB18_105, hi, hG⟩
       have hfs106 := hF_97.size
       have hlt107 := hB6_104.lt
       have hlt108 := hB18_105.lt
       refine V.seq fun K109 k110 => ?_
       refine V.sr h96 [(2, .b hB6_104 2)] 45 48 [(49, .bool (decide ((i : Int) < ((l.length : Nat) : Int))))] fun a h113 => ?_
       refine V.cp h113 ((i : Int) < ((l.length : Nat) : Int)) (fun ht114 => ?_) (fun ht114 => ?_)
       ·
        refine V.skip ?_
        refine V.then_n (k110 _ _ ?_)
        refine V.seq fun K115 k116 => ?_
        refine V.block ?_
        refine V.seq fun K117 k118 => ?_
        refine V.pl [([0,1,2,3,4,5,6,7,8,9,10],none)] fun w119 hF120 hsw119 => ?_
        have hF_121 := hF_97.new hF120
        have hSl_122 := hSl_98.fr0 hF120
        have hSz_123 := hSz_99.fr0 hF120
        have hSh_124 := hSh_100.fr0 hF120
        have hSl2_125 := hSl2_101.fr0 hF120
        have hSz2_126 := hSz2_102.fr0 hF120
        have hSh2_127 := hSh2_103.fr0 hF120
        have hB6_128 := hB6_104.fr0 hF120
        have hB18_129 := hB18_105.fr0 hF120
        obtain ⟨g130, o131, hA132, hA132l, hA132z⟩ := hSl_122.addr (by omega)
        obtain ⟨cs133, hok134, hE135⟩ := hSl_122.els hA132 (i : Int) (by omega) (by omega)
        obtain rfl : cs133 = [.string (at_ Rp.str l (i : Int))] := hok134
        obtain ⟨g136, o137, hA138, hA138l, hA138z⟩ := hSl2_125.addr (by omega)
        obtain ⟨cs139, hok140, hE141⟩ := hSl2_125.els hA138 (i : Int) (by omega) (by omega)
        obtain rfl : cs139 = [.string (at_ Rp.str l2 (i : Int))] := hok140
        refine V.pz h113 [(1, .b hB6_128 2), (1, .ix g130 o131 l.length cl .i64 (i : Int) 1 hA132), (0, .l ⟨g130, o131 + (i : Int).toNat * 1, none⟩ (.string (at_ Rp.str l (i : Int))) (hE135.at 0 rfl)), (1, .b hB18_129 2), (1, .ix g136 o137 l2.length cl2 .i64 (i : Int) 1 hA138), (0, .l ⟨g136, o137 + (i : Int).toNat * 1, none⟩ (.string (at_ Rp.str l2 (i : Int))) (hE141.at 0 rfl)), (0, .sne (at_ Rp.str l (i : Int)) (at_ Rp.str l2 (i : Int)))] 52 61 [(62, .bool (decide (¬ (at_ Rp.str l (i : Int)) = (at_ Rp.str l2 (i : Int)))))] fun a h142 => k118 _ _ ?_
        refine V.cp h142 (¬ (at_ Rp.str l (i : Int)) = (at_ Rp.str l2 (i : Int))) (fun ht143 => ?_) (fun ht143 => ?_)
        ·
         refine V.sr h142 [] 1 0 [(4, .bool false)] fun a h146 => ?_
         refine V.ret (V.blk_r (V.then_r (V.then_r (V.blk_r (V.then_r ?_)))))
         refine V.r1 h146 (.bool false) ?_
         exact ⟨congrArg (fun b => Ending.returned (Value.bool b)) (bP_no fun hq => by (obtain ⟨q1, q2, q3, q4, q5⟩ := hq; first | (subst q3; have hq := ht143; simp at hq; done) | (subst q5; have hq := ht143; simp at hq; done))), hF_121⟩
        ·
         refine V.skip (V.blk_n ?_)
         refine V.then_n (k116 _ _ ?_)
         refine V.rr h142 [(1, .i ((i : Int) + 1))] 50 51 [(5, .int .i64 ((i : Int) + 1))] fun a h147 => ?_
         refine V.then_n ?_
         refine ⟨i + 1, by omega, ?_⟩
         refine ⟨(h147.eq 5 (v := (.int .i64 ((i : Int) + 1))) (u := (.int .i64 ((i + 1) : Int))) (V.int_eq (by omega))).only _, hF_121, hSl_122, hSz_123, hSh_124, hSl2_125, hSz2_126, hSh2_127, hB6_128, hB18_129, (by omega), (hG.step (by have hq := ht143; unfold gQ; first | exact hq | (simpa using hq) | (simp only [Decidable.not_not, Prod.ext_iff] at hq ⊢; exact hq)))⟩
       ·
        refine V.exit (V.then_e (V.then_e (V.blk_hit ?_)))
        refine V.then_n (k90 _ _ ?_)
        refine V.seq fun K148 k149 => ?_
        refine V.sr h113 [] 1 0 [(6, .int .i64 0)] fun a h152 => ?_
        refine V.block ?_
        refine V.loop1 (fun (i2 : Nat) a_ w_ => En 81 [] a_ [(2, .pointer (some ⟨b4, 0, none⟩)), (3, .pointer (some ⟨b16, 0, none⟩)), (6, .int .i64 (i2 : Int))] ∧ Fr [] w w_ ∧ SlR Rp.str (fun k => k < w.heap.size) w_ (.slice Al l.length cl) l ∧ SlR scR (fun k => k < w.heap.size) w_ (.slice Az z.length cz) z ∧ SlR fdR (fun k => k < w.heap.size) w_ (.slice Ah h.length ch) h ∧ SlR Rp.str (fun k => k < w.heap.size) w_ (.slice Al2 l2.length cl2) l2 ∧ SlR scR (fun k => k < w.heap.size) w_ (.slice Az2 z2.length cz2) z2 ∧ SlR fdR (fun k => k < w.heap.size) w_ (.slice Ah2 h2.length ch2) h2 ∧ Blk w_ b4 [.int .i64 k, .string s, .slice Al l.length cl, .slice Az z.length cz, .slice Ah h.length ch] 46 ∧ Blk w_ b16 [.int .i64 k2, .string s2, .slice Al2 l2.length cl2, .slice Az2 z2.length cz2, .slice Ah2 h2.length ch2] 46 ∧ (i2 ≤ h.length) ∧ (AllG (gQ fdR h h2) i2)) (fun (i2 : Nat) => h.length - i2) 0 ?_ ?_
        ·
         refine ⟨(h152.eq 6 (v := (.int .i64 0)) (u := (.int .i64 (0 : Int))) (V.int_eq (by omega))).only _, hF_97, hSl_98, hSz_99, hSh_100, hSl2_101, hSz2_102, hSh2_103, hB6_104, hB18_105, (by omega), (AllG.zero _)⟩
        ·
         rintro i2 a153 w154 ⟨h155, hF_156, hSl_157, hSz_158, hSh_159, hSl2_160, hSz2_161, hSh2_162, hB6_163, hB18_164, hi2, hG2⟩
         have hfs165 := hF_156.size
         have hlt166 := hB6_163.lt
         have hlt167 := hB18_164.lt
         refine V.seq fun K168 k169 => ?_
         refine V.sr h155 [(2, .b hB6_163 4)] 63 66 [(67, .bool (decide ((i2 : Int) < ((h.length : Nat) : Int))))] fun a h172 => ?_
         refine V.cp h172 ((i2 : Int) < ((h.length : Nat) : Int)) (fun ht173 => ?_) (fun ht173 => ?_)
         ·
          refine V.skip ?_
          refine V.then_n (k169 _ _ ?_)
          refine V.seq fun K174 k175 => ?_
          refine V.block ?_
          refine V.seq fun K176 k177 => ?_
          refine V.pl [([0,1,2,3,4,5,6,7,8,9],some (10,[])),([],none)] fun w178 hF179 hsw178 => ?_
          have hF_180 := hF_156.new hF179
          have hSl_181 := hSl_157.fr0 hF179
          have hSz_182 := hSz_158.fr0 hF179
          have hSh_183 := hSh_159.fr0 hF179
          have hSl2_184 := hSl2_160.fr0 hF179
          have hSz2_185 := hSz2_161.fr0 hF179
          have hSh2_186 := hSh2_162.fr0 hF179
          have hB6_187 := hB6_163.fr0 hF179
          have hB18_188 := hB18_164.fr0 hF179
          obtain ⟨g189, o190, hA191, hA191l, hA191z⟩ := hSh_183.addr (by omega)
          obtain ⟨cs192, hok193, hE194⟩ := hSh_183.els hA191 (i2 : Int) (by omega) (by omega)
          obtain rfl : cs192 = [.string (at_ fdR h (i2 : Int)).1, .string (at_ fdR h (i2 : Int)).2] := hok193
          obtain ⟨g195, o196, hA197, hA197l, hA197z⟩ := hSh2_186.addr (by omega)
          obtain ⟨cs198, hok199, hE200⟩ := hSh2_186.els hA197 (i2 : Int) (by omega) (by omega)
          obtain rfl : cs198 = [.string (at_ fdR h2 (i2 : Int)).1, .string (at_ fdR h2 (i2 : Int)).2] := hok199
          refine V.pe h172 [(1, .b hB6_187 4), (1, .ix g189 o190 h.length ch .i64 (i2 : Int) 2 hA191), (0, .ls ⟨g189, o190 + (i2 : Int).toNat * 2, none⟩ [.string ((at_ fdR h (i2 : Int)).1), .string ((at_ fdR h (i2 : Int)).2)] (hE194.cells 0 _ rfl)), (1, .b hB18_188 4), (1, .ix g195 o196 h2.length ch2 .i64 (i2 : Int) 2 hA197), (0, .ls ⟨g195, o196 + (i2 : Int).toNat * 2, none⟩ [.string ((at_ fdR h2 (i2 : Int)).1), .string ((at_ fdR h2 (i2 : Int)).2)] (hE200.cells 0 _ rfl))] 70 78 [(74, .agg #[.string ((at_ fdR h (i2 : Int)).1), .string ((at_ fdR h (i2 : Int)).2)]), (79, .agg #[.string ((at_ fdR h2 (i2 : Int)).1), .string ((at_ fdR h2 (i2 : Int)).2)])] fun a h201 => ?_
          refine V.go (V.neqSS ((at_ fdR h (i2 : Int)).1) ((at_ fdR h2 (i2 : Int)).1) ((at_ fdR h (i2 : Int)).2) ((at_ fdR h2 (i2 : Int)).2) h201.e h201.e (by kernel_rfl) ?_)
          refine V.pt h201 fun a h202 => ?_
          refine V.eh trivial ?_
          refine V.pz h202 [] 1 0 [] fun a h203 => k177 _ _ ?_
          refine V.cp h203 (¬ (((at_ fdR h (i2 : Int)).1) = ((at_ fdR h2 (i2 : Int)).1) ∧ ((at_ fdR h (i2 : Int)).2) = ((at_ fdR h2 (i2 : Int)).2))) (fun ht204 => ?_) (fun ht204 => ?_)
          ·
           refine V.sr h203 [] 1 0 [(4, .bool false)] fun a h207 => ?_
           refine V.ret (V.blk_r (V.then_r (V.then_r (V.blk_r (V.then_r ?_)))))
           refine V.r1 h207 (.bool false) ?_
           exact ⟨congrArg (fun b => Ending.returned (Value.bool b)) (bP_no fun hq => by (obtain ⟨q1, q2, q3, q4, q5⟩ := hq; first | (subst q3; have hq := ht204; simp at hq; done) | (subst q5; have hq := ht204; simp at hq; done))), hF_180⟩
          ·
           refine V.skip (V.blk_n ?_)
           refine V.then_n (k175 _ _ ?_)
           refine V.rr h203 [(1, .i ((i2 : Int) + 1))] 68 69 [(6, .int .i64 ((i2 : Int) + 1))] fun a h208 => ?_
           refine V.then_n ?_
           refine ⟨i2 + 1, by omega, ?_⟩
           refine ⟨(h208.eq 6 (v := (.int .i64 ((i2 : Int) + 1))) (u := (.int .i64 ((i2 + 1) : Int))) (V.int_eq (by omega))).only _, hF_180, hSl_181, hSz_182, hSh_183, hSl2_184, hSz2_185, hSh2_186, hB6_187, hB18_188, (by omega), (hG2.step (by have hq := ht204; unfold gQ; first | exact hq | (simpa using hq) | (simp only [Decidable.not_not, Prod.ext_iff] at hq ⊢; exact hq)))⟩
         ·
          refine V.exit (V.then_e (V.then_e (V.blk_hit ?_)))
          refine V.then_n (k149 _ _ ?_)
          refine V.sr h172 [] 1 0 [(4, .bool true)] fun a h211 => ?_
          refine V.ret ?_
          refine V.r1 h211 (.bool true) ?_
          exact ⟨congrArg (fun b => Ending.returned (Value.bool b)) (bP_yes ⟨by first | omega | assumption, by first | assumption | (exact Decidable.of_not_not (by assumption)), gQ_eq (R := Rp.str) (by omega) (hG.le (by omega)), bP_of (by have hq : ¬ ((!(bP (z = z2))) = true) := (by assumption); simpa using hq), gQ_eq (R := fdR) (by omega) (hG2.le (by omega))⟩), hF_156⟩
theorem enD_ext {x y : EnD} (h : x.key = y.key ∧ x.till = y.till ∧ sameV x.k x.s x.l x.z x.h y.k y.s y.l y.z y.h) : x = y := by
  obtain ⟨h1, h2, h3, h4, h5, h6, h7⟩ := h
  cases x; cases y; simp only at h1 h2 h3 h4 h5 h6 h7; subst h1 h2 h3 h4 h5 h6 h7; rfl
theorem rsames_any (w : World) (Al : Option Addr) (cl : Nat) (l : List EnD) (hSl : SlR enR (fun k => k < w.heap.size) w (.slice Al l.length cl) l) (Ar : Option Addr) (cr : Nat) (r : List EnD) (hSr : SlR enR (fun k => k < w.heap.size) w (.slice Ar r.length cr) r) : Calls Tryz.prog 15 #[.slice Al l.length cl, .slice Ar r.length cr] w (fun e w' => e = .returned (.bool (bP (l = r))) ∧ Fr [] w w') := by
 have hF := Fr.refl [] w
 have hlen0 := hSl.len_le
 have hlen1 := hSr.len_le
 refine V.en 55 Tryz.func15 fun a h1 => ?_
 refine V.sr h1 [] 4 4 [] fun a h4 => ?_
 refine V.seq fun K5 k6 => ?_
 refine V.sr h4 [(4, .ne ((l.length : Nat) : Int) ((r.length : Nat) : Int))] 6 9 [(10, .bool (decide (¬ ((l.length : Nat) : Int) = ((r.length : Nat) : Int))))] fun a h9 => ?_
 refine V.cp h9 (¬ ((l.length : Nat) : Int) = ((r.length : Nat) : Int)) (fun ht10 => ?_) (fun ht10 => ?_)
 ·
  refine V.sr h9 [] 1 0 [(4, .bool false)] fun a h13 => ?_
  refine V.ret (V.then_r ?_)
  refine V.r1 h13 (.bool false) ?_
  exact ⟨congrArg (fun b => Ending.returned (Value.bool b)) (bP_no fun hq => by subst hq; omega), hF⟩
 ·
  refine V.skip ?_
  refine V.then_n (k6 _ _ ?_)
  refine V.seq fun K14 k15 => ?_
  refine V.sr h9 [] 1 0 [(5, .int .i64 0)] fun a h18 => ?_
  refine V.block ?_
  refine V.loop1 (fun (i : Nat) a_ w_ => En 55 [] a_ [(0, .slice Al l.length cl), (1, .slice Ar r.length cr), (5, .int .i64 (i : Int))] ∧ Fr [] w w_ ∧ SlR enR (fun k => k < w.heap.size) w_ (.slice Al l.length cl) l ∧ SlR enR (fun k => k < w.heap.size) w_ (.slice Ar r.length cr) r ∧ (i ≤ l.length) ∧ (AllG (gQ enR l r) i)) (fun (i : Nat) => l.length - i) 0 ?_ ?_
  ·
   refine ⟨(h18.eq 5 (v := (.int .i64 0)) (u := (.int .i64 (0 : Int))) (V.int_eq (by omega))).only _, hF, hSl, hSr, (by omega), (AllG.zero _)⟩
  ·
   rintro i a19 w20 ⟨h21, hF_22, hSl_23, hSr_24, hi, hG⟩
   have hfs25 := hF_22.size
   refine V.seq fun K26 k27 => ?_
   refine V.sr h21 [] 11 13 [(14, .bool (decide ((i : Int) < ((l.length : Nat) : Int))))] fun a h30 => ?_
   refine V.cp h30 ((i : Int) < ((l.length : Nat) : Int)) (fun ht31 => ?_) (fun ht31 => ?_)
   ·
    refine V.skip ?_
    refine V.then_n (k27 _ _ ?_)
    refine V.seq fun K32 k33 => ?_
    refine V.block ?_
    refine V.seq fun K34 k35 => ?_
    refine V.pl [([0,1,2,3,4,5,6,7,8,9,10,11,12,13,14,15,16,17,18,19,20,21,22,23,24,25,26,27,28,29,30,31,32,33,34],some (35,[])),([36,37],none)] fun w36 hF37 hsw36 => ?_
    have hF_38 := hF_22.new hF37
    have hSl_39 := hSl_23.fr0 hF37
    have hSr_40 := hSr_24.fr0 hF37
    obtain ⟨g41, o42, hA43, hA43l, hA43z⟩ := hSl_39.addr (by omega)
    obtain ⟨cs44, hok45, hE46⟩ := hSl_39.els hA43 (i : Int) (by omega) (by omega)
    obtain ⟨Al47, cl48, Az49, cz50, Ah51, ch52, rfl, hS53, hS54, hS55⟩ := en_open hok45
    obtain ⟨g56, o57, hA58, hA58l, hA58z⟩ := hSr_40.addr (by omega)
    obtain ⟨cs59, hok60, hE61⟩ := hSr_40.els hA58 (i : Int) (by omega) (by omega)
    obtain ⟨Al62, cl63, Az64, cz65, Ah66, ch67, rfl, hS68, hS69, hS70⟩ := en_open hok60
    refine V.pe0 ?_
    refine V.run h30 [(2, .ix g41 o42 l.length cl .i64 (i : Int) 7 hA43), (1, .l ⟨g41, o42 + (i : Int).toNat * 7, none⟩ (.string ((at_ enR l (i : Int)).key)) (hE46.at 0 rfl)), (2, .ix g56 o57 r.length cr .i64 (i : Int) 7 hA58), (1, .l ⟨g56, o57 + (i : Int).toNat * 7, none⟩ (.string ((at_ enR r (i : Int)).key)) (hE61.at 0 rfl)), (0, .sne ((at_ enR l (i : Int)).key) ((at_ enR r (i : Int)).key))] 12 17 27 [(21, .string ((at_ enR l (i : Int)).key)), (26, .string ((at_ enR r (i : Int)).key)), (28, .bool (decide (¬ ((at_ enR l (i : Int)).key) = ((at_ enR r (i : Int)).key))))] fun a h71 => ?_
    by_cases hg72 : ¬ ((at_ enR l (i : Int)).key) = ((at_ enR r (i : Int)).key)
    ·
     have h73 := h71.kt 28 hg72
     refine V.se h73 [] 29 50 [(33, undef), (38, undef), (41, .bool true), (46, undef), (51, undef)] fun a h74 => ?_
     refine V.run h74 [] 1 1 0 [(52, undef)] fun a h75 => ?_
     refine V.eh trivial ?_
     refine V.pz h75 [] 53 53 [(54, .bool true)] fun a h76 => k35 _ _ ?_
     have h77 := h76.only [(0, .slice Al l.length cl), (1, .slice Ar r.length cr), (5, .int .i64 (i : Int)), (54, .bool true)]
     refine V.ct h77 ?_
     refine V.sr h77 [] 1 0 [(4, .bool false)] fun a h80 => ?_
     refine V.ret (V.blk_r (V.then_r (V.then_r (V.blk_r (V.then_r ?_)))))
     refine V.r1 h80 (.bool false) ?_
     exact ⟨congrArg (fun b => Ending.returned (Value.bool b)) (bP_no fun hq => by subst hq; have hq := hF; first | omega | exact absurd rfl (by assumption) | (rw [← bP_yes (by first | exact ⟨rfl, rfl, rfl, rfl, rfl⟩ | exact ⟨rfl, rfl, rfl, rfl, rfl, rfl, rfl⟩)] at hq; simp at hq; done)), hF_38⟩
    ·
     have h81 := h71.kf 28 hg72
     refine V.run h81 [(2, .ix g41 o42 l.length cl .i64 (i : Int) 7 hA43), (1, .l ⟨g41, (o42 + (i : Int).toNat * 7) + 6, none⟩ (.int .i64 ((at_ enR l (i : Int)).till)) (hE46.at 6 rfl)), (2, .ix g56 o57 r.length cr .i64 (i : Int) 7 hA58), (1, .l ⟨g56, (o57 + (i : Int).toNat * 7) + 6, none⟩ (.int .i64 ((at_ enR r (i : Int)).till)) (hE61.at 6 rfl)), (0, .ne ((at_ enR l (i : Int)).till) ((at_ enR r (i : Int)).till))] 13 29 40 [(33, .int .i64 ((at_ enR l (i : Int)).till)), (38, .int .i64 ((at_ enR r (i : Int)).till)), (41, .bool (decide (¬ ((at_ enR l (i : Int)).till) = ((at_ enR r (i : Int)).till))))] fun a h82 => ?_
     by_cases hg83 : ¬ ((at_ enR l (i : Int)).till) = ((at_ enR r (i : Int)).till)
     ·
      have h84 := h82.kt 41 hg83
      refine V.se h84 [] 42 50 [(46, undef), (51, undef)] fun a h85 => ?_
      refine V.run h85 [] 1 1 0 [(52, undef)] fun a h86 => ?_
      refine V.eh trivial ?_
      refine V.pz h86 [] 53 53 [(54, .bool true)] fun a h87 => k35 _ _ ?_
      have h88 := h87.only [(0, .slice Al l.length cl), (1, .slice Ar r.length cr), (5, .int .i64 (i : Int)), (54, .bool true)]
      refine V.ct h88 ?_
      refine V.sr h88 [] 1 0 [(4, .bool false)] fun a h91 => ?_
      refine V.ret (V.blk_r (V.then_r (V.then_r (V.blk_r (V.then_r ?_)))))
      refine V.r1 h91 (.bool false) ?_
      exact ⟨congrArg (fun b => Ending.returned (Value.bool b)) (bP_no fun hq => by subst hq; have hq := hF; first | omega | exact absurd rfl (by assumption) | (rw [← bP_yes (by first | exact ⟨rfl, rfl, rfl, rfl, rfl⟩ | exact ⟨rfl, rfl, rfl, rfl, rfl, rfl, rfl⟩)] at hq; simp at hq; done)), hF_38⟩
     ·
      have h92 := h82.kf 41 hg83
      refine V.se h92 [(2, .ix g41 o42 l.length cl .i64 (i : Int) 7 hA43), (1, .ls ⟨g41, (o42 + (i : Int).toNat * 7) + 1, none⟩ [.int .i64 ((at_ enR l (i : Int)).k), .string ((at_ enR l (i : Int)).s), .slice Al47 ((at_ enR l (i : Int)).l.length) cl48, .slice Az49 ((at_ enR l (i : Int)).z.length) cz50, .slice Ah51 ((at_ enR l (i : Int)).h.length) ch52] (hE46.cells 1 _ rfl)), (2, .ix g56 o57 r.length cr .i64 (i : Int) 7 hA58), (1, .ls ⟨g56, (o57 + (i : Int).toNat * 7) + 1, none⟩ [.int .i64 ((at_ enR r (i : Int)).k), .string ((at_ enR r (i : Int)).s), .slice Al62 ((at_ enR r (i : Int)).l.length) cl63, .slice Az64 ((at_ enR r (i : Int)).z.length) cz65, .slice Ah66 ((at_ enR r (i : Int)).h.length) ch67] (hE61.cells 1 _ rfl))] 42 50 [(46, .agg #[.int .i64 ((at_ enR l (i : Int)).k), .string ((at_ enR l (i : Int)).s), .slice Al47 ((at_ enR l (i : Int)).l.length) cl48, .slice Az49 ((at_ enR l (i : Int)).z.length) cz50, .slice Ah51 ((at_ enR l (i : Int)).h.length) ch52]), (51, .agg #[.int .i64 ((at_ enR r (i : Int)).k), .string ((at_ enR r (i : Int)).s), .slice Al62 ((at_ enR r (i : Int)).l.length) cl63, .slice Az64 ((at_ enR r (i : Int)).z.length) cz65, .slice Ah66 ((at_ enR r (i : Int)).h.length) ch67])] fun a h93 => ?_
      refine V.clg h93 (Go.Proofs.enters_of Tryz.func24 (by kernel_rfl) rfl) (rsamevalue_any w36 ((at_ enR l (i : Int)).k) ((at_ enR l (i : Int)).s) Al47 cl48 ((at_ enR l (i : Int)).l) hS53.old Az49 cz50 ((at_ enR l (i : Int)).z) hS54.old Ah51 ch52 ((at_ enR l (i : Int)).h) hS55.old ((at_ enR r (i : Int)).k) ((at_ enR r (i : Int)).s) Al62 cl63 ((at_ enR r (i : Int)).l) hS68.old Az64 cz65 ((at_ enR r (i : Int)).z) hS69.old Ah66 ch67 ((at_ enR r (i : Int)).h) hS70.old) ?_
      rintro _ w95 ⟨rfl, hF94⟩
      refine ⟨_, rfl, fun a h96 => ?_⟩
      have hsw95 := hF94.size
      have hF_97 := hF_38.new hF94
      have hSl_98 := hSl_39.fr0 hF94
      have hSr_99 := hSr_40.fr0 hF94
      refine V.eh trivial ?_
      refine V.pz h96 [] 53 53 [(54, .bool (!(bP (sameV ((at_ enR l (i : Int)).k) ((at_ enR l (i : Int)).s) ((at_ enR l (i : Int)).l) ((at_ enR l (i : Int)).z) ((at_ enR l (i : Int)).h) ((at_ enR r (i : Int)).k) ((at_ enR r (i : Int)).s) ((at_ enR r (i : Int)).l) ((at_ enR r (i : Int)).z) ((at_ enR r (i : Int)).h)))))] fun a h108 => k35 _ _ ?_
      have h109 := h108.only [(0, .slice Al l.length cl), (1, .slice Ar r.length cr), (5, .int .i64 (i : Int)), (54, .bool (!(bP (sameV ((at_ enR l (i : Int)).k) ((at_ enR l (i : Int)).s) ((at_ enR l (i : Int)).l) ((at_ enR l (i : Int)).z) ((at_ enR l (i : Int)).h) ((at_ enR r (i : Int)).k) ((at_ enR r (i : Int)).s) ((at_ enR r (i : Int)).l) ((at_ enR r (i : Int)).z) ((at_ enR r (i : Int)).h)))))]
      refine V.cb h109 (!(bP (sameV ((at_ enR l (i : Int)).k) ((at_ enR l (i : Int)).s) ((at_ enR l (i : Int)).l) ((at_ enR l (i : Int)).z) ((at_ enR l (i : Int)).h) ((at_ enR r (i : Int)).k) ((at_ enR r (i : Int)).s) ((at_ enR r (i : Int)).l) ((at_ enR r (i : Int)).z) ((at_ enR r (i : Int)).h)))) (fun ht110 => ?_) (fun ht110 => ?_)
      ·
       refine V.sr h109 [] 1 0 [(4, .bool false)] fun a h113 => ?_
       refine V.ret (V.blk_r (V.then_r (V.then_r (V.blk_r (V.then_r ?_)))))
       refine V.r1 h113 (.bool false) ?_
       exact ⟨congrArg (fun b => Ending.returned (Value.bool b)) (bP_no fun hq => by subst hq; have hq := ht110; first | omega | exact absurd rfl (by assumption) | (rw [← bP_yes (by first | exact ⟨rfl, rfl, rfl, rfl, rfl⟩ | exact ⟨rfl, rfl, rfl, rfl, rfl, rfl, rfl⟩)] at hq; simp at hq; done)), hF_97⟩
      ·
       refine V.skip (V.blk_n ?_)
       refine V.then_n (k33 _ _ ?_)
       refine V.rr h109 [(1, .i ((i : Int) + 1))] 15 16 [(5, .int .i64 ((i : Int) + 1))] fun a h114 => ?_
       refine V.then_n ?_
       refine ⟨i + 1, by omega, ?_⟩
       refine ⟨(h114.eq 5 (v := (.int .i64 ((i : Int) + 1))) (u := (.int .i64 ((i + 1) : Int))) (V.int_eq (by omega))).only _, hF_97, hSl_98, hSr_99, (by omega), (hG.step (by unfold gQ; exact enD_ext ⟨by first | assumption | (exact Decidable.of_not_not (by assumption)), by omega, bP_of (by have hq := ht110; simpa using hq)⟩))⟩
   ·
    refine V.exit (V.then_e (V.then_e (V.blk_hit ?_)))
    refine V.then_n (k15 _ _ ?_)
    refine V.sr h30 [] 1 0 [(4, .bool true)] fun a h117 => ?_
    refine V.ret ?_
    refine V.r1 h117 (.bool true) ?_
    exact ⟨congrArg (fun b => Ending.returned (Value.bool b)) (bP_yes (gQ_eq (R := enR) (by omega) (hG.le (by omega)))), hF_22⟩
end Go.Proofs.YtdebkbfnngkdlaaGreatDoor
end
section
namespace Go.Proofs.YtdebkbfnngkdlaaGreatDoor
open Go.Shelf
def Tryz.lays166_ren : Go.Shelf.Ren := ⟨fun | 166 => 35 | 240 => 79 | 276 => 125 | n => n, fun | 37 => 71 | 72 => 73 | 78 => 79 | 80 => 81 | 164 => 156 | n => n, fun | n => n⟩
theorem Tryz.lays166 : Go.Proofs.Lays.n166 Tryz.prog Tryz.lays166_ren := {
  mixed := by kernel_rfl
  f166 := Tryz.func35.trans (congrArg some (by kernel_rfl))
  f240 := Tryz.func79.trans (congrArg some (by kernel_rfl))
  f276 := Tryz.func125.trans (congrArg some (by kernel_rfl))
  t0 := Tryz.underlying0
  a0 := Tryz.isAgg0
  z0 := Tryz.sizeOf0
  v0 := Tryz.zeroValue0
  t3 := Tryz.underlying3
  a3 := Tryz.isAgg3
  z3 := Tryz.sizeOf3
  v3 := Tryz.zeroValue3
  t4 := Tryz.underlying4
  a4 := Tryz.isAgg4
  z4 := Tryz.sizeOf4
  v4 := Tryz.zeroValue4
  t9 := Tryz.underlying9
  a9 := Tryz.isAgg9
  z9 := Tryz.sizeOf9
  v9 := Tryz.zeroValue9
  t20 := Tryz.underlying20
  a20 := Tryz.isAgg20
  z20 := Tryz.sizeOf20
  v20 := Tryz.zeroValue20
  t37 := Tryz.underlying71
  a37 := Tryz.isAgg71
  z37 := Tryz.sizeOf71
  v37 := Tryz.zeroValue71
  t70 := Tryz.underlying70
  a70 := Tryz.isAgg70
  z70 := Tryz.sizeOf70
  v70 := Tryz.zeroValue70
  t72 := Tryz.underlying73
  a72 := Tryz.isAgg73
  z72 := Tryz.sizeOf73
  v72 := Tryz.zeroValue73
  t75 := Tryz.underlying75
  a75 := Tryz.isAgg75
  z75 := Tryz.sizeOf75
  v75 := Tryz.zeroValue75
  t164 := Tryz.underlying156
  a164 := Tryz.isAgg156
  z164 := Tryz.sizeOf156
  v164 := Tryz.zeroValue156 }
theorem Tryz.Builder_Extra_166 : Builder.Extra Tryz.prog Tryz.lays166_ren := {
  sizeBuilder := by kernel_rfl
  liesBuilder := by kernel_rfl
  t5 := Tryz.underlying5
  a5 := Tryz.isAgg5
  z5 := Tryz.sizeOf5
  v5 := Tryz.zeroValue5
  infoByte := by kernel_rfl
  cellsByte := by kernel_rfl
  sizeByte := by kernel_rfl
  neB5 := by decide }
def Tryz.lays167_ren : Go.Shelf.Ren := ⟨fun | 167 => 37 | 240 => 79 | 276 => 125 | n => n, fun | 37 => 71 | 72 => 73 | 78 => 79 | 80 => 81 | 101 => 95 | 164 => 156 | n => n, fun | n => n⟩
theorem Tryz.lays167 : Go.Proofs.Lays.n167 Tryz.prog Tryz.lays167_ren := {
  mixed := by kernel_rfl
  f167 := Tryz.func37.trans (congrArg some (by kernel_rfl))
  f240 := Tryz.func79.trans (congrArg some (by kernel_rfl))
  f276 := Tryz.func125.trans (congrArg some (by kernel_rfl))
  t0 := Tryz.underlying0
  a0 := Tryz.isAgg0
  z0 := Tryz.sizeOf0
  v0 := Tryz.zeroValue0
  t4 := Tryz.underlying4
  a4 := Tryz.isAgg4
  z4 := Tryz.sizeOf4
  v4 := Tryz.zeroValue4
  t5 := Tryz.underlying5
  a5 := Tryz.isAgg5
  z5 := Tryz.sizeOf5
  v5 := Tryz.zeroValue5
  t9 := Tryz.underlying9
  a9 := Tryz.isAgg9
  z9 := Tryz.sizeOf9
  v9 := Tryz.zeroValue9
  t20 := Tryz.underlying20
  a20 := Tryz.isAgg20
  z20 := Tryz.sizeOf20
  v20 := Tryz.zeroValue20
  t37 := Tryz.underlying71
  a37 := Tryz.isAgg71
  z37 := Tryz.sizeOf71
  v37 := Tryz.zeroValue71
  t70 := Tryz.underlying70
  a70 := Tryz.isAgg70
  z70 := Tryz.sizeOf70
  v70 := Tryz.zeroValue70
  t72 := Tryz.underlying73
  a72 := Tryz.isAgg73
  z72 := Tryz.sizeOf73
  v72 := Tryz.zeroValue73
  t75 := Tryz.underlying75
  a75 := Tryz.isAgg75
  z75 := Tryz.sizeOf75
  v75 := Tryz.zeroValue75
  t164 := Tryz.underlying156
  a164 := Tryz.isAgg156
  z164 := Tryz.sizeOf156
  v164 := Tryz.zeroValue156 }
theorem Tryz.Builder_Extra_167 : Builder.Extra Tryz.prog Tryz.lays167_ren := {
  sizeBuilder := by kernel_rfl
  liesBuilder := by kernel_rfl
  t5 := Tryz.underlying5
  a5 := Tryz.isAgg5
  z5 := Tryz.sizeOf5
  v5 := Tryz.zeroValue5
  infoByte := by kernel_rfl
  cellsByte := by kernel_rfl
  sizeByte := by kernel_rfl
  neB5 := by decide }
open Go.RowKit in
theorem Tryz.Builder_WriteByte (B b : Nat) (bs : List Value) (c : Int) (w : World) (h : Lib.IsBuilder 73 5 B b bs w) (hlen : bs.length + 1 ≤ 140737488355328) (hBw : B ≤ w.heap.size) :
    Calls Tryz.prog 37 #[.pointer (some ⟨b, 0, none⟩), .int .u8 c] w fun e w' => e = .returned .nilIface ∧ (Lib.BuilderAt 73 5 B b (.pointer (some ⟨b, 0, none⟩)) (bs ++ [.int .u8 c]) w' ∧ Below B w w') := Any.Builder_WriteByte Tryz.lays167 Tryz.Builder_Extra_167 B b bs c w h hlen hBw
open Go.RowKit in
theorem Tryz.Builder_WriteString (B b : Nat) (bs : List Value) (s : ByteArray) (w : World) (h : Lib.IsBuilder 73 5 B b bs w) (hlen : bs.length + s.size ≤ 140737488355328) (hBw : B ≤ w.heap.size) :
    Calls Tryz.prog 35 #[.pointer (some ⟨b, 0, none⟩), .string s] w fun e w' => e = .returned (.tuple #[.int .i64 s.size, .nilIface]) ∧ (Lib.BuilderAt 73 5 B b (.pointer (some ⟨b, 0, none⟩)) (bs ++ Lib.strCells s) w' ∧ Below B w w') := Any.Builder_WriteString Tryz.lays166 Tryz.Builder_Extra_166 B b bs s w h hlen hBw
def Tryz.lays170_ren : Go.Shelf.Ren := ⟨fun | 170 => 38 | n => n, fun | 70 => 70 | 3 => 3 | 0 => 0 | 72 => 73 | 37 => 71 | 5 => 5 | n => n, fun | n => n⟩
theorem Tryz.lays170 : Go.Proofs.Lays.n170 Tryz.prog Tryz.lays170_ren := {
  mixed := by kernel_rfl
  f170 := Tryz.func38.trans (congrArg some (by kernel_rfl))
  t0 := Tryz.underlying0
  a0 := Tryz.isAgg0
  z0 := Tryz.sizeOf0
  v0 := Tryz.zeroValue0
  t3 := Tryz.underlying3
  a3 := Tryz.isAgg3
  z3 := Tryz.sizeOf3
  v3 := Tryz.zeroValue3
  t37 := Tryz.underlying71
  a37 := Tryz.isAgg71
  z37 := Tryz.sizeOf71
  v37 := Tryz.zeroValue71
  t70 := Tryz.underlying70
  a70 := Tryz.isAgg70
  z70 := Tryz.sizeOf70
  v70 := Tryz.zeroValue70
  t72 := Tryz.underlying73
  a72 := Tryz.isAgg73
  z72 := Tryz.sizeOf73
  v72 := Tryz.zeroValue73 }
open Go.RowKit in
theorem Tryz.Builder_Len (B b : Nat) (bs : List Value) (w : World) (h : Lib.IsBuilder 73 5 B b bs w) :
    Calls Tryz.prog 38 #[.pointer (some ⟨b, 0, none⟩)] w fun e w' => e = .returned (.int .i64 bs.length) ∧ w' = w := Any.Builder_Len Tryz.lays170 B b bs w h
def Tryz.lays169_ren : Go.Shelf.Ren := ⟨fun | 169 => 39 | n => n, fun | 70 => 70 | 9 => 9 | 0 => 0 | 72 => 73 | 37 => 71 | 127 => 120 | 3 => 3 | 5 => 5 | n => n, fun | n => n⟩
theorem Tryz.lays169 : Go.Proofs.Lays.n169 Tryz.prog Tryz.lays169_ren := {
  mixed := by kernel_rfl
  f169 := Tryz.func39.trans (congrArg some (by kernel_rfl))
  t0 := Tryz.underlying0
  a0 := Tryz.isAgg0
  z0 := Tryz.sizeOf0
  v0 := Tryz.zeroValue0
  t3 := Tryz.underlying3
  a3 := Tryz.isAgg3
  z3 := Tryz.sizeOf3
  v3 := Tryz.zeroValue3
  t9 := Tryz.underlying9
  a9 := Tryz.isAgg9
  z9 := Tryz.sizeOf9
  v9 := Tryz.zeroValue9
  t37 := Tryz.underlying71
  a37 := Tryz.isAgg71
  z37 := Tryz.sizeOf71
  v37 := Tryz.zeroValue71
  t70 := Tryz.underlying70
  a70 := Tryz.isAgg70
  z70 := Tryz.sizeOf70
  v70 := Tryz.zeroValue70
  t72 := Tryz.underlying73
  a72 := Tryz.isAgg73
  z72 := Tryz.sizeOf73
  v72 := Tryz.zeroValue73
  t127 := Tryz.underlying120
  a127 := Tryz.isAgg120
  z127 := Tryz.sizeOf120
  v127 := Tryz.zeroValue120 }
theorem Tryz.Builder_Extra_169 : Builder.Extra Tryz.prog Tryz.lays169_ren := {
  sizeBuilder := by kernel_rfl
  liesBuilder := by kernel_rfl
  t5 := Tryz.underlying5
  a5 := Tryz.isAgg5
  z5 := Tryz.sizeOf5
  v5 := Tryz.zeroValue5
  infoByte := by kernel_rfl
  cellsByte := by kernel_rfl
  sizeByte := by kernel_rfl
  neB5 := by decide }
open Go.RowKit in
theorem Tryz.Builder_String_any (B b : Nat) (l : List UInt8) (w : World) (h : Lib.IsBuilder 73 5 B b (Lib.byteCells l) w) (hBw : B ≤ w.heap.size) :
    Calls Tryz.prog 39 #[.pointer (some ⟨b, 0, none⟩)] w fun e w' => e = .returned (.string ⟨l.toArray⟩) ∧ Below B w w' := Any.Builder_String_any Tryz.lays169 Tryz.Builder_Extra_169 B b l w h hBw
def Tryz.lays156_ren : Go.Shelf.Ren := ⟨fun | 156 => 82 | 165 => 127 | 166 => 35 | 169 => 39 | 240 => 79 | 241 => 178 | 276 => 125 | 277 => 209 | n => n, fun | 31 => 42 | 9 => 9 | 3 => 3 | 4 => 4 | 0 => 0 | 20 => 20 | 72 => 73 | 76 => 76 | 70 => 70 | 37 => 71 | 75 => 75 | 127 => 120 | 164 => 156 | 5 => 5 | 80 => 81 | n => n, fun | n => n⟩
theorem Tryz.lays156 : Go.Proofs.Lays.n156 Tryz.prog Tryz.lays156_ren := {
  mixed := by kernel_rfl
  f156 := Tryz.func82.trans (congrArg some (by kernel_rfl))
  f165 := Tryz.func127.trans (congrArg some (by kernel_rfl))
  f166 := Tryz.func35.trans (congrArg some (by kernel_rfl))
  f169 := Tryz.func39.trans (congrArg some (by kernel_rfl))
  f240 := Tryz.func79.trans (congrArg some (by kernel_rfl))
  f241 := Tryz.func178.trans (congrArg some (by kernel_rfl))
  f276 := Tryz.func125.trans (congrArg some (by kernel_rfl))
  f277 := Tryz.func209.trans (congrArg some (by kernel_rfl))
  t0 := Tryz.underlying0
  a0 := Tryz.isAgg0
  z0 := Tryz.sizeOf0
  v0 := Tryz.zeroValue0
  t3 := Tryz.underlying3
  a3 := Tryz.isAgg3
  z3 := Tryz.sizeOf3
  v3 := Tryz.zeroValue3
  t4 := Tryz.underlying4
  a4 := Tryz.isAgg4
  z4 := Tryz.sizeOf4
  v4 := Tryz.zeroValue4
  t9 := Tryz.underlying9
  a9 := Tryz.isAgg9
  z9 := Tryz.sizeOf9
  v9 := Tryz.zeroValue9
  t20 := Tryz.underlying20
  a20 := Tryz.isAgg20
  z20 := Tryz.sizeOf20
  v20 := Tryz.zeroValue20
  t31 := Tryz.underlying42
  a31 := Tryz.isAgg42
  z31 := Tryz.sizeOf42
  v31 := Tryz.zeroValue42
  t37 := Tryz.underlying71
  a37 := Tryz.isAgg71
  z37 := Tryz.sizeOf71
  v37 := Tryz.zeroValue71
  t70 := Tryz.underlying70
  a70 := Tryz.isAgg70
  z70 := Tryz.sizeOf70
  v70 := Tryz.zeroValue70
  t72 := Tryz.underlying73
  a72 := Tryz.isAgg73
  z72 := Tryz.sizeOf73
  v72 := Tryz.zeroValue73
  t75 := Tryz.underlying75
  a75 := Tryz.isAgg75
  z75 := Tryz.sizeOf75
  v75 := Tryz.zeroValue75
  t76 := Tryz.underlying76
  a76 := Tryz.isAgg76
  z76 := Tryz.sizeOf76
  v76 := Tryz.zeroValue76
  t127 := Tryz.underlying120
  a127 := Tryz.isAgg120
  z127 := Tryz.sizeOf120
  v127 := Tryz.zeroValue120
  t164 := Tryz.underlying156
  a164 := Tryz.isAgg156
  z164 := Tryz.sizeOf156
  v164 := Tryz.zeroValue156 }
theorem Tryz.Builder_Extra_156 : Builder.Extra Tryz.prog Tryz.lays156_ren := {
  sizeBuilder := by kernel_rfl
  liesBuilder := by kernel_rfl
  t5 := Tryz.underlying5
  a5 := Tryz.isAgg5
  z5 := Tryz.sizeOf5
  v5 := Tryz.zeroValue5
  infoByte := by kernel_rfl
  cellsByte := by kernel_rfl
  sizeByte := by kernel_rfl
  neB5 := by decide }
open Go.RowKit in
theorem Tryz.strings_Join_none (a : Option Addr) (c : Nat) (sep : ByteArray) (w : World) :
    Calls Tryz.prog 82 #[.slice a 0 c, .string sep] w fun e w' => e = .returned (.string ⟨#[]⟩) ∧ w' = w := Any.strings_Join_none Tryz.lays156 Tryz.Builder_Extra_156 a c sep w
open Go.RowKit in
theorem Tryz.strings_Join (bk o c : Nat) (xs : List ByteArray) (sep : ByteArray) (w : World) (hcells : ∀ (j : Nat) x, xs[j]? = some x → w.cell? ⟨bk, o + j, none⟩ = some (.string x)) (hbk : bk < w.heap.size) (hN : xs.length ≤ 140737488355328) (hcap : xs.length ≤ c) (hlen : (Lib.join (xs.map (·.data.toList)) sep.data.toList).length ≤ 140737488355328) :
    Calls Tryz.prog 82 #[.slice (some ⟨bk, o, none⟩) xs.length c, .string sep] w fun e w' => e = .returned (.string ⟨(Lib.join (xs.map (·.data.toList)) sep.data.toList).toArray⟩) ∧ Below w.heap.size w w' := Any.strings_Join Tryz.lays156 Tryz.Builder_Extra_156 bk o c xs sep w hcells hbk hN hcap hlen
def Tryz.lays137_ren : Go.Shelf.Ren := ⟨fun | 137 => 130 | 217 => 179 | 266 => 210 | n => n, fun | 9 => 9 | 5 => 5 | 3 => 3 | n => n, fun | n => n⟩
theorem Tryz.lays137 : Go.Proofs.Lays.n137 Tryz.prog Tryz.lays137_ren := {
  mixed := by kernel_rfl
  f137 := Tryz.func130.trans (congrArg some (by kernel_rfl))
  f217 := Tryz.func179.trans (congrArg some (by kernel_rfl))
  f266 := Tryz.func210.trans (congrArg some (by kernel_rfl))
  t3 := Tryz.underlying3
  a3 := Tryz.isAgg3
  z3 := Tryz.sizeOf3
  v3 := Tryz.zeroValue3
  t5 := Tryz.underlying5
  a5 := Tryz.isAgg5
  z5 := Tryz.sizeOf5
  v5 := Tryz.zeroValue5
  t9 := Tryz.underlying9
  a9 := Tryz.isAgg9
  z9 := Tryz.sizeOf9
  v9 := Tryz.zeroValue9 }
open Go.RowKit in
theorem Tryz.strings_IndexByte (s : ByteArray) (c : Int) (w : World) :
    Calls Tryz.prog 130 #[.string s, .int .u8 c] w fun e w' => e = .returned (.int .i64 (Lib.indexByte s.data.toList c.toNat.toUInt8)) ∧ w' = w := Any.strings_IndexByte Tryz.lays137 s c w
def Tryz.laysM173_ren : Go.Shelf.Ren := ⟨fun | 173 => 126 | 246 => 177 | 283 => 205 | 284 => 206 | 285 => 207 | 286 => 208 | 129 => 151 | 317 => 224 | 318 => 225 | 319 => 226 | 320 => 227 | 337 => 234 | 338 => 235 | n => n, fun | 2 => 2 | 3 => 3 | 9 => 9 | 4 => 4 | 171 => 216 | 0 => 0 | 53 => 29 | 37 => 71 | 5 => 5 | 173 => 218 | 212 => 239 | 51 => 179 | 20 => 20 | 213 => 240 | 46 => 146 | 232 => 251 | 233 => 252 | n => n, fun | 17 => 1 | 18 => 6 | 19 => 7 | n => n⟩
theorem Tryz.laysM173 : Go.Proofs.LaysM.n173 Tryz.prog Tryz.laysM173_ren := {
  mixed := by kernel_rfl
  f129 := Tryz.func151.trans (congrArg some (by kernel_rfl))
  f173 := Tryz.func126.trans (congrArg some (by kernel_rfl))
  f246 := Tryz.func177.trans (congrArg some (by kernel_rfl))
  f283 := Tryz.func205.trans (congrArg some (by kernel_rfl))
  f284 := Tryz.func206.trans (congrArg some (by kernel_rfl))
  f285 := Tryz.func207.trans (congrArg some (by kernel_rfl))
  f286 := Tryz.func208.trans (congrArg some (by kernel_rfl))
  f317 := Tryz.func224.trans (congrArg some (by kernel_rfl))
  f318 := Tryz.func225.trans (congrArg some (by kernel_rfl))
  f319 := Tryz.func226.trans (congrArg some (by kernel_rfl))
  f320 := Tryz.func227.trans (congrArg some (by kernel_rfl))
  f337 := Tryz.func234.trans (congrArg some (by kernel_rfl))
  f338 := Tryz.func235.trans (congrArg some (by kernel_rfl))
  t0 := Tryz.underlying0
  a0 := Tryz.isAgg0
  z0 := Tryz.sizeOf0
  v0 := Tryz.zeroValue0
  t2 := Tryz.underlying2
  a2 := Tryz.isAgg2
  z2 := Tryz.sizeOf2
  v2 := Tryz.zeroValue2
  t3 := Tryz.underlying3
  a3 := Tryz.isAgg3
  z3 := Tryz.sizeOf3
  v3 := Tryz.zeroValue3
  t4 := Tryz.underlying4
  a4 := Tryz.isAgg4
  z4 := Tryz.sizeOf4
  v4 := Tryz.zeroValue4
  t5 := Tryz.underlying5
  a5 := Tryz.isAgg5
  z5 := Tryz.sizeOf5
  v5 := Tryz.zeroValue5
  t9 := Tryz.underlying9
  a9 := Tryz.isAgg9
  z9 := Tryz.sizeOf9
  v9 := Tryz.zeroValue9
  t20 := Tryz.underlying20
  a20 := Tryz.isAgg20
  z20 := Tryz.sizeOf20
  v20 := Tryz.zeroValue20
  t37 := Tryz.underlying71
  a37 := Tryz.isAgg71
  z37 := Tryz.sizeOf71
  v37 := Tryz.zeroValue71
  t46 := Tryz.underlying146
  a46 := Tryz.isAgg146
  z46 := Tryz.sizeOf146
  v46 := Tryz.zeroValue146
  t51 := Tryz.underlying179
  a51 := Tryz.isAgg179
  z51 := Tryz.sizeOf179
  v51 := Tryz.zeroValue179
  t53 := Tryz.underlying29
  a53 := Tryz.isAgg29
  z53 := Tryz.sizeOf29
  v53 := Tryz.zeroValue29
  t171 := Tryz.underlying216
  a171 := Tryz.isAgg216
  z171 := Tryz.sizeOf216
  v171 := Tryz.zeroValue216
  t173 := Tryz.underlying218
  a173 := Tryz.isAgg218
  z173 := Tryz.sizeOf218
  v173 := Tryz.zeroValue218
  t212 := Tryz.underlying239
  a212 := Tryz.isAgg239
  z212 := Tryz.sizeOf239
  v212 := Tryz.zeroValue239
  t213 := Tryz.underlying240
  a213 := Tryz.isAgg240
  z213 := Tryz.sizeOf240
  t232 := Tryz.underlying251
  a232 := Tryz.isAgg251
  z232 := Tryz.sizeOf251
  v232 := Tryz.zeroValue251
  t233 := Tryz.underlying252
  a233 := Tryz.isAgg252
  z233 := Tryz.sizeOf252
  v233 := Tryz.zeroValue252
  g17 := by kernel_rfl
  g18 := by kernel_rfl
  g19 := by kernel_rfl
  i0 := by kernel_rfl
  i2 := by kernel_rfl
  i3 := by kernel_rfl
  i4 := by kernel_rfl
  i5 := by kernel_rfl
  i9 := by kernel_rfl
  i20 := by kernel_rfl
  i37 := by kernel_rfl
  i46 := by kernel_rfl
  i51 := by kernel_rfl
  i53 := by kernel_rfl
  i171 := by kernel_rfl
  i173 := by kernel_rfl
  i212 := by kernel_rfl
  i232 := by kernel_rfl
  i233 := by kernel_rfl
  m17 := by kernel_rfl
  m18 := by kernel_rfl
  m19 := by kernel_rfl }
open Go.RowKit Go.Sort Go.Lib in
theorem Tryz.strconv_FormatInt_10 (n : Int) (h0 : -9223372036854775808 ≤ n) (h1 : n ≤ 9223372036854775807) (w : World) (htab : Lib.TabIs Tryz.prog w "internal/strconv.uint64pow10" .u64 Lib.pow10Tab) :
    Calls Tryz.prog 126 #[.int .i64 n, .int .i64 10] w fun e w' => e = .returned (.string ⟨(Lib.itoa n).toArray⟩) ∧ ∃ k os, w' = grow (w.drewN k) os := Any.strconv_FormatInt_10 Tryz.laysM173 n h0 h1 w htab
def Tryz.laysC174_ren : Go.Shelf.Ren := ⟨fun | 174 => 131 | 247 => 186 | 245 => 187 | 287 => 215 | 279 => 216 | 280 => 217 | 281 => 218 | 282 => 219 | 321 => 229 | 322 => 230 | 316 => 231 | 171 => 233 | 205 => 232 | 243 => 236 | 246 => 177 | 283 => 205 | 284 => 206 | 285 => 207 | 286 => 208 | 129 => 151 | 317 => 224 | 318 => 225 | 319 => 226 | 320 => 227 | 337 => 234 | 338 => 235 | n => n, fun | 9 => 9 | 3 => 3 | 2 => 2 | 75 => 75 | 85 => 162 | 4 => 4 | 167 => 226 | 5 => 5 | 53 => 29 | 175 => 227 | 46 => 146 | 168 => 229 | 37 => 71 | 0 => 0 | 210 => 242 | 21 => 21 | 127 => 120 | 145 => 250 | 143 => 248 | 171 => 216 | 173 => 218 | 212 => 239 | 51 => 179 | 20 => 20 | 213 => 240 | 232 => 251 | 233 => 252 | 80 => 81 | n => n, fun | 15 => 2 | 16 => 3 | 17 => 1 | 18 => 6 | 19 => 7 | n => n⟩
theorem Tryz.laysC174 : Go.Proofs.LaysC.n174 Tryz.prog Tryz.laysC174_ren := {
  mixed := by kernel_rfl
  f129 := Tryz.func151.trans (congrArg some (by kernel_rfl))
  f171 := Tryz.func233.trans (congrArg some (by kernel_rfl))
  f174 := Tryz.func131.trans (congrArg some (by kernel_rfl))
  f205 := Tryz.func232.trans (congrArg some (by kernel_rfl))
  f243 := Tryz.func236.trans (congrArg some (by kernel_rfl))
  f245 := Tryz.func187.trans (congrArg some (by kernel_rfl))
  f246 := Tryz.func177.trans (congrArg some (by kernel_rfl))
  f247 := Tryz.func186.trans (congrArg some (by kernel_rfl))
  f279 := Tryz.func216.trans (congrArg some (by kernel_rfl))
  f280 := Tryz.func217.trans (congrArg some (by kernel_rfl))
  f281 := Tryz.func218.trans (congrArg some (by kernel_rfl))
  f282 := Tryz.func219.trans (congrArg some (by kernel_rfl))
  f283 := Tryz.func205.trans (congrArg some (by kernel_rfl))
  f284 := Tryz.func206.trans (congrArg some (by kernel_rfl))
  f285 := Tryz.func207.trans (congrArg some (by kernel_rfl))
  f286 := Tryz.func208.trans (congrArg some (by kernel_rfl))
  f287 := Tryz.func215.trans (congrArg some (by kernel_rfl))
  f316 := Tryz.func231.trans (congrArg some (by kernel_rfl))
  f317 := Tryz.func224.trans (congrArg some (by kernel_rfl))
  f318 := Tryz.func225.trans (congrArg some (by kernel_rfl))
  f319 := Tryz.func226.trans (congrArg some (by kernel_rfl))
  f320 := Tryz.func227.trans (congrArg some (by kernel_rfl))
  f321 := Tryz.func229.trans (congrArg some (by kernel_rfl))
  f322 := Tryz.func230.trans (congrArg some (by kernel_rfl))
  f337 := Tryz.func234.trans (congrArg some (by kernel_rfl))
  f338 := Tryz.func235.trans (congrArg some (by kernel_rfl))
  t0 := Tryz.underlying0
  a0 := Tryz.isAgg0
  z0 := Tryz.sizeOf0
  v0 := Tryz.zeroValue0
  t2 := Tryz.underlying2
  a2 := Tryz.isAgg2
  z2 := Tryz.sizeOf2
  v2 := Tryz.zeroValue2
  t3 := Tryz.underlying3
  a3 := Tryz.isAgg3
  z3 := Tryz.sizeOf3
  v3 := Tryz.zeroValue3
  t4 := Tryz.underlying4
  a4 := Tryz.isAgg4
  z4 := Tryz.sizeOf4
  v4 := Tryz.zeroValue4
  t5 := Tryz.underlying5
  a5 := Tryz.isAgg5
  z5 := Tryz.sizeOf5
  v5 := Tryz.zeroValue5
  t9 := Tryz.underlying9
  a9 := Tryz.isAgg9
  z9 := Tryz.sizeOf9
  v9 := Tryz.zeroValue9
  t20 := Tryz.underlying20
  a20 := Tryz.isAgg20
  z20 := Tryz.sizeOf20
  v20 := Tryz.zeroValue20
  t21 := Tryz.underlying21
  a21 := Tryz.isAgg21
  z21 := Tryz.sizeOf21
  v21 := Tryz.zeroValue21
  t37 := Tryz.underlying71
  a37 := Tryz.isAgg71
  z37 := Tryz.sizeOf71
  v37 := Tryz.zeroValue71
  t46 := Tryz.underlying146
  a46 := Tryz.isAgg146
  z46 := Tryz.sizeOf146
  v46 := Tryz.zeroValue146
  t51 := Tryz.underlying179
  a51 := Tryz.isAgg179
  z51 := Tryz.sizeOf179
  v51 := Tryz.zeroValue179
  t53 := Tryz.underlying29
  a53 := Tryz.isAgg29
  z53 := Tryz.sizeOf29
  v53 := Tryz.zeroValue29
  t75 := Tryz.underlying75
  a75 := Tryz.isAgg75
  z75 := Tryz.sizeOf75
  v75 := Tryz.zeroValue75
  t85 := Tryz.underlying162
  a85 := Tryz.isAgg162
  z85 := Tryz.sizeOf162
  v85 := Tryz.zeroValue162
  t127 := Tryz.underlying120
  a127 := Tryz.isAgg120
  z127 := Tryz.sizeOf120
  v127 := Tryz.zeroValue120
  t143 := Tryz.underlying248
  a143 := Tryz.isAgg248
  z143 := Tryz.sizeOf248
  v143 := Tryz.zeroValue248
  t145 := Tryz.underlying250
  a145 := Tryz.isAgg250
  z145 := Tryz.sizeOf250
  v145 := Tryz.zeroValue250
  t167 := Tryz.underlying226
  a167 := Tryz.isAgg226
  z167 := Tryz.sizeOf226
  v167 := Tryz.zeroValue226
  t168 := Tryz.underlying229
  a168 := Tryz.isAgg229
  z168 := Tryz.sizeOf229
  v168 := Tryz.zeroValue229
  t171 := Tryz.underlying216
  a171 := Tryz.isAgg216
  z171 := Tryz.sizeOf216
  v171 := Tryz.zeroValue216
  t173 := Tryz.underlying218
  a173 := Tryz.isAgg218
  z173 := Tryz.sizeOf218
  v173 := Tryz.zeroValue218
  t175 := Tryz.underlying227
  a175 := Tryz.isAgg227
  z175 := Tryz.sizeOf227
  v175 := Tryz.zeroValue227
  t210 := Tryz.underlying242
  a210 := Tryz.isAgg242
  z210 := Tryz.sizeOf242
  v210 := Tryz.zeroValue242
  t212 := Tryz.underlying239
  a212 := Tryz.isAgg239
  z212 := Tryz.sizeOf239
  v212 := Tryz.zeroValue239
  t213 := Tryz.underlying240
  a213 := Tryz.isAgg240
  z213 := Tryz.sizeOf240
  t232 := Tryz.underlying251
  a232 := Tryz.isAgg251
  z232 := Tryz.sizeOf251
  v232 := Tryz.zeroValue251
  t233 := Tryz.underlying252
  a233 := Tryz.isAgg252
  z233 := Tryz.sizeOf252
  v233 := Tryz.zeroValue252
  g15 := by kernel_rfl
  g16 := by kernel_rfl
  g17 := by kernel_rfl
  g18 := by kernel_rfl
  g19 := by kernel_rfl
  t80 := Tryz.underlying81
  a80 := Tryz.isAgg81
  z80 := Tryz.sizeOf81
  v80 := Tryz.zeroValue81
  i0 := by kernel_rfl
  i2 := by kernel_rfl
  i3 := by kernel_rfl
  i4 := by kernel_rfl
  i5 := by kernel_rfl
  i9 := by kernel_rfl
  i20 := by kernel_rfl
  i21 := by kernel_rfl
  i37 := by kernel_rfl
  i46 := by kernel_rfl
  i51 := by kernel_rfl
  i53 := by kernel_rfl
  i75 := by kernel_rfl
  i80 := by kernel_rfl
  i85 := by kernel_rfl
  i127 := by kernel_rfl
  i143 := by kernel_rfl
  i145 := by kernel_rfl
  i167 := by kernel_rfl
  i168 := by kernel_rfl
  i171 := by kernel_rfl
  i173 := by kernel_rfl
  i175 := by kernel_rfl
  i210 := by kernel_rfl
  i212 := by kernel_rfl
  i232 := by kernel_rfl
  i233 := by kernel_rfl
  m15 := by kernel_rfl
  m16 := by kernel_rfl
  m17 := by kernel_rfl
  m18 := by kernel_rfl
  m19 := by kernel_rfl
  c0 := by kernel_rfl
  c2 := by kernel_rfl
  c3 := by kernel_rfl
  c4 := by kernel_rfl
  c5 := by kernel_rfl
  c9 := by kernel_rfl
  c20 := by kernel_rfl
  c21 := by kernel_rfl
  c37 := by kernel_rfl
  c46 := by kernel_rfl
  c51 := by kernel_rfl
  c53 := by kernel_rfl
  c75 := by kernel_rfl
  c80 := by kernel_rfl
  c85 := by kernel_rfl
  c127 := by kernel_rfl
  c143 := by kernel_rfl
  c145 := by kernel_rfl
  c167 := by kernel_rfl
  c168 := by kernel_rfl
  c171 := by kernel_rfl
  c173 := by kernel_rfl
  c175 := by kernel_rfl
  c210 := by kernel_rfl
  c212 := by kernel_rfl
  c213 := by kernel_rfl
  c232 := by kernel_rfl
  c233 := by kernel_rfl }
open Go.RowKit in
theorem Tryz.strconv_ParseInt_10_at64_ok (s : ByteArray) (hmax : s.size ≤ 9223372036854775806) (v : Int) (h : Lib.parseIntB 64 s.data.toList = .ok v) (w : World) :
    Calls Tryz.prog 131 #[.string s, .int .i64 10, .int .i64 64] w fun e w' => e = .returned (.tuple #[.int .i64 v, .nilIface]) ∧ (w' = w ∨ ∃ t, w' = Lib.bytesWorld w 5 t) := Any.strconv_ParseInt_10_at64_ok Tryz.laysC174 s hmax v h w
open Go.RowKit in
theorem Tryz.strconv_ParseInt_10_at64_syntax_var (s : ByteArray) (hlim : s.size ≤ 281474976710656) (h : Lib.parseIntB 64 s.data.toList = .«syntax») (tp : TypeId) (p : Value) (w : World) (hvar : w.var? Tryz.prog "strconv.ErrSyntax" = some #[.iface tp p]) :
    Calls Tryz.prog 131 #[.string s, .int .i64 10, .int .i64 64] w fun e w' => ∃ N, e = .returned (.tuple #[.int .i64 (0), .iface 229 (.pointer (some ⟨N, 0, none⟩))]) ∧ w.heap.size ≤ N ∧ w'.heap[N]? = some (.cells #[.string ⟨#[80, 97, 114, 115, 101, 73, 110, 116]⟩, .string s, .iface tp p] 242 (0, 0)) ∧ Below w.heap.size w w' := Any.strconv_ParseInt_10_at64_syntax_var Tryz.laysC174 s hlim h tp p w hvar
open Go.RowKit in
theorem Tryz.strconv_ParseInt_10_at64_range_var (s : ByteArray) (hlim : s.size ≤ 281474976710656) (h : Lib.parseIntB 64 s.data.toList = .range) (tp : TypeId) (p : Value) (w : World) (hvar : w.var? Tryz.prog "strconv.ErrRange" = some #[.iface tp p]) :
    Calls Tryz.prog 131 #[.string s, .int .i64 10, .int .i64 64] w fun e w' => ∃ N, e = .returned (.tuple #[.int .i64 (Lib.intSat 64 s.data.toList), .iface 229 (.pointer (some ⟨N, 0, none⟩))]) ∧ w.heap.size ≤ N ∧ w'.heap[N]? = some (.cells #[.string ⟨#[80, 97, 114, 115, 101, 73, 110, 116]⟩, .string s, .iface tp p] 242 (0, 0)) ∧ Below w.heap.size w w' := Any.strconv_ParseInt_10_at64_range_var Tryz.laysC174 s hlim h tp p w hvar
def Tryz.lays145_ren : Go.Shelf.Ren := ⟨fun | 145 => 43 | 220 => 86 | 219 => 128 | 217 => 179 | 225 => 180 | 224 => 181 | 267 => 182 | 266 => 210 | 314 => 211 | n => n, fun | 9 => 9 | 4 => 4 | 59 => 83 | 3 => 3 | 5 => 5 | 46 => 146 | 146 => 221 | 51 => 179 | n => n, fun | 1 => 0 | n => n⟩
theorem Tryz.lays145 : Go.Proofs.Lays.n145 Tryz.prog Tryz.lays145_ren := {
  mixed := by kernel_rfl
  f145 := Tryz.func43.trans (congrArg some (by kernel_rfl))
  f217 := Tryz.func179.trans (congrArg some (by kernel_rfl))
  f219 := Tryz.func128.trans (congrArg some (by kernel_rfl))
  f220 := Tryz.func86.trans (congrArg some (by kernel_rfl))
  f224 := Tryz.func181.trans (congrArg some (by kernel_rfl))
  f225 := Tryz.func180.trans (congrArg some (by kernel_rfl))
  f266 := Tryz.func210.trans (congrArg some (by kernel_rfl))
  f267 := Tryz.func182.trans (congrArg some (by kernel_rfl))
  f314 := Tryz.func211.trans (congrArg some (by kernel_rfl))
  t3 := Tryz.underlying3
  a3 := Tryz.isAgg3
  z3 := Tryz.sizeOf3
  v3 := Tryz.zeroValue3
  t4 := Tryz.underlying4
  a4 := Tryz.isAgg4
  z4 := Tryz.sizeOf4
  v4 := Tryz.zeroValue4
  t5 := Tryz.underlying5
  a5 := Tryz.isAgg5
  z5 := Tryz.sizeOf5
  v5 := Tryz.zeroValue5
  t9 := Tryz.underlying9
  a9 := Tryz.isAgg9
  z9 := Tryz.sizeOf9
  v9 := Tryz.zeroValue9
  t46 := Tryz.underlying146
  a46 := Tryz.isAgg146
  z46 := Tryz.sizeOf146
  v46 := Tryz.zeroValue146
  t51 := Tryz.underlying179
  a51 := Tryz.isAgg179
  z51 := Tryz.sizeOf179
  v51 := Tryz.zeroValue179
  t59 := Tryz.underlying83
  a59 := Tryz.isAgg83
  z59 := Tryz.sizeOf83
  v59 := Tryz.zeroValue83
  t146 := Tryz.underlying221
  a146 := Tryz.isAgg221
  z146 := Tryz.sizeOf221
  v146 := Tryz.zeroValue221
  g1 := by kernel_rfl }
open Go.RowKit Go.Lib in
theorem Tryz.strings_Cut (s sep : ByteArray) (m : Int) (w : World) (hs : s.size < 4294967281) (hm : w.cell? ⟨0, 0, none⟩ = some (.int .i64 m)) :
    Calls Tryz.prog 43 #[.string s, .string sep] w fun e w' => e = .returned (.tuple #[.string ⟨(Lib.cut s.data.toList sep.data.toList).1.toArray⟩, .string ⟨(Lib.cut s.data.toList sep.data.toList).2.1.toArray⟩, .bool (Lib.cut s.data.toList sep.data.toList).2.2]) ∧ ∃ n, w' = w.drewN n := Any.strings_Cut Tryz.lays145 s sep m w hs hm
def Tryz.lays146_ren : Go.Shelf.Ren := ⟨fun | 146 => 87 | 221 => 129 | 268 => 183 | 138 => 184 | 143 => 185 | 195 => 212 | 197 => 213 | 218 => 214 | 219 => 128 | 260 => 228 | 217 => 179 | 225 => 180 | 224 => 181 | 267 => 182 | 266 => 210 | 314 => 211 | n => n, fun | 9 => 9 | 31 => 42 | 3 => 3 | 4 => 4 | 0 => 0 | 105 => 224 | 21 => 21 | 5 => 5 | 46 => 146 | 119 => 244 | 139 => 247 | 138 => 246 | 146 => 221 | 51 => 179 | n => n, fun | 1 => 0 | 3 => 4 | 4 => 5 | n => n⟩
theorem Tryz.lays146 : Go.Proofs.Lays.n146 Tryz.prog Tryz.lays146_ren := {
  mixed := by kernel_rfl
  f138 := Tryz.func184.trans (congrArg some (by kernel_rfl))
  f143 := Tryz.func185.trans (congrArg some (by kernel_rfl))
  f146 := Tryz.func87.trans (congrArg some (by kernel_rfl))
  f195 := Tryz.func212.trans (congrArg some (by kernel_rfl))
  f197 := Tryz.func213.trans (congrArg some (by kernel_rfl))
  f217 := Tryz.func179.trans (congrArg some (by kernel_rfl))
  f218 := Tryz.func214.trans (congrArg some (by kernel_rfl))
  f219 := Tryz.func128.trans (congrArg some (by kernel_rfl))
  f221 := Tryz.func129.trans (congrArg some (by kernel_rfl))
  f224 := Tryz.func181.trans (congrArg some (by kernel_rfl))
  f225 := Tryz.func180.trans (congrArg some (by kernel_rfl))
  f260 := Tryz.func228.trans (congrArg some (by kernel_rfl))
  f266 := Tryz.func210.trans (congrArg some (by kernel_rfl))
  f267 := Tryz.func182.trans (congrArg some (by kernel_rfl))
  f268 := Tryz.func183.trans (congrArg some (by kernel_rfl))
  f314 := Tryz.func211.trans (congrArg some (by kernel_rfl))
  t0 := Tryz.underlying0
  a0 := Tryz.isAgg0
  z0 := Tryz.sizeOf0
  v0 := Tryz.zeroValue0
  t3 := Tryz.underlying3
  a3 := Tryz.isAgg3
  z3 := Tryz.sizeOf3
  v3 := Tryz.zeroValue3
  t4 := Tryz.underlying4
  a4 := Tryz.isAgg4
  z4 := Tryz.sizeOf4
  v4 := Tryz.zeroValue4
  t5 := Tryz.underlying5
  a5 := Tryz.isAgg5
  z5 := Tryz.sizeOf5
  v5 := Tryz.zeroValue5
  t9 := Tryz.underlying9
  a9 := Tryz.isAgg9
  z9 := Tryz.sizeOf9
  v9 := Tryz.zeroValue9
  t21 := Tryz.underlying21
  a21 := Tryz.isAgg21
  z21 := Tryz.sizeOf21
  v21 := Tryz.zeroValue21
  t31 := Tryz.underlying42
  a31 := Tryz.isAgg42
  z31 := Tryz.sizeOf42
  v31 := Tryz.zeroValue42
  t46 := Tryz.underlying146
  a46 := Tryz.isAgg146
  z46 := Tryz.sizeOf146
  v46 := Tryz.zeroValue146
  t51 := Tryz.underlying179
  a51 := Tryz.isAgg179
  z51 := Tryz.sizeOf179
  v51 := Tryz.zeroValue179
  t105 := Tryz.underlying224
  a105 := Tryz.isAgg224
  z105 := Tryz.sizeOf224
  v105 := Tryz.zeroValue224
  t119 := Tryz.underlying244
  a119 := Tryz.isAgg244
  z119 := Tryz.sizeOf244
  t138 := Tryz.underlying246
  a138 := Tryz.isAgg246
  z138 := Tryz.sizeOf246
  v138 := Tryz.zeroValue246
  t139 := Tryz.underlying247
  a139 := Tryz.isAgg247
  z139 := Tryz.sizeOf247
  v139 := Tryz.zeroValue247
  t146 := Tryz.underlying221
  a146 := Tryz.isAgg221
  z146 := Tryz.sizeOf221
  v146 := Tryz.zeroValue221
  g1 := by kernel_rfl
  g3 := by kernel_rfl
  g4 := by kernel_rfl }
open Go.RowKit Go.Lib in
theorem Tryz.strings_Split (s sep : ByteArray) (m : Int) (w : World) (hs : s.size < 4294967281) (hm : w.cell? ⟨0, 0, none⟩ = some (.int .i64 m)) (h1 : 1 ≤ sep.size) :
    Calls Tryz.prog 87 #[.string s, .string sep] w fun e w' =>
      e = .returned (.slice (some ⟨w.heap.size, 0, none⟩) (Lib.countB s sep + 1) (Lib.countB s sep + 1)) ∧ w' = w.alloc (.cells ((Lib.splitB sep 0 (Lib.countB s sep) s).map Value.string).toArray 9) := Any.strings_Split Tryz.lays146 (by kernel_rfl) s sep m w hs hm h1
def Tryz.lays109_ren : Go.Shelf.Ren := ⟨fun | 109 => 88 | n => n, fun | 31 => 42 | 9 => 9 | 3 => 3 | 0 => 0 | 4 => 4 | n => n, fun | n => n⟩
theorem Tryz.lays109 : Go.Proofs.Lays.n109 Tryz.prog Tryz.lays109_ren := {
  mixed := by kernel_rfl
  f109 := Tryz.func88.trans (congrArg some (by kernel_rfl))
  t0 := Tryz.underlying0
  a0 := Tryz.isAgg0
  z0 := Tryz.sizeOf0
  v0 := Tryz.zeroValue0
  t3 := Tryz.underlying3
  a3 := Tryz.isAgg3
  z3 := Tryz.sizeOf3
  v3 := Tryz.zeroValue3
  t4 := Tryz.underlying4
  a4 := Tryz.isAgg4
  z4 := Tryz.sizeOf4
  v4 := Tryz.zeroValue4
  t9 := Tryz.underlying9
  a9 := Tryz.isAgg9
  z9 := Tryz.sizeOf9
  v9 := Tryz.zeroValue9
  t31 := Tryz.underlying42
  a31 := Tryz.isAgg42
  z31 := Tryz.sizeOf42
  v31 := Tryz.zeroValue42 }
open Go.Lib in
theorem Tryz.slices_Index_string (b off n c : Nat) (zs : List ByteArray) (x : ByteArray) (w : World) (hz : n ≤ zs.length) (hbig : n ≤ 9223372036854775807) (hc : ∀ j, j < zs.length → w.cell? ⟨b, off + j, none⟩ = some (.string (zs.getD j ByteArray.empty))) :
    Calls Tryz.prog 88 #[.slice (some ⟨b, off, none⟩) n c, .string x] w fun e w' => e = .returned (.int .i64 (Lib.idxOfS (zs.take n) x)) ∧ w' = w := Any.slices_Index_string Tryz.lays109 b off n c zs x w hz hbig hc
end Go.Proofs.YtdebkbfnngkdlaaGreatDoor
end
section
namespace Go.V
open Go.Plan (FW wpL bind_ok NOk)
open Go.RowKit Go.Base
theorem catg {ro : Option Nat} {P : Program} {Q : Exit → Act → World → Prop} {a : Act} {w : World} {ops : Array Oper} {rest : List Oper} {d ty pos aft g}
    {t t' : TypeId} {x y : Operand} {s u z : ByteArray} (hz : z = s ++ u) (hx : a.eval x = .string s) (hy : a.eval y = .string u) (h : s.size + u.size ≤ 9223372036854775807) (k : L ro P ops Q rest (a.put d (.string z)) w) : St ro P ops Q rest ⟨d, .binOp .add t x y t', ty, pos, aft, g⟩ a w :=
  cat hx hy h (by rw [← hz]; exact k)
end Go.V
end
section
namespace Go.V
open Go.Base Go.RowKit
set_option linter.unusedVariables false
/-- The string of these bytes. -/
def strI (xs : List Int) : ByteArray := ⟨(xs.map fun n => UInt8.ofNat n.toNat).toArray⟩
theorem strI_size (xs : List Int) : (strI xs).size = xs.length := by show (xs.map _).toArray.size = _; simp
section
variable {ro : Option Nat} {P : Program} {Q : Exit → Act → World → Prop} {a : Act} {w : World} {ops : Array Oper} {rest : List Oper} {d : Option Tmp} {ty : TypeId} {pos : String} {aft : Array Edge} {g : Option (Nat × Bool)}
theorem run_b2s {Z : Nat → Prop} {v : Value} {xs : List Int} {src dst e : TypeId} (hS : SlR (Rp.int .u8) Z w v xs) (hs : P.underlying src = some (.slice e)) (he : P.underlying e = some (.int .u8)) (hd : P.underlying dst = some .string) :
    (convert src dst v).run P w = .ok (.string (strI xs)) w := by
  obtain ⟨A, c, rfl, h1, h2, h3⟩ := hS
  rw [run_convert_bytes_string w src dst e A xs.length c hs he hd]
  cases A with
  | none =>
    cases xs with
    | nil => rfl
    | cons x xs => obtain ⟨g, o, cs, hA, _⟩ := h3 0 x rfl; cases hA
  | some ad =>
    have hl := run_loadCells_list (P := P) w ad (xs.map (Value.int .u8)) (fun j v hj => by
      rw [List.getElem?_map] at hj
      obtain ⟨x, hx, rfl⟩ := Option.map_eq_some_iff.1 hj
      obtain ⟨g, o, cs, hA, _, _, hok, hc⟩ := h3 j x hx
      injection hA with hA
      subst hA
      have hok' : cs = [.int .u8 x] := hok
      subst hok'
      have := hc 0 _ rfl
      have ha : (⟨g, o, none⟩ : Addr).add j = ⟨g, o + j, none⟩ := by unfold Addr.add; split <;> simp_all
      rw [ha]
      simpa [Rp.int, Rp.flat] using this)
    rw [List.length_map] at hl
    rw [run_bytesToString w ad xs.length c xs hl]
    have : ∀ (l : List Int) (r : ByteArray), l.foldl (fun r n => r.push (UInt8.ofNat n.toNat)) r = ⟨r.data ++ (l.map fun n => UInt8.ofNat n.toNat).toArray⟩ := by
      intro l
      induction l with
      | nil => intro r; simp
      | cons x l ih => intro r; rw [List.foldl_cons, ih]; simp [ByteArray.push]
    rw [this]
    have he0 : ByteArray.empty.data = #[] := rfl
    rw [he0]
    simp [strI]
theorem b2s {Z : Nat → Prop} {v : Value} {xs : List Int} {src dst e : TypeId} {x : Operand} (hS : SlR (Rp.int .u8) Z w v xs) (hs : P.underlying src = some (.slice e)) (he : P.underlying e = some (.int .u8)) (hd : P.underlying dst = some .string)
    (hx : a.eval x = v) (k : L ro P ops Q rest (a.put d (.string (strI xs))) w) : St ro P ops Q rest ⟨d, .convert src dst x, ty, pos, aft, g⟩ a w := by
  refine St.val (v := .string (strI xs)) (w' := w) ?_ k
  have := run_b2s (src := src) (dst := dst) hS hs he hd
  simp only [execOp, hx]
  exact (by rw [Sem.run_bind, this]; rfl)
end
end Go.V
end
section
namespace Go.V
open Go.Plan (wpL)
open Go.RowKit Go.Base
set_option linter.unusedVariables false
theorem Fr.bel {w0 w w1 : World} {B : Nat} (h : Fr [] w0 w) (k : Below B w w1) (hB : w0.heap.size ≤ B) : Fr [] w0 w1 :=
  ⟨k.os.trans h.os, k.tape.trans h.tape, k.output.trans h.output, Nat.le_trans h.size k.size, fun i hi hn => (k.block i (Nat.lt_of_lt_of_le hi hB)).trans (h.block i hi hn)⟩
theorem bel_fr {w0 w w1 : World} {B : Nat} {l : List Nat} (h : Below B w0 w) (f : Fr l w w1) (hB : B ≤ w0.heap.size) (hl : ∀ i ∈ l, B ≤ i) : Below B w0 w1 :=
  ⟨f.os.trans h.os, f.tape.trans h.tape, f.output.trans h.output, Nat.le_trans h.size f.size, fun k hk => (f.block k (by have := h.size; omega) fun hm => absurd (hl k hm) (by omega)).trans (h.block k hk)⟩
section
variable {ro : Option Nat} {P : Program} {Q : Exit → Act → World → Prop} {a : Act} {w : World} {ops : Array Oper} {rest : List Oper} {d : Option Tmp} {ty : TypeId} {pos : String} {aft : Array Edge} {g : Option (Nat × Bool)}
end
end Go.V
end
section
namespace Go.V
open Go.Base Go.RowKit
set_option linter.unusedVariables false
set_option linter.unusedSimpArgs false
/-- A row of data, a cell each. -/
structure Row {α : Type} (enc : α → Value) (w : World) (b : Nat) (xs : List α) (t : TypeId) : Prop where
  blk : Blk w b (xs.map enc) t
section
variable {α : Type} {enc : α → Value} {w w' : World} {b : Nat} {xs : List α} {t : TypeId}
theorem Row.lt (h : Row enc w b xs t) : b < w.heap.size := h.blk.lt
theorem Row.fr (h : Row enc w b xs t) {l : List Nat} (f : Fr l w w') (hb : b ∉ l) : Row enc w' b xs t := ⟨h.blk.fr f hb⟩
theorem Row.fr0 (h : Row enc w b xs t) (f : Fr [] w w') : Row enc w' b xs t := ⟨h.blk.fr0 f⟩
theorem Row.fr1 (h : Row enc w b xs t) {b' : Nat} (f : Fr [b'] w w') (hb : b ≠ b') : Row enc w' b xs t := ⟨h.blk.fr1 f hb⟩
theorem Row.at (h : Row enc w b xs t) (i : Nat) (d : α) (hi : i < xs.length) : w.cell? ⟨b, 0 + i * 1, none⟩ = some (enc (xs.getD i d)) := by
  rw [show 0 + i * 1 = i by omega, h.blk.cell, List.getElem?_map, List.getD_eq_getElem?_getD, List.getElem?_eq_getElem hi]
  rfl
end
section
variable {ro : Option Nat} {P : Program} {Q : Exit → Act → World → Prop} {a : Act} {w : World} {ops : Array Oper} {rest : List Oper} {d : Option Tmp} {ty : TypeId} {pos : String} {aft : Array Edge} {g : Option (Nat × Bool)}
end
end Go.V
end
section
namespace Go.V
open Go.Base Go.RowKit
set_option linter.unusedVariables false
set_option linter.unusedSimpArgs false
theorem ofInt_nat (w : Nat) (x : Nat) (h : x < 2 ^ w) : (BitVec.ofInt w (x : Int)).toNat = x := by
  rw [BitVec.ofInt_natCast, BitVec.toNat_ofNat, Nat.mod_eq_of_lt h]
theorem b_and_u8 (x m : Nat) (hx : x < 256) (hm : m < 256) : Value.int .u8 (IntKind.u8.wrap ((BitVec.ofInt 8 (x : Int) &&& BitVec.ofInt 8 (m : Int)).toNat : Int)) = .int .u8 ((x &&& m : Nat) : Int) := by
  have hb : (BitVec.ofInt 8 (x : Int) &&& BitVec.ofInt 8 (m : Int)).toNat = x &&& m := by rw [BitVec.toNat_and, ofInt_nat 8 x (by omega), ofInt_nat 8 m (by omega)]
  have hlt : x &&& m < 2 ^ 8 := Nat.and_lt_two_pow _ (by omega)
  rw [hb]
  exact w_u8 (by omega) (by omega)
theorem b_shr {k : IntKind} (x n : Nat) : Value.int k (Int.fdiv (x : Int) (2 ^ n)) = .int k ((x >>> n : Nat) : Int) := by
  have h : ((2 : Int) ^ n) = ((2 ^ n : Nat) : Int) := by simp
  rw [h, Int.fdiv_eq_ediv_of_nonneg _ (Int.natCast_nonneg _), ← Int.natCast_ediv, Nat.shiftRight_eq_div_pow]
def Wds (xs : List Nat) : Prop := xs.length = 4 ∧ ∀ i, xs.getD i 0 < 18446744073709551616
def putS (xs : List Nat) (c : Nat) : List Nat := xs.set (c / 64) (xs.getD (c / 64) 0 ||| 2 ^ (c % 64))
theorem Wds.zero : Wds [0, 0, 0, 0] := ⟨rfl, fun i => by
  match i with
  | 0 | 1 | 2 | 3 => simp
  | i + 4 => simp⟩
theorem Wds.put {xs : List Nat} (h : Wds xs) {c : Nat} (hc : c < 256) : Wds (putS xs c) := by
  refine ⟨by simp [putS, h.1], fun i => ?_⟩
  have h1 := h.2 (c / 64)
  have h2 := h.2 i
  unfold putS
  rw [List.getD_eq_getElem?_getD] at h2 ⊢
  rw [List.getElem?_set]
  split
  · split
    · simp only [Option.getD_some]
      exact Nat.or_lt_two_pow (n := 64) h1 (Nat.pow_lt_pow_right (by omega) (by omega))
    · simp
  · exact h2
section
variable {ro : Option Nat} {P : Program} {Q : Exit → Act → World → Prop} {a : Act} {w : World} {ops : Array Oper} {rest : List Oper} {d : Option Tmp} {ty : TypeId} {pos : String} {aft : Array Edge} {g : Option (Nat × Bool)} {t t' : TypeId} {x y : Operand} {k k' : IntKind}
theorem nonneg_if {α : Type} {n : Nat} {p q : α} : (if ((n : Nat) : Int) < 0 then p else q) = q := if_neg (by omega)
theorem shr (v n : Nat) (hx : a.eval x = .int k (v : Int)) (hy : a.eval y = .int k' (n : Int)) (hn : n ≤ k.bits) (kk : L ro P ops Q rest (a.put d (.int k ((v >>> n : Nat) : Int))) w) : St ro P ops Q rest ⟨d, .binOp .shr t x y t', ty, pos, aft, g⟩ a w := by
  refine St.val (v := .int k ((v >>> n : Nat) : Int)) (w' := w) ?_ kk
  simp only [execOp, hx, hy, eqGuard, binOp, Op.shift, nonneg_if, Int.toNat_natCast, Nat.min_eq_left hn, b_shr]
  rfl
theorem and8 (v m : Nat) (hx : a.eval x = .int .u8 (v : Int)) (hy : a.eval y = .int .u8 (m : Int)) (hv : v < 256) (hm : m < 256) (kk : L ro P ops Q rest (a.put d (.int .u8 ((v &&& m : Nat) : Int))) w) : St ro P ops Q rest ⟨d, .binOp .and t x y t', ty, pos, aft, g⟩ a w := by
  refine St.val (v := .int .u8 ((v &&& m : Nat) : Int)) (w' := w) ?_ kk
  rw [← b_and_u8 v m hv hm]
  simp only [execOp, hx, hy, eqGuard, binOp, Op.intBits]
  rfl
end
end Go.V
end
section
namespace Go.Proofs.YtdebkbfnngkdlaaGreatDoor
open Go.V Go.Base
open Go.RowKit (Below)
attribute [local irreducible] Act.put Act.eval
set_option linter.unusedVariables false
set_option linter.unusedSimpArgs false
set_option maxHeartbeats 4000000
set_option maxRecDepth 20000
/-! ### A strings.Builder, by the shelf's contracts -/
/-- n: its block and its buffer's lie below. -/
def BldI (w : World) (b n : Nat) (l : List UInt8) : Prop :=
  ∃ p v, (p = .pointer none ∨ p = .pointer (some ⟨b, 0, none⟩)) ∧ b < n ∧ n ≤ w.heap.size ∧ w.heap[b]? = some (.cells #[p, v] 73 (0, 0)) ∧ w.ownsRow b 5 1 v (Lib.byteCells l).length (Lib.byteCells l) ∧ v.ownBlock ≠ some b ∧ ∀ k, v.ownBlock = some k → k < n
theorem BldI.is {w : World} {b n : Nat} {l : List UInt8} (h : BldI w b n l) : Lib.IsBuilder 73 5 b b (Lib.byteCells l) w := by
  obtain ⟨p, v, hp, _, _, h1, h2, h3, _⟩ := h
  rcases hp with rfl | rfl
  · exact .inl ⟨Nat.le_refl _, v, h1, h2, h3⟩
  · exact .inr ⟨Nat.le_refl _, v, h1, h2, h3⟩
theorem bld_of {w : World} {b : Nat} {p : Value} {l : List UInt8} (hp : p = .pointer none ∨ p = .pointer (some ⟨b, 0, none⟩)) (h : Lib.BuilderAt 73 5 b b p (Lib.byteCells l) w) : BldI w b w.heap.size l := by
  have hlt := h.lt
  obtain ⟨hB, v, h1, h2, h3⟩ := h
  exact ⟨p, v, hp, hlt, Nat.le_refl _, h1, h2, h3, fun k hk => (h2.lt k hk).2⟩
theorem BldI.fr {w w1 : World} {b n : Nat} {l : List UInt8} {ls : List Nat} (h : BldI w b n l) (f : Fr ls w w1) (hl : ∀ i ∈ ls, i < b ∨ n ≤ i) : BldI w1 b n l := by
  obtain ⟨p, v, hp, hb, hn, h1, h2, h3, h4⟩ := h
  refine ⟨p, v, hp, hb, Nat.le_trans hn f.size, (f.block b (by omega) fun hm => by have := hl b hm; omega).trans h1, own_fr h2 f fun i hi hm => ?_, h3, h4⟩
  have := (h2.lt i hi).1
  have := h4 i hi
  have := hl i hm
  omega
theorem BldI.up {w : World} {b n m : Nat} {l : List UInt8} (h : BldI w b n l) (hn : n ≤ m) (hm : m ≤ w.heap.size) : BldI w b m l := by
  obtain ⟨p, v, hp, hb, _, h1, h2, h3, h4⟩ := h
  exact ⟨p, v, hp, by omega, hm, h1, h2, h3, fun k hk => by have := h4 k hk; omega⟩
theorem bld_new {w : World} {b : Nat} (h : Blk w b [.pointer none, .slice none 0 0] 73) (hb : b < w.heap.size) : BldI w b w.heap.size [] :=
  bld_of (.inl rfl) ⟨Nat.le_refl _, _, h, World.ownsRow_nil _ _ _ _, by simp [Value.ownBlock]⟩
theorem BldI.lt {w : World} {b n : Nat} {l : List UInt8} (h : BldI w b n l) : b < w.heap.size := by obtain ⟨p, v, hp, hb, hn, _⟩ := h; omega
theorem wb_any (w : World) (b n : Nat) (l : List UInt8) (c : UInt8) (h : BldI w b n l) (hl : l.length + 1 ≤ 140737488355328) : Calls Tryz.prog 37 #[.pointer (some ⟨b, 0, none⟩), .int .u8 (c.toNat : Int)] w fun e w' => e = .returned .nilIface ∧ BldI w' b w'.heap.size (l ++ [c]) ∧ Below b w w' :=
  (Tryz.Builder_WriteByte b b _ _ w h.is (by rw [Lib.byteCells_length]; exact hl) (Nat.le_of_lt h.lt)).mono fun e w' ⟨h1, h2, h3⟩ => ⟨h1, bld_of (.inr rfl) (by rw [Lib.byteCells_append]; exact h2), h3⟩
theorem ws_any (w : World) (b n : Nat) (l : List UInt8) (s : ByteArray) (h : BldI w b n l) (hl : l.length + s.size ≤ 140737488355328) : Calls Tryz.prog 35 #[.pointer (some ⟨b, 0, none⟩), .string s] w fun e w' => e = .returned (.tuple #[.int .i64 s.size, .nilIface]) ∧ BldI w' b w'.heap.size (l ++ s.data.toList) ∧ Below b w w' :=
  (Tryz.Builder_WriteString b b _ s w h.is (by rw [Lib.byteCells_length]; exact hl) (Nat.le_of_lt h.lt)).mono fun e w' ⟨h1, h2, h3⟩ => ⟨h1, bld_of (.inr rfl) (by rw [Lib.byteCells_append]; exact h2), h3⟩
theorem bs_any (w : World) (b n : Nat) (l : List UInt8) (h : BldI w b n l) : Calls Tryz.prog 39 #[.pointer (some ⟨b, 0, none⟩)] w fun e w' => e = .returned (.string ⟨l.toArray⟩) ∧ Below b w w' :=
  Tryz.Builder_String_any b b l w h.is (Nat.le_of_lt h.lt)
/-! ### Hex -/
def digB (n : Nat) : UInt8 := byt ⟨#[48, 49, 50, 51, 52, 53, 54, 55, 56, 57, 97, 98, 99, 100, 101, 102]⟩ (n : Int)
def hexL : List UInt8 → List UInt8
  | [] => []
  | c :: l => digB (c.toNat >>> 4) :: digB (c.toNat &&& 15) :: hexL l
def hexS (s : ByteArray) : ByteArray := if s.size = 0 then ⟨#[46]⟩ else ⟨(hexL s.data.toList).toArray⟩
theorem hexL_app : ∀ l r : List UInt8, hexL (l ++ r) = hexL l ++ hexL r
  | [], _ => rfl
  | c :: l, r => by simp only [List.cons_append, hexL, hexL_app l r]
theorem hexL_len : ∀ l : List UInt8, (hexL l).length = 2 * l.length
  | [] => rfl
  | c :: l => by simp only [hexL, List.length_cons, hexL_len l]; omega
theorem byt_el {s : ByteArray} {i : Nat} (h : i < s.size) : s.data.toList[i]? = some (byt s (i : Int)) := by
  have h' : i < s.data.size := h
  unfold byt
  rw [Int.toNat_natCast, Array.getD_eq_getD_getElem?, Array.getElem?_eq_getElem h', Array.getElem?_toList, Array.getElem?_eq_getElem h']; rfl
theorem bytes_next {s : ByteArray} {i : Nat} (h : i < s.size) : s.data.toList.take (i + 1) = s.data.toList.take i ++ [byt s (i : Int)] := by
  rw [List.take_add_one, byt_el h]; rfl
theorem hexL_next {s : ByteArray} {i : Nat} (h : i < s.size) : hexL (s.data.toList.take (i + 1)) = hexL (s.data.toList.take i) ++ [digB ((byt s (i : Int)).toNat >>> 4)] ++ [digB ((byt s (i : Int)).toNat &&& 15)] := by
  rw [bytes_next h, hexL_app]; simp [hexL]
theorem hexS_no {s : ByteArray} (h : s = ⟨#[]⟩) : hexS s = ⟨#[46]⟩ := by subst h; rfl
theorem hexS_yes {s : ByteArray} {i : Nat} (h : ¬ s = ⟨#[]⟩) (hi : s.size ≤ i) : hexS s = ⟨(hexL (s.data.toList.take i)).toArray⟩ := by
  have h0 : ¬ s.size = 0 := fun h0 => h (by cases s; rename_i d; congr; exact Array.eq_empty_of_size_eq_zero h0)
  unfold hexS
  rw [if_neg h0, List.take_of_length_le (by simpa using hi)]
theorem sh4_lt (s : ByteArray) (i : Int) : (byt s i).toNat >>> 4 < 16 := by
  have := (byt s i).toNat_lt
  rw [Nat.shiftRight_eq_div_pow]; omega
theorem an15_lt (s : ByteArray) (i : Int) : (byt s i).toNat &&& 15 < 16 := Nat.lt_succ_of_le (Nat.and_le_right)
theorem hex_any (w : World) (s : ByteArray) (hs : s.size ≤ 1099511627776) : Calls Tryz.prog 83 #[.string s] w (fun e w' => e = .returned (.string (hexS s)) ∧ Fr [] w w') := by
 have hF := Fr.refl [] w
 refine V.en 26 Tryz.func83 fun a h1 => ?_
 refine V.sr h1 [] 2 2 [] fun a h4 => ?_
 refine V.seq fun K5 k6 => ?_
 refine V.sr h4 [(1, .seq s ⟨#[]⟩)] 5 5 [(6, .bool (decide (s = ⟨#[]⟩)))] fun a h9 => ?_
 refine V.cp h9 (s = ⟨#[]⟩) (fun ht10 => ?_) (fun ht10 => ?_)
 ·
  refine V.sr h9 [] 1 0 [(2, .string ⟨#[46]⟩)] fun a h13 => ?_
  refine V.ret (V.then_r ?_)
  refine V.r1 h13 (.string ⟨#[46]⟩) ?_
  exact ⟨congrArg (fun b => Ending.returned (Value.string b)) (hexS_no (by assumption)).symm, hF⟩
 ·
  refine V.skip ?_
  refine V.then_n (k6 _ _ ?_)
  refine V.sg fun K14 k15 => ?_
  refine V.go (V.mk [] trivial (by kernel_rfl) [.pointer none, .slice none 0 0] 73 (fun b => .pointer (some ⟨b, 0, none⟩)) (by kernel_rfl) ?_)
  intro w17 b16 heb16 hB18 hF19 hsb16
  have hF_20 := hF.new hF19
  refine V.pt h9 fun a h21 => ?_
  refine V.nt (k15 _ _ ?_)
  refine V.seq fun K22 k23 => ?_
  refine V.seq fun K24 k25 => ?_
  have hB26 := bld_new hB18 (hB18).lt
  refine V.rr h21 [] 7 7 [(8, .int .i64 (s.size : Int)), (9, .int .i64 0)] fun a h27 => ?_
  refine V.then_n (k25 _ _ ?_)
  refine V.block ?_
  refine V.loop1 (fun (i : Nat) a_ w_ => En 26 [] a_ [(0, .string s), (3, .pointer (some ⟨b16, 0, none⟩)), (8, .int .i64 (s.size : Int)), (9, .int .i64 (i : Int))] ∧ BldI w_ b16 w_.heap.size (hexL (s.data.toList.take i)) ∧ Fr [] w w_ ∧ (i ≤ s.size)) (fun (i : Nat) => s.size - i) 0 ?_ ?_
  ·
   refine ⟨(h27.eq 9 (v := (.int .i64 0)) (u := (.int .i64 (0 : Int))) (V.int_eq (by omega))).only _, (hB26.up (by omega) (by omega)), hF_20, (by omega)⟩
  ·
   rintro i a28 w29 ⟨h30, hB_31, hF_32, hi⟩
   have hfs33 := hF_32.size
   have hhl := hexL_len (s.data.toList.take i)
   have hhl2 : (s.data.toList.take i).length ≤ i := List.length_take_le ..
   have hcb := (byt s (i : Int)).toNat_lt
   have hcd := sh4_lt s (i : Int)
   have hce := an15_lt s (i : Int)
   have hdg : (⟨#[48, 49, 50, 51, 52, 53, 54, 55, 56, 57, 97, 98, 99, 100, 101, 102]⟩ : ByteArray).size = 16 := rfl
   refine V.sr h30 [] 1 0 [(10, .bool (decide ((i : Int) < (s.size : Int))))] fun a h36 => ?_
   refine V.seq fun K37 k38 => ?_
   refine V.cp h36 ((i : Int) < (s.size : Int)) (fun ht39 => ?_) (fun ht39 => ?_)
   ·
    refine V.skip ?_
    refine V.then_n (k38 _ _ ?_)
    refine V.seq fun K40 k41 => ?_
    refine V.block ?_
    refine V.sr h36 [] 11 11 [(4, .int .i64 (i : Int))] fun a h44 => ?_
    have hb47 := byt_lt s (i : Int)
    refine V.sg fun K45 k46 => ?_
    refine V.run h44 [(2, .ixs s .i64 (i : Int))] 3 12 13 [(14, .int .u8 (bi s (i : Int)))] fun a h48 => ?_
    refine V.go (V.shr (k := .u8) (byt s (i : Int)).toNat 4 h48.e evc (by decide) ?_)
    refine V.pt h48 fun a h49 => ?_
    have hb50 := byt_lt ⟨#[48, 49, 50, 51, 52, 53, 54, 55, 56, 57, 97, 98, 99, 100, 101, 102]⟩ (((byt s (i : Int)).toNat >>> 4 : Nat) : Int)
    refine V.run h49 [(0, .ixs ⟨#[48, 49, 50, 51, 52, 53, 54, 55, 56, 57, 97, 98, 99, 100, 101, 102]⟩ .u8 (((byt s (i : Int)).toNat >>> 4 : Nat) : Int))] 1 1 0 [(16, .int .u8 (bi ⟨#[48, 49, 50, 51, 52, 53, 54, 55, 56, 57, 97, 98, 99, 100, 101, 102]⟩ (((byt s (i : Int)).toNat >>> 4 : Nat) : Int)))] fun a h51 => ?_
    refine V.cl h51 (Go.Proofs.enters_of Tryz.func37 (by kernel_rfl) rfl) (wb_any w29 b16 _ (hexL (s.data.toList.take i)) (byt ⟨#[48, 49, 50, 51, 52, 53, 54, 55, 56, 57, 97, 98, 99, 100, 101, 102]⟩ (((byt s (i : Int)).toNat >>> 4 : Nat) : Int)) hB_31 (by (try simp only [List.length_append, List.length_cons, List.length_nil]); omega)) ?_
    rintro _ w54 ⟨rfl, hB52, hL53⟩
    refine ⟨_, rfl, fun a h55 => ?_⟩
    have hsw54 := hL53.size
    have hF_56 := V.Fr.bel hF_32 hL53 (by omega)
    refine V.nt (k46 _ _ ?_)
    have hb57 := byt_lt s (i : Int)
    refine V.rg ?_
    refine V.run h55 [(2, .ixs s .i64 (i : Int))] 3 18 19 [(20, .int .u8 (bi s (i : Int)))] fun a h58 => ?_
    refine V.go (V.and8 (byt s (i : Int)).toNat 15 h58.e evc hcb (by decide) ?_)
    refine V.pt h58 fun a h59 => ?_
    have hb60 := byt_lt ⟨#[48, 49, 50, 51, 52, 53, 54, 55, 56, 57, 97, 98, 99, 100, 101, 102]⟩ (((byt s (i : Int)).toNat &&& 15 : Nat) : Int)
    refine V.run h59 [(0, .ixs ⟨#[48, 49, 50, 51, 52, 53, 54, 55, 56, 57, 97, 98, 99, 100, 101, 102]⟩ .u8 (((byt s (i : Int)).toNat &&& 15 : Nat) : Int))] 1 1 0 [(22, .int .u8 (bi ⟨#[48, 49, 50, 51, 52, 53, 54, 55, 56, 57, 97, 98, 99, 100, 101, 102]⟩ (((byt s (i : Int)).toNat &&& 15 : Nat) : Int)))] fun a h61 => ?_
    refine V.cl h61 (Go.Proofs.enters_of Tryz.func37 (by kernel_rfl) rfl) (wb_any w54 b16 _ ((hexL (s.data.toList.take i)) ++ [byt ⟨#[48, 49, 50, 51, 52, 53, 54, 55, 56, 57, 97, 98, 99, 100, 101, 102]⟩ (((byt s (i : Int)).toNat >>> 4 : Nat) : Int)]) (byt ⟨#[48, 49, 50, 51, 52, 53, 54, 55, 56, 57, 97, 98, 99, 100, 101, 102]⟩ (((byt s (i : Int)).toNat &&& 15 : Nat) : Int)) hB52 (by (try simp only [List.length_append, List.length_cons, List.length_nil]); omega)) ?_
    rintro _ w64 ⟨rfl, hB62, hL63⟩
    refine ⟨_, rfl, fun a h65 => ?_⟩
    have hsw64 := hL63.size
    have hF_66 := V.Fr.bel hF_56 hL63 (by omega)
    refine V.nil ?_
    refine V.blk_n ?_
    refine V.then_n (k41 _ _ ?_)
    refine V.rr h65 [(0, .i ((i : Int) + 1))] 24 24 [(9, .int .i64 ((i : Int) + 1))] fun a h67 => ?_
    refine V.then_n ?_
    refine ⟨i + 1, by omega, ?_⟩
    refine ⟨(h67.eq 9 (v := (.int .i64 ((i : Int) + 1))) (u := (.int .i64 ((i + 1) : Int))) (V.int_eq (by omega))).only _, (by rw [hexL_next (by omega)]; exact hB62.up (by omega) (by omega)), hF_66, (by omega)⟩
   ·
    refine V.exit (V.then_e (V.then_e (V.blk_hit ?_)))
    refine V.then_n (k23 _ _ ?_)
    refine V.sg fun K68 k69 => ?_
    refine V.cl h36 (Go.Proofs.enters_of Tryz.func39 (by kernel_rfl) rfl) (bs_any w29 b16 _ (hexL (s.data.toList.take i)) hB_31) ?_
    rintro _ w71 ⟨rfl, hL70⟩
    refine ⟨_, rfl, fun a h72 => ?_⟩
    have hsw71 := hL70.size
    have hF_73 := V.Fr.bel hF_32 hL70 (by omega)
    refine V.re h72 [] 1 0 [(2, .string ⟨(hexL (s.data.toList.take i)).toArray⟩)] fun a h74 => k69 _ _ ?_
    refine V.ret ?_
    refine V.r1 h74 (.string ⟨(hexL (s.data.toList.take i)).toArray⟩) ?_
    exact ⟨congrArg (fun b => Ending.returned (Value.string b)) (hexS_yes (by assumption) (by omega)).symm, hF_73⟩
theorem few_eq {k : Int} {s : ByteArray} {Al Az Ah : Option Addr} {a b c n1 n2 n3 cl cz ch : Nat} (h1 : n1 = a) (h2 : n2 = b) (h3 : n3 = c) : Ending.returned (.agg #[.int .i64 k, .string s, .slice Al n1 cl, .slice Az n2 cz, .slice Ah n3 ch]) = Ending.returned (.agg #[.int .i64 k, .string s, .slice Al a cl, .slice Az b cz, .slice Ah c ch]) := by subst h1 h2 h3; rfl
/-- What of an entry, of a row is looked at. -/
def fewD (e : EnD) : EnD := ⟨e.key, e.k, e.s, e.l.take 40, e.z.take 40, e.h.take 40, e.till⟩
theorem info55 : (Tryz.prog.info? 55).map (fun i => (i.zero, i.size, i.bytes)) = some (some (.agg #[.string ⟨#[]⟩, .int .i64 0, .string ⟨#[]⟩, .slice none 0 0, .slice none 0 0, .slice none 0 0, .int .i64 0]), 7, 120) := by kernel_rfl
def cutD (l : List EnD) : List EnD := (l.take 20).map fewD
theorem fewM_next {l : List EnD} {i : Nat} (h : i < l.length) : (l.take (i + 1)).map fewD = (l.take i).map fewD ++ [fewD (at_ enR l (i : Int))] := by
  rw [List.take_succ_eq_append_getElem h, List.map_append, at_el enR h]; rfl
theorem few_any (w : World) (k : Int) (s : ByteArray) (Al : Option Addr) (cl : Nat) (l : List ByteArray) (hSl : SlR Rp.str (fun k => k < w.heap.size) w (.slice Al l.length cl) l) (Az : Option Addr) (cz : Nat) (z : List (ByteArray × Int)) (hSz : SlR scR (fun k => k < w.heap.size) w (.slice Az z.length cz) z) (Ah : Option Addr) (ch : Nat) (h : List (ByteArray × ByteArray)) (hSh : SlR fdR (fun k => k < w.heap.size) w (.slice Ah h.length ch) h) : Calls Tryz.prog 17 #[.agg #[.int .i64 k, .string s, .slice Al l.length cl, .slice Az z.length cz, .slice Ah h.length ch]] w (fun e w' => e = .returned (.agg #[.int .i64 k, .string s, .slice Al (l.take 40).length cl, .slice Az (z.take 40).length cz, .slice Ah (h.take 40).length ch]) ∧ Fr [] w w') := by
 have hF := Fr.refl [] w
 have hc1 := hSl.cp.2
 have hc2 := hSz.cp.2
 have hc3 := hSh.cp.2
 refine V.en 28 Tryz.func17 fun a h1 => ?_
 refine V.sg fun K2 k3 => ?_
 refine V.go (V.mk [(0, .agg #[.int .i64 k, .string s, .slice Al l.length cl, .slice Az z.length cz, .slice Ah h.length ch])] ⟨h1.e, trivial⟩ (by kernel_rfl) [.int .i64 k, .string s, .slice Al l.length cl, .slice Az z.length cz, .slice Ah h.length ch] 46 (fun b => .pointer (some ⟨b, 0, none⟩)) (by kernel_rfl) ?_)
 intro w5 b4 heb4 hB6 hF7 hsb4
 have hF_8 := hF.new hF7
 have hSl_9 := hSl.fr0 hF7
 have hSz_10 := hSz.fr0 hF7
 have hSh_11 := hSh.fr0 hF7
 refine V.pt h1 fun a h12 => ?_
 refine V.go (V.mk [] trivial (by kernel_rfl) [.int .i64 0, .string ⟨#[]⟩, .slice none 0 0, .slice none 0 0, .slice none 0 0] 46 (fun b => .pointer (some ⟨b, 0, none⟩)) (by kernel_rfl) ?_)
 intro w14 b13 heb13 hB15 hF16 hsb13
 have hF_17 := hF_8.new hF16
 have hSl_18 := hSl_9.fr0 hF16
 have hSz_19 := hSz_10.fr0 hF16
 have hSh_20 := hSh_11.fr0 hF16
 have hB6_21 := hB6.fr0 hF16
 refine V.pt h12 fun a h22 => ?_
 refine V.nt (k3 _ _ ?_)
 refine V.seq fun K23 k24 => ?_
 refine V.sr h22 [(1, .b hB6_21 2)] 3 5 [(6, .bool (decide (((l.length : Nat) : Int) > 40)))] fun a h27 => ?_
 refine V.cp h27 (((l.length : Nat) : Int) > 40) (fun ht28 => ?_) (fun ht28 => ?_)
 ·
  have hS29 := hSl_18.tk (i := 40) (by omega)
  refine V.rg ?_
  refine V.run h27 [(1, .b hB6_21 2), (0, .cut0 Al l.length cl 40 40 1)] 4 7 8 [(9, .slice Al 40 cl), (10, .pointer (some ⟨b4, 2, none⟩))] fun a h33 => ?_
  refine V.go (V.stn b4 2 (.slice Al 40 cl) [.slice Al 40 cl] h33.e h33.e rfl rfl (by kernel_rfl) hB6_21 (by simp) [.int .i64 k, .string s, .slice Al 40 cl, .slice Az z.length cz, .slice Ah h.length ch] rfl ?_)
  intro w30 hB31 hF32 hsw30
  have hF_34 := hF_17.own hF32 (by simp <;> omega)
  have hSz_36 := hSz_19.fr hF32 (by simp <;> omega)
  have hSh_37 := hSh_20.fr hF32 (by simp <;> omega)
  have hB15_38 := hB15.fr1 hF32 (by omega)
  refine V.nt (k24 _ _ ?_)
  refine V.seq fun K40 k41 => ?_
  refine V.sr h33 [(1, .b hB31 3)] 11 13 [(14, .bool (decide (((z.length : Nat) : Int) > 40)))] fun a h44 => ?_
  refine V.cp h44 (((z.length : Nat) : Int) > 40) (fun ht45 => ?_) (fun ht45 => ?_)
  ·
   have hS46 := hSz_36.tk (i := 40) (by omega)
   refine V.rg ?_
   refine V.run h44 [(1, .b hB31 3), (0, .cut0 Az z.length cz 40 40 2)] 4 15 16 [(17, .slice Az 40 cz), (18, .pointer (some ⟨b4, 3, none⟩))] fun a h50 => ?_
   refine V.go (V.stn b4 3 (.slice Az 40 cz) [.slice Az 40 cz] h50.e h50.e rfl rfl (by kernel_rfl) hB31 (by simp) [.int .i64 k, .string s, .slice Al 40 cl, .slice Az 40 cz, .slice Ah h.length ch] rfl ?_)
   intro w47 hB48 hF49 hsw47
   have hF_51 := hF_34.own hF49 (by simp <;> omega)
   have hSh_54 := hSh_37.fr hF49 (by simp <;> omega)
   have hB15_55 := hB15_38.fr1 hF49 (by omega)
   refine V.nt (k41 _ _ ?_)
   refine V.seq fun K58 k59 => ?_
   refine V.sr h50 [(1, .b hB48 4)] 19 21 [(22, .bool (decide (((h.length : Nat) : Int) > 40)))] fun a h62 => ?_
   refine V.cp h62 (((h.length : Nat) : Int) > 40) (fun ht63 => ?_) (fun ht63 => ?_)
   ·
    have hS64 := hSh_54.tk (i := 40) (by omega)
    refine V.rg ?_
    refine V.run h62 [(1, .b hB48 4), (0, .cut0 Ah h.length ch 40 40 2)] 4 23 24 [(25, .slice Ah 40 ch), (26, .pointer (some ⟨b4, 4, none⟩))] fun a h68 => ?_
    refine V.go (V.stn b4 4 (.slice Ah 40 ch) [.slice Ah 40 ch] h68.e h68.e rfl rfl (by kernel_rfl) hB48 (by simp) [.int .i64 k, .string s, .slice Al 40 cl, .slice Az 40 cz, .slice Ah 40 ch] rfl ?_)
    intro w65 hB66 hF67 hsw65
    have hF_69 := hF_51.own hF67 (by simp <;> omega)
    have hB15_73 := hB15_55.fr1 hF67 (by omega)
    refine V.nt (k59 _ _ ?_)
    refine V.sg fun K77 k78 => ?_
    refine V.run h68 [(0, .bs hB66 0 [.int .i64 k, .string s, .slice Al 40 cl, .slice Az 40 cz, .slice Ah 40 ch])] 1 1 0 [(27, .agg #[.int .i64 k, .string s, .slice Al 40 cl, .slice Az 40 cz, .slice Ah 40 ch])] fun a h82 => ?_
    refine V.go (V.stn b13 0 (.agg #[.int .i64 k, .string s, .slice Al 40 cl, .slice Az 40 cz, .slice Ah 40 ch]) [.int .i64 k, .string s, .slice Al 40 cl, .slice Az 40 cz, .slice Ah 40 ch] h82.e h82.e rfl rfl (by kernel_rfl) hB15_73 (by simp) [.int .i64 k, .string s, .slice Al 40 cl, .slice Az 40 cz, .slice Ah 40 ch] rfl ?_)
    intro w79 hB80 hF81 hsw79
    have hF_83 := hF_69.own hF81 (by simp <;> omega)
    refine V.nt (k78 _ _ ?_)
    refine V.ret ?_
    refine V.retC h82.sd rfl _ (h82.e (v := (.pointer (some ⟨b13, 0, none⟩)))) (V.run_loadVar_agg (cs := [.int .i64 k, .string s, .slice Al 40 cl, .slice Az 40 cz, .slice Ah 40 ch]) (by kernel_rfl) (blk_cells hB80 0 _ rfl)) ?_
    exact ⟨few_eq (by rw [List.length_take]; omega) (by rw [List.length_take]; omega) (by rw [List.length_take]; omega), hF_83⟩
   ·
    refine V.skip ?_
    refine V.then_n (k59 _ _ ?_)
    refine V.sg fun K91 k92 => ?_
    refine V.run h62 [(0, .bs hB48 0 [.int .i64 k, .string s, .slice Al 40 cl, .slice Az 40 cz, .slice Ah h.length ch])] 1 1 0 [(27, .agg #[.int .i64 k, .string s, .slice Al 40 cl, .slice Az 40 cz, .slice Ah h.length ch])] fun a h96 => ?_
    refine V.go (V.stn b13 0 (.agg #[.int .i64 k, .string s, .slice Al 40 cl, .slice Az 40 cz, .slice Ah h.length ch]) [.int .i64 k, .string s, .slice Al 40 cl, .slice Az 40 cz, .slice Ah h.length ch] h96.e h96.e rfl rfl (by kernel_rfl) hB15_55 (by simp) [.int .i64 k, .string s, .slice Al 40 cl, .slice Az 40 cz, .slice Ah h.length ch] rfl ?_)
    intro w93 hB94 hF95 hsw93
    have hF_97 := hF_51.own hF95 (by simp <;> omega)
    refine V.nt (k92 _ _ ?_)
    refine V.ret ?_
    refine V.retC h96.sd rfl _ (h96.e (v := (.pointer (some ⟨b13, 0, none⟩)))) (V.run_loadVar_agg (cs := [.int .i64 k, .string s, .slice Al 40 cl, .slice Az 40 cz, .slice Ah h.length ch]) (by kernel_rfl) (blk_cells hB94 0 _ rfl)) ?_
    exact ⟨few_eq (by rw [List.length_take]; omega) (by rw [List.length_take]; omega) (by rw [List.length_take]; omega), hF_97⟩
  ·
   refine V.skip ?_
   refine V.then_n (k41 _ _ ?_)
   refine V.seq fun K104 k105 => ?_
   refine V.sr h44 [(1, .b hB31 4)] 19 21 [(22, .bool (decide (((h.length : Nat) : Int) > 40)))] fun a h108 => ?_
   refine V.cp h108 (((h.length : Nat) : Int) > 40) (fun ht109 => ?_) (fun ht109 => ?_)
   ·
    have hS110 := hSh_37.tk (i := 40) (by omega)
    refine V.rg ?_
    refine V.run h108 [(1, .b hB31 4), (0, .cut0 Ah h.length ch 40 40 2)] 4 23 24 [(25, .slice Ah 40 ch), (26, .pointer (some ⟨b4, 4, none⟩))] fun a h114 => ?_
    refine V.go (V.stn b4 4 (.slice Ah 40 ch) [.slice Ah 40 ch] h114.e h114.e rfl rfl (by kernel_rfl) hB31 (by simp) [.int .i64 k, .string s, .slice Al 40 cl, .slice Az z.length cz, .slice Ah 40 ch] rfl ?_)
    intro w111 hB112 hF113 hsw111
    have hF_115 := hF_34.own hF113 (by simp <;> omega)
    have hB15_119 := hB15_38.fr1 hF113 (by omega)
    refine V.nt (k105 _ _ ?_)
    refine V.sg fun K122 k123 => ?_
    refine V.run h114 [(0, .bs hB112 0 [.int .i64 k, .string s, .slice Al 40 cl, .slice Az z.length cz, .slice Ah 40 ch])] 1 1 0 [(27, .agg #[.int .i64 k, .string s, .slice Al 40 cl, .slice Az z.length cz, .slice Ah 40 ch])] fun a h127 => ?_
    refine V.go (V.stn b13 0 (.agg #[.int .i64 k, .string s, .slice Al 40 cl, .slice Az z.length cz, .slice Ah 40 ch]) [.int .i64 k, .string s, .slice Al 40 cl, .slice Az z.length cz, .slice Ah 40 ch] h127.e h127.e rfl rfl (by kernel_rfl) hB15_119 (by simp) [.int .i64 k, .string s, .slice Al 40 cl, .slice Az z.length cz, .slice Ah 40 ch] rfl ?_)
    intro w124 hB125 hF126 hsw124
    have hF_128 := hF_115.own hF126 (by simp <;> omega)
    refine V.nt (k123 _ _ ?_)
    refine V.ret ?_
    refine V.retC h127.sd rfl _ (h127.e (v := (.pointer (some ⟨b13, 0, none⟩)))) (V.run_loadVar_agg (cs := [.int .i64 k, .string s, .slice Al 40 cl, .slice Az z.length cz, .slice Ah 40 ch]) (by kernel_rfl) (blk_cells hB125 0 _ rfl)) ?_
    exact ⟨few_eq (by rw [List.length_take]; omega) (by rw [List.length_take]; omega) (by rw [List.length_take]; omega), hF_128⟩
   ·
    refine V.skip ?_
    refine V.then_n (k105 _ _ ?_)
    refine V.sg fun K135 k136 => ?_
    refine V.run h108 [(0, .bs hB31 0 [.int .i64 k, .string s, .slice Al 40 cl, .slice Az z.length cz, .slice Ah h.length ch])] 1 1 0 [(27, .agg #[.int .i64 k, .string s, .slice Al 40 cl, .slice Az z.length cz, .slice Ah h.length ch])] fun a h140 => ?_
    refine V.go (V.stn b13 0 (.agg #[.int .i64 k, .string s, .slice Al 40 cl, .slice Az z.length cz, .slice Ah h.length ch]) [.int .i64 k, .string s, .slice Al 40 cl, .slice Az z.length cz, .slice Ah h.length ch] h140.e h140.e rfl rfl (by kernel_rfl) hB15_38 (by simp) [.int .i64 k, .string s, .slice Al 40 cl, .slice Az z.length cz, .slice Ah h.length ch] rfl ?_)
    intro w137 hB138 hF139 hsw137
    have hF_141 := hF_34.own hF139 (by simp <;> omega)
    refine V.nt (k136 _ _ ?_)
    refine V.ret ?_
    refine V.retC h140.sd rfl _ (h140.e (v := (.pointer (some ⟨b13, 0, none⟩)))) (V.run_loadVar_agg (cs := [.int .i64 k, .string s, .slice Al 40 cl, .slice Az z.length cz, .slice Ah h.length ch]) (by kernel_rfl) (blk_cells hB138 0 _ rfl)) ?_
    exact ⟨few_eq (by rw [List.length_take]; omega) (by rw [List.length_take]; omega) (by rw [List.length_take]; omega), hF_141⟩
 ·
  refine V.skip ?_
  refine V.then_n (k24 _ _ ?_)
  refine V.seq fun K147 k148 => ?_
  refine V.sr h27 [(1, .b hB6_21 3)] 11 13 [(14, .bool (decide (((z.length : Nat) : Int) > 40)))] fun a h151 => ?_
  refine V.cp h151 (((z.length : Nat) : Int) > 40) (fun ht152 => ?_) (fun ht152 => ?_)
  ·
   have hS153 := hSz_19.tk (i := 40) (by omega)
   refine V.rg ?_
   refine V.run h151 [(1, .b hB6_21 3), (0, .cut0 Az z.length cz 40 40 2)] 4 15 16 [(17, .slice Az 40 cz), (18, .pointer (some ⟨b4, 3, none⟩))] fun a h157 => ?_
   refine V.go (V.stn b4 3 (.slice Az 40 cz) [.slice Az 40 cz] h157.e h157.e rfl rfl (by kernel_rfl) hB6_21 (by simp) [.int .i64 k, .string s, .slice Al l.length cl, .slice Az 40 cz, .slice Ah h.length ch] rfl ?_)
   intro w154 hB155 hF156 hsw154
   have hF_158 := hF_17.own hF156 (by simp <;> omega)
   have hSh_161 := hSh_20.fr hF156 (by simp <;> omega)
   have hB15_162 := hB15.fr1 hF156 (by omega)
   refine V.nt (k148 _ _ ?_)
   refine V.seq fun K164 k165 => ?_
   refine V.sr h157 [(1, .b hB155 4)] 19 21 [(22, .bool (decide (((h.length : Nat) : Int) > 40)))] fun a h168 => ?_
   refine V.cp h168 (((h.length : Nat) : Int) > 40) (fun ht169 => ?_) (fun ht169 => ?_)
   ·
    have hS170 := hSh_161.tk (i := 40) (by omega)
    refine V.rg ?_
    refine V.run h168 [(1, .b hB155 4), (0, .cut0 Ah h.length ch 40 40 2)] 4 23 24 [(25, .slice Ah 40 ch), (26, .pointer (some ⟨b4, 4, none⟩))] fun a h174 => ?_
    refine V.go (V.stn b4 4 (.slice Ah 40 ch) [.slice Ah 40 ch] h174.e h174.e rfl rfl (by kernel_rfl) hB155 (by simp) [.int .i64 k, .string s, .slice Al l.length cl, .slice Az 40 cz, .slice Ah 40 ch] rfl ?_)
    intro w171 hB172 hF173 hsw171
    have hF_175 := hF_158.own hF173 (by simp <;> omega)
    have hB15_179 := hB15_162.fr1 hF173 (by omega)
    refine V.nt (k165 _ _ ?_)
    refine V.sg fun K182 k183 => ?_
    refine V.run h174 [(0, .bs hB172 0 [.int .i64 k, .string s, .slice Al l.length cl, .slice Az 40 cz, .slice Ah 40 ch])] 1 1 0 [(27, .agg #[.int .i64 k, .string s, .slice Al l.length cl, .slice Az 40 cz, .slice Ah 40 ch])] fun a h187 => ?_
    refine V.go (V.stn b13 0 (.agg #[.int .i64 k, .string s, .slice Al l.length cl, .slice Az 40 cz, .slice Ah 40 ch]) [.int .i64 k, .string s, .slice Al l.length cl, .slice Az 40 cz, .slice Ah 40 ch] h187.e h187.e rfl rfl (by kernel_rfl) hB15_179 (by simp) [.int .i64 k, .string s, .slice Al l.length cl, .slice Az 40 cz, .slice Ah 40 ch] rfl ?_)
    intro w184 hB185 hF186 hsw184
    have hF_188 := hF_175.own hF186 (by simp <;> omega)
    refine V.nt (k183 _ _ ?_)
    refine V.ret ?_
    refine V.retC h187.sd rfl _ (h187.e (v := (.pointer (some ⟨b13, 0, none⟩)))) (V.run_loadVar_agg (cs := [.int .i64 k, .string s, .slice Al l.length cl, .slice Az 40 cz, .slice Ah 40 ch]) (by kernel_rfl) (blk_cells hB185 0 _ rfl)) ?_
    exact ⟨few_eq (by rw [List.length_take]; omega) (by rw [List.length_take]; omega) (by rw [List.length_take]; omega), hF_188⟩
   ·
    refine V.skip ?_
    refine V.then_n (k165 _ _ ?_)
    refine V.sg fun K195 k196 => ?_
    refine V.run h168 [(0, .bs hB155 0 [.int .i64 k, .string s, .slice Al l.length cl, .slice Az 40 cz, .slice Ah h.length ch])] 1 1 0 [(27, .agg #[.int .i64 k, .string s, .slice Al l.length cl, .slice Az 40 cz, .slice Ah h.length ch])] fun a h200 => ?_
    refine V.go (V.stn b13 0 (.agg #[.int .i64 k, .string s, .slice Al l.length cl, .slice Az 40 cz, .slice Ah h.length ch]) [.int .i64 k, .string s, .slice Al l.length cl, .slice Az 40 cz, .slice Ah h.length ch] h200.e h200.e rfl rfl (by kernel_rfl) hB15_162 (by simp) [.int .i64 k, .string s, .slice Al l.length cl, .slice Az 40 cz, .slice Ah h.length ch] rfl ?_)
    intro w197 hB198 hF199 hsw197
    have hF_201 := hF_158.own hF199 (by simp <;> omega)
    refine V.nt (k196 _ _ ?_)
    refine V.ret ?_
    refine V.retC h200.sd rfl _ (h200.e (v := (.pointer (some ⟨b13, 0, none⟩)))) (V.run_loadVar_agg (cs := [.int .i64 k, .string s, .slice Al l.length cl, .slice Az 40 cz, .slice Ah h.length ch]) (by kernel_rfl) (blk_cells hB198 0 _ rfl)) ?_
    exact ⟨few_eq (by rw [List.length_take]; omega) (by rw [List.length_take]; omega) (by rw [List.length_take]; omega), hF_201⟩
  ·
   refine V.skip ?_
   refine V.then_n (k148 _ _ ?_)
   refine V.seq fun K207 k208 => ?_
   refine V.sr h151 [(1, .b hB6_21 4)] 19 21 [(22, .bool (decide (((h.length : Nat) : Int) > 40)))] fun a h211 => ?_
   refine V.cp h211 (((h.length : Nat) : Int) > 40) (fun ht212 => ?_) (fun ht212 => ?_)
   ·
    have hS213 := hSh_20.tk (i := 40) (by omega)
    refine V.rg ?_
    refine V.run h211 [(1, .b hB6_21 4), (0, .cut0 Ah h.length ch 40 40 2)] 4 23 24 [(25, .slice Ah 40 ch), (26, .pointer (some ⟨b4, 4, none⟩))] fun a h217 => ?_
    refine V.go (V.stn b4 4 (.slice Ah 40 ch) [.slice Ah 40 ch] h217.e h217.e rfl rfl (by kernel_rfl) hB6_21 (by simp) [.int .i64 k, .string s, .slice Al l.length cl, .slice Az z.length cz, .slice Ah 40 ch] rfl ?_)
    intro w214 hB215 hF216 hsw214
    have hF_218 := hF_17.own hF216 (by simp <;> omega)
    have hB15_222 := hB15.fr1 hF216 (by omega)
    refine V.nt (k208 _ _ ?_)
    refine V.sg fun K224 k225 => ?_
    refine V.run h217 [(0, .bs hB215 0 [.int .i64 k, .string s, .slice Al l.length cl, .slice Az z.length cz, .slice Ah 40 ch])] 1 1 0 [(27, .agg #[.int .i64 k, .string s, .slice Al l.length cl, .slice Az z.length cz, .slice Ah 40 ch])] fun a h229 => ?_
    refine V.go (V.stn b13 0 (.agg #[.int .i64 k, .string s, .slice Al l.length cl, .slice Az z.length cz, .slice Ah 40 ch]) [.int .i64 k, .string s, .slice Al l.length cl, .slice Az z.length cz, .slice Ah 40 ch] h229.e h229.e rfl rfl (by kernel_rfl) hB15_222 (by simp) [.int .i64 k, .string s, .slice Al l.length cl, .slice Az z.length cz, .slice Ah 40 ch] rfl ?_)
    intro w226 hB227 hF228 hsw226
    have hF_230 := hF_218.own hF228 (by simp <;> omega)
    refine V.nt (k225 _ _ ?_)
    refine V.ret ?_
    refine V.retC h229.sd rfl _ (h229.e (v := (.pointer (some ⟨b13, 0, none⟩)))) (V.run_loadVar_agg (cs := [.int .i64 k, .string s, .slice Al l.length cl, .slice Az z.length cz, .slice Ah 40 ch]) (by kernel_rfl) (blk_cells hB227 0 _ rfl)) ?_
    exact ⟨few_eq (by rw [List.length_take]; omega) (by rw [List.length_take]; omega) (by rw [List.length_take]; omega), hF_230⟩
   ·
    refine V.skip ?_
    refine V.then_n (k208 _ _ ?_)
    refine V.sg fun K236 k237 => ?_
    refine V.run h211 [(0, .bs hB6_21 0 [.int .i64 k, .string s, .slice Al l.length cl, .slice Az z.length cz, .slice Ah h.length ch])] 1 1 0 [(27, .agg #[.int .i64 k, .string s, .slice Al l.length cl, .slice Az z.length cz, .slice Ah h.length ch])] fun a h241 => ?_
    refine V.go (V.stn b13 0 (.agg #[.int .i64 k, .string s, .slice Al l.length cl, .slice Az z.length cz, .slice Ah h.length ch]) [.int .i64 k, .string s, .slice Al l.length cl, .slice Az z.length cz, .slice Ah h.length ch] h241.e h241.e rfl rfl (by kernel_rfl) hB15 (by simp) [.int .i64 k, .string s, .slice Al l.length cl, .slice Az z.length cz, .slice Ah h.length ch] rfl ?_)
    intro w238 hB239 hF240 hsw238
    have hF_242 := hF_17.own hF240 (by simp <;> omega)
    refine V.nt (k237 _ _ ?_)
    refine V.ret ?_
    refine V.retC h241.sd rfl _ (h241.e (v := (.pointer (some ⟨b13, 0, none⟩)))) (V.run_loadVar_agg (cs := [.int .i64 k, .string s, .slice Al l.length cl, .slice Az z.length cz, .slice Ah h.length ch]) (by kernel_rfl) (blk_cells hB239 0 _ rfl)) ?_
    exact ⟨few_eq (by rw [List.length_take]; omega) (by rw [List.length_take]; omega) (by rw [List.length_take]; omega), hF_242⟩
/-! ### The variables that are laid; numbers -/
structure Vs (w : World) : Prop where
  lo : 8 ≤ w.heap.size
  tab : Lib.TabIs Tryz.prog w "internal/strconv.uint64pow10" .u64 Lib.pow10Tab
  syn : ∃ tp p, w.var? Tryz.prog "strconv.ErrSyntax" = some #[.iface tp p]
  ran : ∃ tp p, w.var? Tryz.prog "strconv.ErrRange" = some #[.iface tp p]
  mx : ∃ m, w.cell? ⟨0, 0, none⟩ = some (.int .i64 m)
theorem var_fr {w w1 : World} {n : String} {cs : Array Value} (h : w.var? Tryz.prog n = some cs) (f : Fr [] w w1) : w1.var? Tryz.prog n = some cs := by
  unfold World.var? at h ⊢
  obtain ⟨g, hg, h2⟩ := Option.bind_eq_some_iff.1 h
  refine Option.bind_eq_some_iff.2 ⟨g, hg, ?_⟩
  have hlt : g < w.heap.size := Nat.lt_of_not_le fun hle => by rw [Array.getElem?_eq_none hle] at h2; cases h2
  rw [f.block g hlt (by simp)]; exact h2
theorem cell_fr {w w1 : World} {a : Addr} {v : Value} (h : w.cell? a = some v) (f : Fr [] w w1) : w1.cell? a = some v := by
  have hlt : a.block < w.heap.size := Nat.lt_of_not_le fun hle => by unfold World.cell? at h; rw [Array.getElem?_eq_none hle] at h; cases h
  exact (World.cell?_of_block (w := w) (f.block _ hlt (by simp))).trans h
theorem Vs.fr {w w1 : World} (h : Vs w) (f : Fr [] w w1) : Vs w1 := by
  obtain ⟨tp, p, hs⟩ := h.syn
  obtain ⟨tq, q, hr⟩ := h.ran
  obtain ⟨m, hm⟩ := h.mx
  exact ⟨Nat.le_trans h.lo f.size, var_fr h.tab f, ⟨tp, p, var_fr hs f⟩, ⟨tq, q, var_fr hr f⟩, m, cell_fr hm f⟩
theorem var_bel {w w1 : World} {n : String} {cs : Array Value} {g B : Nat} (hg : Tryz.prog.globalNamed n = some g) (hlt : g < B) (h : w.var? Tryz.prog n = some cs) (f : Below B w w1) : w1.var? Tryz.prog n = some cs := by
  unfold World.var? at h ⊢
  rw [hg] at h ⊢
  show (match w1.heap[g]? with | some (.cells cs _ _) => some cs | _ => none) = some cs
  rw [f.block g hlt]; exact h
theorem Vs.bel {w w1 : World} {B : Nat} (h : Vs w) (f : Below B w w1) (hB : 8 ≤ B) : Vs w1 := by
  obtain ⟨tp, p, hs⟩ := h.syn
  obtain ⟨tq, q, hr⟩ := h.ran
  obtain ⟨m, hm⟩ := h.mx
  exact ⟨Nat.le_trans h.lo f.size, var_bel (g := 1) (by kernel_rfl) (by omega) h.tab f, ⟨tp, p, var_bel (g := 2) (by kernel_rfl) (by omega) hs f⟩, ⟨tq, q, var_bel (g := 3) (by kernel_rfl) (by omega) hr f⟩, m, (World.cell?_of_block (w := w) (f.block 0 (by omega))).trans hm⟩
def itoaS (n : Int) : ByteArray := ⟨(Lib.itoa n).toArray⟩
def i64 (n : Int) : Prop := -9223372036854775808 ≤ n ∧ n ≤ 9223372036854775807
theorem itoaS_len {n : Int} (h : i64 n) : (itoaS n).size ≤ 21 := by
  have := Lib.itoa_length_le n h.1 h.2
  show (Lib.itoa n).toArray.size ≤ 21
  simpa using this
theorem fmt_any (w : World) (n : Int) (h : i64 n) (hV : Vs w) : Calls Tryz.prog 126 #[.int .i64 n, .int .i64 10] w fun e w' => e = .returned (.string (itoaS n)) ∧ Fr [] w w' :=
  (Tryz.strconv_FormatInt_10 n h.1 h.2 w hV.tab).mono fun e w' ⟨h1, k, os, h2⟩ => ⟨h1, by
    subst h2
    exact ⟨rfl, rfl, rfl, by simp [Sort.grow], fun i hi _ => by show (w.heap ++ os)[i]? = w.heap[i]?; rw [Array.getElem?_append_left hi]⟩⟩
/-! ### What of a value may be written -/
structure ShV (s : ByteArray) (l : List ByteArray) (z : List (ByteArray × Int)) (h : List (ByteArray × ByteArray)) : Prop where
  s : s.size ≤ 65536
  ll : l.length ≤ 65536
  zl : z.length ≤ 65536
  hl : h.length ≤ 65536
  l : ∀ x ∈ l, x.size ≤ 65536
  z : ∀ x ∈ z, x.1.size ≤ 65536 ∧ i64 x.2
  h : ∀ x ∈ h, x.1.size ≤ 65536 ∧ x.2.size ≤ 65536
theorem at_in {α : Type} (R : Rp α) {l : List α} {i : Nat} (h : i < l.length) : at_ R l (i : Int) ∈ l := by rw [at_el R h]; exact List.getElem_mem h
theorem map_next {α β : Type} (f : α → β) (R : Rp α) {l : List α} {i : Nat} (h : i < l.length) : (l.take (i + 1)).map f = (l.take i).map f ++ [f (at_ R l (i : Int))] := by
  rw [List.take_succ_eq_append_getElem h, List.map_append, at_el R h]; rfl
theorem hexS_len (s : ByteArray) : (hexS s).size ≤ 2 * s.size + 1 := by
  unfold hexS
  split
  · exact Nat.le_add_left ..
  · show (hexL s.data.toList).toArray.size ≤ _
    have h1 := hexL_len s.data.toList
    have h2 : s.data.toList.length = s.size := Array.length_toList
    simp only [List.size_toArray]; omega
def pzS (x : ByteArray × Int) : ByteArray := hexS x.1 ++ ⟨#[58]⟩ ++ itoaS x.2
def phS (x : ByteArray × ByteArray) : ByteArray := hexS x.1 ++ ⟨#[61]⟩ ++ hexS x.2
/-- A value's kind, its parts, as words. -/
def nmD (k : Int) : ByteArray := if k = 1 then ⟨#[115, 116, 114, 105, 110, 103]⟩ else if k = 4 then ⟨#[122, 115, 101, 116]⟩ else if k = 5 then ⟨#[104, 97, 115, 104]⟩ else if k = 3 then ⟨#[115, 101, 116]⟩ else ⟨#[108, 105, 115, 116]⟩
def ptD (k : Int) (s : ByteArray) (l : List ByteArray) (z : List (ByteArray × Int)) (h : List (ByteArray × ByteArray)) : List ByteArray := if k = 1 then [hexS s] else if k = 4 then z.map pzS else if k = 5 then h.map phS else l.map hexS
section
variable {k : Int} {s : ByteArray} {l : List ByteArray} {z : List (ByteArray × Int)} {h : List (ByteArray × ByteArray)}
theorem nm1 (hk : k = 1) : nmD k = ⟨#[115, 116, 114, 105, 110, 103]⟩ ∧ ptD k s l z h = [hexS s] := by subst hk; exact ⟨rfl, rfl⟩
theorem nm4 (hk : k = 4) : nmD k = ⟨#[122, 115, 101, 116]⟩ ∧ ptD k s l z h = z.map pzS := by subst hk; exact ⟨rfl, rfl⟩
theorem nm5 (hk : k = 5) : nmD k = ⟨#[104, 97, 115, 104]⟩ ∧ ptD k s l z h = h.map phS := by subst hk; exact ⟨rfl, rfl⟩
theorem nm3 (hk : k = 3) : nmD k = ⟨#[115, 101, 116]⟩ ∧ ptD k s l z h = l.map hexS := by subst hk; exact ⟨rfl, rfl⟩
theorem nm2 (h1 : ¬ k = 1) (h4 : ¬ k = 4) (h5 : ¬ k = 5) (h3 : ¬ k = 3) : nmD k = ⟨#[108, 105, 115, 116]⟩ ∧ ptD k s l z h = l.map hexS := by
  unfold nmD ptD; rw [if_neg h1, if_neg h4, if_neg h5, if_neg h3, if_neg h1, if_neg h4, if_neg h5]; exact ⟨rfl, rfl⟩
end
theorem ntext_any (w : World) (n : Int) (hn : i64 n) (hV : Vs w) : Calls Tryz.prog 80 #[.int .i64 n] w (fun e w' => e = .returned (.string (itoaS n)) ∧ Fr [] w w') := by
 have hF := Fr.refl [] w
 refine V.en 5 Tryz.func80 fun a h1 => ?_
 refine V.sr h1 [] 2 2 [] fun a h4 => ?_
 refine V.sg fun K5 k6 => ?_
 refine V.run h4 [] 1 1 0 [(3, .int .i64 n)] fun a h7 => ?_
 refine V.cl h7 (Go.Proofs.enters_of Tryz.func126 (by kernel_rfl) rfl) (fmt_any w n hn (hV.fr hF)) ?_
 rintro _ w9 ⟨rfl, hF8⟩
 refine ⟨_, rfl, fun a h10 => ?_⟩
 have hsw9 := hF8.size
 have hF_11 := hF.new hF8
 refine V.re h10 [] 1 0 [(2, .string (itoaS n))] fun a h12 => k6 _ _ ?_
 refine V.ret ?_
 refine V.r1 h12 (.string (itoaS n)) ?_
 exact ⟨rfl, hF_11⟩
theorem words_any (w : World) (k : Int) (s : ByteArray) (Al : Option Addr) (cl : Nat) (l : List ByteArray) (hSl : SlR Rp.str (fun k => k < w.heap.size) w (.slice Al l.length cl) l) (Az : Option Addr) (cz : Nat) (z : List (ByteArray × Int)) (hSz : SlR scR (fun k => k < w.heap.size) w (.slice Az z.length cz) z) (Ah : Option Addr) (ch : Nat) (h : List (ByteArray × ByteArray)) (hSh : SlR fdR (fun k => k < w.heap.size) w (.slice Ah h.length ch) h) (hsh : ShV s l z h) (hV : Vs w) : Calls Tryz.prog 81 #[.agg #[.int .i64 k, .string s, .slice Al l.length cl, .slice Az z.length cz, .slice Ah h.length ch]] w (fun e w' => ∃ A c, e = .returned (.tuple #[.string (nmD k), .slice A (ptD k s l z h).length c]) ∧ OwR Rp.str NoZ w' w.heap.size 9 (.slice A (ptD k s l z h).length c) (ptD k s l z h) ∧ Fr [] w w') := by
 have hF := Fr.refl [] w
 have hlit1 : (⟨#[58]⟩ : ByteArray).size = 1 := rfl
 have hlit2 : (⟨#[61]⟩ : ByteArray).size = 1 := rfl
 have hb0 := hsh.s
 have hb1 := hsh.ll
 have hb2 := hsh.zl
 have hb3 := hsh.hl
 refine V.en 81 Tryz.func81 fun a h1 => ?_
 refine V.sg fun K2 k3 => ?_
 refine V.go (V.mk [(0, .agg #[.int .i64 k, .string s, .slice Al l.length cl, .slice Az z.length cz, .slice Ah h.length ch])] ⟨h1.e, trivial⟩ (by kernel_rfl) [.int .i64 k, .string s, .slice Al l.length cl, .slice Az z.length cz, .slice Ah h.length ch] 46 (fun b => .pointer (some ⟨b, 0, none⟩)) (by kernel_rfl) ?_)
 intro w5 b4 heb4 hB6 hF7 hsb4
 have hF_8 := hF.new hF7
 have hSl_9 := hSl.fr0 hF7
 have hSz_10 := hSz.fr0 hF7
 have hSh_11 := hSh.fr0 hF7
 refine V.pt h1 fun a h12 => ?_
 refine V.re h12 [] 2 3 [] fun a h13 => k3 _ _ ?_
 refine V.sr h13 [] 1 0 [(4, .slice none 0 0)] fun a h16 => ?_
 refine V.sr h16 [] 1 0 [(5, .string ⟨#[108, 105, 115, 116]⟩)] fun a h19 => ?_
 refine V.seq fun K20 k21 => ?_
 refine V.sr h19 [(1, .b hB6 0)] 12 12 [(13, .int .i64 k)] fun a h24 => ?_
 refine V.block ?_
 refine V.seq fun K25 k26 => ?_
 refine V.block ?_
 refine V.seq fun K27 k28 => ?_
 refine V.block ?_
 refine V.seq fun K29 k30 => ?_
 refine V.block ?_
 refine V.seq fun K31 k32 => ?_
 refine V.block ?_
 refine V.seq fun K33 k34 => ?_
 refine V.block ?_
 refine V.seq fun K35 k36 => ?_
 refine V.seq fun K37 k38 => ?_
 refine V.sr h24 [(0, .eq k 1)] 15 15 [(14, .bool (decide (k = 1)))] fun a h41 => ?_
 refine V.cp h41 (k = 1) (fun ht42 => ?_) (fun ht42 => ?_)
 ·
  refine V.exit (V.then_e (V.then_e (V.blk_hit ?_)))
  refine V.then_n (k34 _ _ ?_)
  refine V.seq fun K43 k44 => ?_
  refine V.sg fun K45 k46 => ?_
  refine V.run h41 [(1, .b hB6 1)] 2 22 22 [(23, .string s)] fun a h47 => ?_
  have hxl49 := hexS_len s
  refine V.cl h47 (Go.Proofs.enters_of Tryz.func83 (by kernel_rfl) rfl) (hex_any w5 s (by omega)) ?_
  rintro _ w50 ⟨rfl, hF48⟩
  refine ⟨_, rfl, fun a h51 => ?_⟩
  have hsw50 := hF48.size
  have hF_52 := hF_8.new hF48
  refine V.go (V.mk [(24, .string (hexS s))] ⟨h51.e, trivial⟩ (by kernel_rfl) [.string (hexS s)] 9 (fun b => .slice (some ⟨b, 0, none⟩) 1 1) (by kernel_rfl) ?_)
  intro w58 b57 heb57 hB59 hF60 hsb57
  have hF_61 := hF_52.new hF60
  refine V.pt h51 fun a h66 => ?_
  refine V.re h66 [] 1 0 [(2, .string ⟨#[115, 116, 114, 105, 110, 103]⟩), (3, .slice (some ⟨b57, 0, none⟩) 1 1)] fun a h67 => k46 _ _ ?_
  refine V.ret (V.then_r (V.blk_r (V.then_r (V.blk_r (V.then_r (V.blk_r (V.then_r (V.blk_r (V.then_r (V.blk_r (V.then_r ?_)))))))))))
  refine V.r2 h67 (.string ⟨#[115, 116, 114, 105, 110, 103]⟩) (.slice (some ⟨b57, 0, none⟩) 1 1) ?_
  obtain ⟨hq1, hq2⟩ := nm1 (k := k) (s := s) (l := l) (z := z) (h := h) (by assumption)
  rw [hq1, hq2]
  exact ⟨_, _, rfl, OwR.mkS (cur := [.string (hexS s)]) hB59 rfl (Nat.le_refl _) (by decide) (by omega) rfl, hF_61⟩
 ·
  refine V.skip ?_
  refine V.then_n (k38 _ _ ?_)
  refine V.seq fun K68 k69 => ?_
  refine V.sr h41 [(0, .eq k 4)] 17 17 [(16, .bool (decide (k = 4)))] fun a h72 => ?_
  refine V.cp h72 (k = 4) (fun ht73 => ?_) (fun ht73 => ?_)
  ·
   refine V.exit (V.then_e (V.then_e ?_))
   refine V.blk_miss rfl ?_
   refine V.then_e (V.blk_hit ?_)
   refine V.then_n (k32 _ _ ?_)
   refine V.seq fun K74 k75 => ?_
   refine V.seq fun K76 k77 => ?_
   refine V.sr h72 [(1, .b hB6 3)] 26 26 [(27, .slice Az z.length cz), (28, .int .i64 ((z.length : Nat) : Int)), (29, .int .i64 0)] fun a h80 => ?_
   refine V.block ?_
   refine V.loop3 (fun (i : Nat) (A2 : Option Addr) (c2 : Nat) a_ w_ => En 81 [] a_ [(1, .pointer (some ⟨b4, 0, none⟩)), (4, .slice A2 (((z.take i).map pzS).length) c2), (5, .string ⟨#[108, 105, 115, 116]⟩), (27, .slice Az z.length cz), (28, .int .i64 ((z.length : Nat) : Int)), (29, .int .i64 (i : Int))] ∧ OwR Rp.str NoZ w_ (b4 + 1) 9 (.slice A2 (((z.take i).map pzS).length) c2) ((z.take i).map pzS) ∧ Fr [] w w_ ∧ SlR Rp.str (fun k => k < w.heap.size) w_ (.slice Al l.length cl) l ∧ SlR scR (fun k => k < w.heap.size) w_ (.slice Az z.length cz) z ∧ SlR fdR (fun k => k < w.heap.size) w_ (.slice Ah h.length ch) h ∧ Blk w_ b4 [.int .i64 k, .string s, .slice Al l.length cl, .slice Az z.length cz, .slice Ah h.length ch] 46 ∧ (i ≤ z.length)) (fun (i : Nat) (A2 : Option Addr) (c2 : Nat) => z.length - i) 0 none 0 ?_ ?_
   ·
    refine ⟨((h80.eq 4 (v := (.slice none 0 0)) (u := (.slice none (((z.take 0).map pzS).length) 0)) (rfl)).eq 29 (v := (.int .i64 0)) (u := (.int .i64 (0 : Int))) (V.int_eq (by omega))).only _, (OwR.nil ..), hF_8, hSl_9, hSz_10, hSh_11, hB6, (by omega)⟩
   ·
    rintro i A2 c2 a81 w82 ⟨h83, hO_84, hF_85, hSl_86, hSz_87, hSh_88, hB6_89, hi⟩
    have hfs90 := hF_85.size
    have hlt91 := hB6_89.lt
    have hfl : ((z.take i).map pzS).length = i := by rw [List.length_map, List.length_take]; omega
    refine V.sr h83 [] 1 0 [(30, .bool (decide ((i : Int) < ((z.length : Nat) : Int))))] fun a h94 => ?_
    refine V.seq fun K95 k96 => ?_
    refine V.cp h94 ((i : Int) < ((z.length : Nat) : Int)) (fun ht97 => ?_) (fun ht97 => ?_)
    ·
     refine V.skip ?_
     refine V.then_n (k96 _ _ ?_)
     refine V.seq fun K98 k99 => ?_
     refine V.block ?_
     obtain ⟨g102, o103, hA104, hA104l, hA104z⟩ := hSz_87.addr (by omega)
     obtain ⟨cs105, hok106, hE107⟩ := hSz_87.els hA104 (i : Int) (by omega) (by omega)
     obtain rfl : cs105 = [.string (at_ scR z (i : Int)).1, .int .i64 (at_ scR z (i : Int)).2] := hok106
     refine V.sg fun K100 k101 => ?_
     refine V.run h94 [(0, .ix g102 o103 z.length cz .i64 (i : Int) 2 hA104), (0, .ls ⟨g102, o103 + (i : Int).toNat * 2, none⟩ [.string ((at_ scR z (i : Int)).1), .int .i64 ((at_ scR z (i : Int)).2)] (hE107.cells 0 _ rfl))] 2 31 31 [(32, .agg #[.string ((at_ scR z (i : Int)).1), .int .i64 ((at_ scR z (i : Int)).2)])] fun a h112 => ?_
     refine V.go (V.mk [] trivial (by kernel_rfl) [.string ⟨#[]⟩, .int .i64 0] 98 (fun b => .pointer (some ⟨b, 0, none⟩)) (by kernel_rfl) ?_)
     intro w109 b108 heb108 hB110 hF111 hsb108
     have hO_113 := hO_84.fr0 hF111
     have hF_114 := hF_85.new hF111
     have hSl_115 := hSl_86.fr0 hF111
     have hSz_116 := hSz_87.fr0 hF111
     have hSh_117 := hSh_88.fr0 hF111
     have hB6_118 := hB6_89.fr0 hF111
     refine V.pt h112 fun a h120 => ?_
     refine V.go (V.stn b108 0 (.agg #[.string ((at_ scR z (i : Int)).1), .int .i64 ((at_ scR z (i : Int)).2)]) [.string ((at_ scR z (i : Int)).1), .int .i64 ((at_ scR z (i : Int)).2)] h120.e h120.e rfl rfl (by kernel_rfl) hB110 (by simp) [.string ((at_ scR z (i : Int)).1), .int .i64 ((at_ scR z (i : Int)).2)] rfl ?_)
     intro w121 hB122 hF123 hsw121
     have hO_124 := hO_113.frn hF123 (fun h => h) (by first | exact own_ne hO_113 (by omega) | exact own_ne2 hO_84 (by omega))
     have hF_125 := hF_114.own hF123 (by simp <;> omega)
     have hSl_126 := hSl_115.fr hF123 (by simp <;> omega)
     have hSz_127 := hSz_116.fr hF123 (by simp <;> omega)
     have hSh_128 := hSh_117.fr hF123 (by simp <;> omega)
     have hB6_129 := hB6_118.fr1 hF123 (by omega)
     refine V.nt (k101 _ _ ?_)
     have hxe := hsh.z _ (at_in scR (i := i) (by omega : i < z.length))
     obtain ⟨hxe, hni⟩ := hxe
     refine V.pl [([0,1,2,5,6],some (3,[6])),([4],some (7,[])),([8],some (9,[])),([],some (10,[])),([11],none)] fun w131 hF132 hsw131 => ?_
     have hO_133 := hO_124.fr0 hF132
     have hF_134 := hF_125.new hF132
     have hSl_135 := hSl_126.fr0 hF132
     have hSz_136 := hSz_127.fr0 hF132
     have hSh_137 := hSh_128.fr0 hF132
     have hB6_138 := hB6_129.fr0 hF132
     have hB122_140 := hB122.fr0 hF132
     refine V.pe h120 [(2, .b hB122_140 0), (1, .b hB122_140 1)] 34 34 [(33, .slice A2 (((z.take i).map pzS).length) c2), (35, .string ((at_ scR z (i : Int)).1)), (38, .pointer (some ⟨b108, 1, none⟩)), (39, .int .i64 ((at_ scR z (i : Int)).2))] fun a h141 => ?_
     have hxl143 := hexS_len ((at_ scR z (i : Int)).1)
     refine V.cl h141 (Go.Proofs.enters_of Tryz.func83 (by kernel_rfl) rfl) (hex_any w131 ((at_ scR z (i : Int)).1) (by omega)) ?_
     rintro _ w144 ⟨rfl, hF142⟩
     refine ⟨_, rfl, fun a h145 => ?_⟩
     have hsw144 := hF142.size
     have hO_146 := hO_133.fr0 hF142
     have hF_147 := hF_134.new hF142
     have hSl_148 := hSl_135.fr0 hF142
     have hSz_149 := hSz_136.fr0 hF142
     have hSh_150 := hSh_137.fr0 hF142
     have hB6_151 := hB6_138.fr0 hF142
     have hB122_153 := hB122_140.fr0 hF142
     refine V.eh (fun _ => held_blk (n := 1) (hx := (h141.e (v := (.pointer (some ⟨b108, 1, none⟩))))) hB122_140 hB122_153 (by kernel_rfl) rfl (by simp only [List.length]; omega)) ?_
     refine V.pe0 ?_
     obtain ⟨cat154, hcat155⟩ : ∃ u_ : ByteArray, u_ = (hexS ((at_ scR z (i : Int)).1)) ++ (⟨#[58]⟩ : ByteArray) := ⟨_, rfl⟩
     have hszcat154 : cat154.size = (hexS ((at_ scR z (i : Int)).1)).size + (⟨#[58]⟩ : ByteArray).size := by rw [hcat155, ByteArray.size_append]
     refine V.go (V.catg hcat155 (h145.e (v := (.string (hexS ((at_ scR z (i : Int)).1))))) evc (by omega) ?_)
     refine V.pt h145 fun a h156 => ?_
     refine V.se h156 [] 1 0 [] fun a h157 => ?_
     have hil159 := itoaS_len (n := ((at_ scR z (i : Int)).2)) hni
     refine V.cl h157 (Go.Proofs.enters_of Tryz.func80 (by kernel_rfl) rfl) (ntext_any w144 ((at_ scR z (i : Int)).2) hni (hV.fr hF_147)) ?_
     rintro _ w160 ⟨rfl, hF158⟩
     refine ⟨_, rfl, fun a h161 => ?_⟩
     have hsw160 := hF158.size
     have hO_162 := hO_146.fr0 hF158
     have hF_163 := hF_147.new hF158
     have hSl_164 := hSl_148.fr0 hF158
     have hSz_165 := hSz_149.fr0 hF158
     have hSh_166 := hSh_150.fr0 hF158
     have hB6_167 := hB6_151.fr0 hF158
     refine V.eh trivial ?_
     refine V.pe0 ?_
     obtain ⟨cat170, hcat171⟩ : ∃ u_ : ByteArray, u_ = cat154 ++ (itoaS ((at_ scR z (i : Int)).2)) := ⟨_, rfl⟩
     have hszcat170 : cat170.size = cat154.size + (itoaS ((at_ scR z (i : Int)).2)).size := by rw [hcat171, ByteArray.size_append]
     refine V.go (V.catg hcat171 (h161.e (v := (.string cat154))) (h161.e (v := (.string (itoaS ((at_ scR z (i : Int)).2))))) (by omega) ?_)
     refine V.pt h161 fun a h172 => ?_
     refine V.se h172 [] 1 0 [] fun a h173 => ?_
     refine V.go (V.mk [(41, .string cat170)] ⟨h173.e, trivial⟩ (by kernel_rfl) [.string cat170] 9 (fun b => .slice (some ⟨b, 0, none⟩) 1 1) (by kernel_rfl) ?_)
     intro w175 b174 heb174 hB176 hF177 hsb174
     have hO_178 := hO_162.fr0 hF177
     have hF_179 := hF_163.new hF177
     have hSl_180 := hSl_164.fr0 hF177
     have hSz_181 := hSz_165.fr0 hF177
     have hSh_182 := hSh_166.fr0 hF177
     have hB6_183 := hB6_167.fr0 hF177
     refine V.pt h173 fun a h186 => ?_
     refine V.eh trivial ?_
     refine V.pe h186 [] 1 0 [] fun a h187 => ?_
     refine V.go (V.app (R := Rp.str) (ys := ([cat170])) (news := [.string cat170]) (h187.e (v := (.slice A2 (((z.take i).map pzS).length) c2))) ⟨b174, 0, none⟩ 1 1 (h187.e (v := (.slice (some ⟨b174, 0, none⟩) 1 1))) (by kernel_rfl) (info9) (by kernel_rfl) (by decide) hO_178 rfl ⟨_, [], rfl, rfl, rfl⟩ (blk_cells hB176 0 _ rfl) (by first | omega | (simp; omega)) (by decide) (by omega) ?_)
     intro A188 c189 w190 hO191z hF192 hatw190
     have hsw190 := hF192.size
     have hF_193 := hF_179.own hF192 (own_ge hO_178 (by omega))
     have hSl_194 := hSl_180.fr hF192 (by intro b hb hz; have := own_ge hO_178 (Nat.le_refl _) b hb; (try dsimp only at hz); omega)
     have hSz_195 := hSz_181.fr hF192 (by intro b hb hz; have := own_ge hO_178 (Nat.le_refl _) b hb; (try dsimp only at hz); omega)
     have hSh_196 := hSh_182.fr hF192 (by intro b hb hz; have := own_ge hO_178 (Nat.le_refl _) b hb; (try dsimp only at hz); omega)
     have hB6_197 := hB6_183.fr hF192 (by first | exact own_notin hO_178 (by omega) | exact own_notin2 hO_84 (by omega))
     have hO191 := hO191z.zone (Z' := NoZ) (fun _ _ q => q.1) (fun _ _ q => q)
     refine V.pt h187 fun a h200 => ?_
     refine V.eh trivial ?_
     refine V.pz h200 [] 1 0 [(4, .slice A188 ((((z.take i).map pzS).length) + 1) c189)] fun a h201 => ?_
     refine V.blk_n ?_
     refine V.then_n (k99 _ _ ?_)
     refine V.rr h201 [(0, .i ((i : Int) + 1))] 44 44 [(29, .int .i64 ((i : Int) + 1))] fun a h202 => ?_
     refine V.then_n ?_
     have hqs := map_next pzS scR (show i < z.length by omega)
     rw [show pzS (at_ scR z (i : Int)) = _ from (by rw [hcat171, hcat155]; rfl : pzS (at_ scR z (i : Int)) = cat170)] at hqs
     refine ⟨i + 1, A188, c189, by omega, ?_⟩
     refine ⟨((h202.eq 4 (v := (.slice A188 ((((z.take i).map pzS).length) + 1) c189)) (u := (.slice A188 (((z.take (i + 1)).map pzS).length) c189)) (V.sl_eq (by rw [hqs]; simp))).eq 29 (v := (.int .i64 ((i : Int) + 1))) (u := (.int .i64 ((i + 1) : Int))) (V.int_eq (by omega))).only _, (by rw [hqs]; simpa using hO191), hF_193, hSl_194, hSz_195, hSh_196, hB6_197, (by omega)⟩
    ·
     refine V.exit (V.then_e (V.then_e (V.blk_hit ?_)))
     refine V.then_n (k77 _ _ ?_)
     refine V.sr h94 [] 45 45 [(2, .string ⟨#[122, 115, 101, 116]⟩), (3, .slice A2 (((z.take i).map pzS).length) c2)] fun a h205 => ?_
     refine V.ret (V.then_r (V.blk_r (V.then_r (V.blk_r (V.then_r (V.blk_r (V.then_r (V.blk_r (V.then_r ?_)))))))))
     refine V.r2 h205 (.string ⟨#[122, 115, 101, 116]⟩) (.slice A2 (((z.take i).map pzS).length) c2) ?_
     obtain ⟨hq1, hq2⟩ := nm4 (k := k) (s := s) (l := l) (z := z) (h := h) (by assumption)
     have hqi : (z.take i).map pzS = z.map pzS := by rw [List.take_of_length_le (by omega)]
     rw [hq1, hq2, ← hqi]
     exact ⟨_, _, rfl, hO_84.rebase (by omega), hF_85⟩
  ·
   refine V.skip ?_
   refine V.then_n (k69 _ _ ?_)
   refine V.seq fun K206 k207 => ?_
   refine V.sr h72 [(0, .eq k 5)] 19 19 [(18, .bool (decide (k = 5)))] fun a h210 => ?_
   refine V.cp h210 (k = 5) (fun ht211 => ?_) (fun ht211 => ?_)
   ·
    refine V.exit (V.then_e (V.then_e ?_))
    refine V.blk_miss rfl ?_
    refine V.then_e ?_
    refine V.blk_miss rfl ?_
    refine V.then_e (V.blk_hit ?_)
    refine V.then_n (k30 _ _ ?_)
    refine V.seq fun K212 k213 => ?_
    refine V.seq fun K214 k215 => ?_
    refine V.sr h210 [(1, .b hB6 4)] 46 46 [(47, .slice Ah h.length ch), (48, .int .i64 ((h.length : Nat) : Int)), (49, .int .i64 0)] fun a h218 => ?_
    refine V.block ?_
    refine V.loop3 (fun (i : Nat) (A2 : Option Addr) (c2 : Nat) a_ w_ => En 81 [] a_ [(1, .pointer (some ⟨b4, 0, none⟩)), (4, .slice A2 (((h.take i).map phS).length) c2), (5, .string ⟨#[108, 105, 115, 116]⟩), (47, .slice Ah h.length ch), (48, .int .i64 ((h.length : Nat) : Int)), (49, .int .i64 (i : Int))] ∧ OwR Rp.str NoZ w_ (b4 + 1) 9 (.slice A2 (((h.take i).map phS).length) c2) ((h.take i).map phS) ∧ Fr [] w w_ ∧ SlR Rp.str (fun k => k < w.heap.size) w_ (.slice Al l.length cl) l ∧ SlR scR (fun k => k < w.heap.size) w_ (.slice Az z.length cz) z ∧ SlR fdR (fun k => k < w.heap.size) w_ (.slice Ah h.length ch) h ∧ Blk w_ b4 [.int .i64 k, .string s, .slice Al l.length cl, .slice Az z.length cz, .slice Ah h.length ch] 46 ∧ (i ≤ h.length)) (fun (i : Nat) (A2 : Option Addr) (c2 : Nat) => h.length - i) 0 none 0 ?_ ?_
    ·
     refine ⟨((h218.eq 4 (v := (.slice none 0 0)) (u := (.slice none (((h.take 0).map phS).length) 0)) (rfl)).eq 49 (v := (.int .i64 0)) (u := (.int .i64 (0 : Int))) (V.int_eq (by omega))).only _, (OwR.nil ..), hF_8, hSl_9, hSz_10, hSh_11, hB6, (by omega)⟩
    ·
     rintro i A2 c2 a219 w220 ⟨h221, hO_222, hF_223, hSl_224, hSz_225, hSh_226, hB6_227, hi⟩
     have hfs228 := hF_223.size
     have hlt229 := hB6_227.lt
     have hfl : ((h.take i).map phS).length = i := by rw [List.length_map, List.length_take]; omega
     refine V.sr h221 [] 1 0 [(50, .bool (decide ((i : Int) < ((h.length : Nat) : Int))))] fun a h232 => ?_
     refine V.seq fun K233 k234 => ?_
     refine V.cp h232 ((i : Int) < ((h.length : Nat) : Int)) (fun ht235 => ?_) (fun ht235 => ?_)
     ·
      refine V.skip ?_
      refine V.then_n (k234 _ _ ?_)
      refine V.seq fun K236 k237 => ?_
      refine V.block ?_
      obtain ⟨g240, o241, hA242, hA242l, hA242z⟩ := hSh_226.addr (by omega)
      obtain ⟨cs243, hok244, hE245⟩ := hSh_226.els hA242 (i : Int) (by omega) (by omega)
      obtain rfl : cs243 = [.string (at_ fdR h (i : Int)).1, .string (at_ fdR h (i : Int)).2] := hok244
      refine V.sg fun K238 k239 => ?_
      refine V.run h232 [(0, .ix g240 o241 h.length ch .i64 (i : Int) 2 hA242), (0, .ls ⟨g240, o241 + (i : Int).toNat * 2, none⟩ [.string ((at_ fdR h (i : Int)).1), .string ((at_ fdR h (i : Int)).2)] (hE245.cells 0 _ rfl))] 2 51 51 [(52, .agg #[.string ((at_ fdR h (i : Int)).1), .string ((at_ fdR h (i : Int)).2)])] fun a h250 => ?_
      refine V.go (V.mk [] trivial (by kernel_rfl) [.string ⟨#[]⟩, .string ⟨#[]⟩] 101 (fun b => .pointer (some ⟨b, 0, none⟩)) (by kernel_rfl) ?_)
      intro w247 b246 heb246 hB248 hF249 hsb246
      have hO_251 := hO_222.fr0 hF249
      have hF_252 := hF_223.new hF249
      have hSl_253 := hSl_224.fr0 hF249
      have hSz_254 := hSz_225.fr0 hF249
      have hSh_255 := hSh_226.fr0 hF249
      have hB6_256 := hB6_227.fr0 hF249
      refine V.pt h250 fun a h258 => ?_
      refine V.go (V.stn b246 0 (.agg #[.string ((at_ fdR h (i : Int)).1), .string ((at_ fdR h (i : Int)).2)]) [.string ((at_ fdR h (i : Int)).1), .string ((at_ fdR h (i : Int)).2)] h258.e h258.e rfl rfl (by kernel_rfl) hB248 (by simp) [.string ((at_ fdR h (i : Int)).1), .string ((at_ fdR h (i : Int)).2)] rfl ?_)
      intro w259 hB260 hF261 hsw259
      have hO_262 := hO_251.frn hF261 (fun h => h) (by first | exact own_ne hO_251 (by omega) | exact own_ne2 hO_222 (by omega))
      have hF_263 := hF_252.own hF261 (by simp <;> omega)
      have hSl_264 := hSl_253.fr hF261 (by simp <;> omega)
      have hSz_265 := hSz_254.fr hF261 (by simp <;> omega)
      have hSh_266 := hSh_255.fr hF261 (by simp <;> omega)
      have hB6_267 := hB6_256.fr1 hF261 (by omega)
      refine V.nt (k239 _ _ ?_)
      have hxe := hsh.h _ (at_in fdR (i := i) (by omega : i < h.length))
      obtain ⟨hxe, hxf⟩ := hxe
      refine V.pl [([0,1,2,5,6],some (3,[6])),([4],some (7,[])),([8],some (9,[])),([],some (10,[])),([11],none)] fun w269 hF270 hsw269 => ?_
      have hO_271 := hO_262.fr0 hF270
      have hF_272 := hF_263.new hF270
      have hSl_273 := hSl_264.fr0 hF270
      have hSz_274 := hSz_265.fr0 hF270
      have hSh_275 := hSh_266.fr0 hF270
      have hB6_276 := hB6_267.fr0 hF270
      have hB260_278 := hB260.fr0 hF270
      refine V.pe h258 [(2, .b hB260_278 0), (1, .b hB260_278 1)] 54 54 [(53, .slice A2 (((h.take i).map phS).length) c2), (55, .string ((at_ fdR h (i : Int)).1)), (58, .pointer (some ⟨b246, 1, none⟩)), (59, .string ((at_ fdR h (i : Int)).2))] fun a h279 => ?_
      have hxl281 := hexS_len ((at_ fdR h (i : Int)).1)
      refine V.cl h279 (Go.Proofs.enters_of Tryz.func83 (by kernel_rfl) rfl) (hex_any w269 ((at_ fdR h (i : Int)).1) (by omega)) ?_
      rintro _ w282 ⟨rfl, hF280⟩
      refine ⟨_, rfl, fun a h283 => ?_⟩
      have hsw282 := hF280.size
      have hO_284 := hO_271.fr0 hF280
      have hF_285 := hF_272.new hF280
      have hSl_286 := hSl_273.fr0 hF280
      have hSz_287 := hSz_274.fr0 hF280
      have hSh_288 := hSh_275.fr0 hF280
      have hB6_289 := hB6_276.fr0 hF280
      have hB260_291 := hB260_278.fr0 hF280
      refine V.eh (fun _ => held_blk (n := 1) (hx := (h279.e (v := (.pointer (some ⟨b246, 1, none⟩))))) hB260_278 hB260_291 (by kernel_rfl) rfl (by simp only [List.length]; omega)) ?_
      refine V.pe0 ?_
      obtain ⟨cat292, hcat293⟩ : ∃ u_ : ByteArray, u_ = (hexS ((at_ fdR h (i : Int)).1)) ++ (⟨#[61]⟩ : ByteArray) := ⟨_, rfl⟩
      have hszcat292 : cat292.size = (hexS ((at_ fdR h (i : Int)).1)).size + (⟨#[61]⟩ : ByteArray).size := by rw [hcat293, ByteArray.size_append]
      refine V.go (V.catg hcat293 (h283.e (v := (.string (hexS ((at_ fdR h (i : Int)).1))))) evc (by omega) ?_)
      refine V.pt h283 fun a h294 => ?_
      refine V.se h294 [] 1 0 [] fun a h295 => ?_
      have hxl297 := hexS_len ((at_ fdR h (i : Int)).2)
      refine V.cl h295 (Go.Proofs.enters_of Tryz.func83 (by kernel_rfl) rfl) (hex_any w282 ((at_ fdR h (i : Int)).2) (by omega)) ?_
      rintro _ w298 ⟨rfl, hF296⟩
      refine ⟨_, rfl, fun a h299 => ?_⟩
      have hsw298 := hF296.size
      have hO_300 := hO_284.fr0 hF296
      have hF_301 := hF_285.new hF296
      have hSl_302 := hSl_286.fr0 hF296
      have hSz_303 := hSz_287.fr0 hF296
      have hSh_304 := hSh_288.fr0 hF296
      have hB6_305 := hB6_289.fr0 hF296
      refine V.eh trivial ?_
      refine V.pe0 ?_
      obtain ⟨cat308, hcat309⟩ : ∃ u_ : ByteArray, u_ = cat292 ++ (hexS ((at_ fdR h (i : Int)).2)) := ⟨_, rfl⟩
      have hszcat308 : cat308.size = cat292.size + (hexS ((at_ fdR h (i : Int)).2)).size := by rw [hcat309, ByteArray.size_append]
      refine V.go (V.catg hcat309 (h299.e (v := (.string cat292))) (h299.e (v := (.string (hexS ((at_ fdR h (i : Int)).2))))) (by omega) ?_)
      refine V.pt h299 fun a h310 => ?_
      refine V.se h310 [] 1 0 [] fun a h311 => ?_
      refine V.go (V.mk [(61, .string cat308)] ⟨h311.e, trivial⟩ (by kernel_rfl) [.string cat308] 9 (fun b => .slice (some ⟨b, 0, none⟩) 1 1) (by kernel_rfl) ?_)
      intro w313 b312 heb312 hB314 hF315 hsb312
      have hO_316 := hO_300.fr0 hF315
      have hF_317 := hF_301.new hF315
      have hSl_318 := hSl_302.fr0 hF315
      have hSz_319 := hSz_303.fr0 hF315
      have hSh_320 := hSh_304.fr0 hF315
      have hB6_321 := hB6_305.fr0 hF315
      refine V.pt h311 fun a h324 => ?_
      refine V.eh trivial ?_
      refine V.pe h324 [] 1 0 [] fun a h325 => ?_
      refine V.go (V.app (R := Rp.str) (ys := ([cat308])) (news := [.string cat308]) (h325.e (v := (.slice A2 (((h.take i).map phS).length) c2))) ⟨b312, 0, none⟩ 1 1 (h325.e (v := (.slice (some ⟨b312, 0, none⟩) 1 1))) (by kernel_rfl) (info9) (by kernel_rfl) (by decide) hO_316 rfl ⟨_, [], rfl, rfl, rfl⟩ (blk_cells hB314 0 _ rfl) (by first | omega | (simp; omega)) (by decide) (by omega) ?_)
      intro A326 c327 w328 hO329z hF330 hatw328
      have hsw328 := hF330.size
      have hF_331 := hF_317.own hF330 (own_ge hO_316 (by omega))
      have hSl_332 := hSl_318.fr hF330 (by intro b hb hz; have := own_ge hO_316 (Nat.le_refl _) b hb; (try dsimp only at hz); omega)
      have hSz_333 := hSz_319.fr hF330 (by intro b hb hz; have := own_ge hO_316 (Nat.le_refl _) b hb; (try dsimp only at hz); omega)
      have hSh_334 := hSh_320.fr hF330 (by intro b hb hz; have := own_ge hO_316 (Nat.le_refl _) b hb; (try dsimp only at hz); omega)
      have hB6_335 := hB6_321.fr hF330 (by first | exact own_notin hO_316 (by omega) | exact own_notin2 hO_222 (by omega))
      have hO329 := hO329z.zone (Z' := NoZ) (fun _ _ q => q.1) (fun _ _ q => q)
      refine V.pt h325 fun a h338 => ?_
      refine V.eh trivial ?_
      refine V.pz h338 [] 1 0 [(4, .slice A326 ((((h.take i).map phS).length) + 1) c327)] fun a h339 => ?_
      refine V.blk_n ?_
      refine V.then_n (k237 _ _ ?_)
      refine V.rr h339 [(0, .i ((i : Int) + 1))] 64 64 [(49, .int .i64 ((i : Int) + 1))] fun a h340 => ?_
      refine V.then_n ?_
      have hqs := map_next phS fdR (show i < h.length by omega)
      rw [show phS (at_ fdR h (i : Int)) = _ from (by rw [hcat309, hcat293]; rfl : phS (at_ fdR h (i : Int)) = cat308)] at hqs
      refine ⟨i + 1, A326, c327, by omega, ?_⟩
      refine ⟨((h340.eq 4 (v := (.slice A326 ((((h.take i).map phS).length) + 1) c327)) (u := (.slice A326 (((h.take (i + 1)).map phS).length) c327)) (V.sl_eq (by rw [hqs]; simp))).eq 49 (v := (.int .i64 ((i : Int) + 1))) (u := (.int .i64 ((i + 1) : Int))) (V.int_eq (by omega))).only _, (by rw [hqs]; simpa using hO329), hF_331, hSl_332, hSz_333, hSh_334, hB6_335, (by omega)⟩
     ·
      refine V.exit (V.then_e (V.then_e (V.blk_hit ?_)))
      refine V.then_n (k215 _ _ ?_)
      refine V.sr h232 [] 65 65 [(2, .string ⟨#[104, 97, 115, 104]⟩), (3, .slice A2 (((h.take i).map phS).length) c2)] fun a h343 => ?_
      refine V.ret (V.then_r (V.blk_r (V.then_r (V.blk_r (V.then_r (V.blk_r (V.then_r ?_)))))))
      refine V.r2 h343 (.string ⟨#[104, 97, 115, 104]⟩) (.slice A2 (((h.take i).map phS).length) c2) ?_
      obtain ⟨hq1, hq2⟩ := nm5 (k := k) (s := s) (l := l) (z := z) (h := h) (by assumption)
      have hqi : (h.take i).map phS = h.map phS := by rw [List.take_of_length_le (by omega)]
      rw [hq1, hq2, ← hqi]
      exact ⟨_, _, rfl, hO_222.rebase (by omega), hF_223⟩
   ·
    refine V.skip ?_
    refine V.then_n (k207 _ _ ?_)
    refine V.sr h210 [(0, .eq k 3)] 21 21 [(20, .bool (decide (k = 3)))] fun a h346 => ?_
    refine V.cp h346 (k = 3) (fun ht347 => ?_) (fun ht347 => ?_)
    ·
     refine V.exit (V.then_e ?_)
     refine V.blk_miss rfl ?_
     refine V.then_e ?_
     refine V.blk_miss rfl ?_
     refine V.then_e ?_
     refine V.blk_miss rfl ?_
     refine V.then_e (V.blk_hit ?_)
     refine V.then_n (k28 _ _ ?_)
     refine V.rr h346 [] 1 0 [(5, .string ⟨#[115, 101, 116]⟩)] fun a h348 => ?_
     refine V.blk_n ?_
     refine V.then_n (k26 _ _ ?_)
     refine V.seq fun K349 k350 => ?_
     refine V.sr h348 [(1, .b hB6 2)] 66 66 [(67, .slice Al l.length cl), (68, .int .i64 ((l.length : Nat) : Int)), (69, .int .i64 0)] fun a h353 => ?_
     refine V.block ?_
     refine V.loop3 (fun (i : Nat) (A2 : Option Addr) (c2 : Nat) a_ w_ => En 81 [] a_ [(4, .slice A2 (((l.take i).map hexS).length) c2), (5, .string ⟨#[115, 101, 116]⟩), (67, .slice Al l.length cl), (68, .int .i64 ((l.length : Nat) : Int)), (69, .int .i64 (i : Int))] ∧ OwR Rp.str NoZ w_ (b4 + 1) 9 (.slice A2 (((l.take i).map hexS).length) c2) ((l.take i).map hexS) ∧ Fr [] w w_ ∧ SlR Rp.str (fun k => k < w.heap.size) w_ (.slice Al l.length cl) l ∧ SlR scR (fun k => k < w.heap.size) w_ (.slice Az z.length cz) z ∧ SlR fdR (fun k => k < w.heap.size) w_ (.slice Ah h.length ch) h ∧ Blk w_ b4 [.int .i64 k, .string s, .slice Al l.length cl, .slice Az z.length cz, .slice Ah h.length ch] 46 ∧ (i ≤ l.length)) (fun (i : Nat) (A2 : Option Addr) (c2 : Nat) => l.length - i) 0 none 0 ?_ ?_
     ·
      refine ⟨((h353.eq 4 (v := (.slice none 0 0)) (u := (.slice none (((l.take 0).map hexS).length) 0)) (rfl)).eq 69 (v := (.int .i64 0)) (u := (.int .i64 (0 : Int))) (V.int_eq (by omega))).only _, (OwR.nil ..), hF_8, hSl_9, hSz_10, hSh_11, hB6, (by omega)⟩
     ·
      rintro i A2 c2 a354 w355 ⟨h356, hO_357, hF_358, hSl_359, hSz_360, hSh_361, hB6_362, hi⟩
      have hfs363 := hF_358.size
      have hlt364 := hB6_362.lt
      have hfl : ((l.take i).map hexS).length = i := by rw [List.length_map, List.length_take]; omega
      refine V.sr h356 [] 1 0 [(70, .bool (decide ((i : Int) < ((l.length : Nat) : Int))))] fun a h367 => ?_
      refine V.seq fun K368 k369 => ?_
      refine V.cp h367 ((i : Int) < ((l.length : Nat) : Int)) (fun ht370 => ?_) (fun ht370 => ?_)
      ·
       refine V.skip ?_
       refine V.then_n (k369 _ _ ?_)
       refine V.seq fun K371 k372 => ?_
       refine V.block ?_
       obtain ⟨g375, o376, hA377, hA377l, hA377z⟩ := hSl_359.addr (by omega)
       obtain ⟨cs378, hok379, hE380⟩ := hSl_359.els hA377 (i : Int) (by omega) (by omega)
       obtain rfl : cs378 = [.string (at_ Rp.str l (i : Int))] := hok379
       refine V.sr h367 [(0, .ix g375 o376 l.length cl .i64 (i : Int) 1 hA377), (0, .l ⟨g375, o376 + (i : Int).toNat * 1, none⟩ (.string (at_ Rp.str l (i : Int))) (hE380.at 0 rfl))] 71 72 [(11, .string (at_ Rp.str l (i : Int)))] fun a h381 => ?_
       have hxe := hsh.l _ (at_in Rp.str (i := i) (by omega : i < l.length))
       refine V.rg ?_
       refine V.run h381 [] 2 1 0 [(73, .slice A2 (((l.take i).map hexS).length) c2), (74, .string (at_ Rp.str l (i : Int)))] fun a h382 => ?_
       have hxl384 := hexS_len (at_ Rp.str l (i : Int))
       refine V.cl h382 (Go.Proofs.enters_of Tryz.func83 (by kernel_rfl) rfl) (hex_any w355 (at_ Rp.str l (i : Int)) (by omega)) ?_
       rintro _ w385 ⟨rfl, hF383⟩
       refine ⟨_, rfl, fun a h386 => ?_⟩
       have hsw385 := hF383.size
       have hO_387 := hO_357.fr0 hF383
       have hF_388 := hF_358.new hF383
       have hSl_389 := hSl_359.fr0 hF383
       have hSz_390 := hSz_360.fr0 hF383
       have hSh_391 := hSh_361.fr0 hF383
       have hB6_392 := hB6_362.fr0 hF383
       refine V.go (V.mk [(75, .string (hexS (at_ Rp.str l (i : Int))))] ⟨h386.e, trivial⟩ (by kernel_rfl) [.string (hexS (at_ Rp.str l (i : Int)))] 9 (fun b => .slice (some ⟨b, 0, none⟩) 1 1) (by kernel_rfl) ?_)
       intro w395 b394 heb394 hB396 hF397 hsb394
       have hO_398 := hO_387.fr0 hF397
       have hF_399 := hF_388.new hF397
       have hSl_400 := hSl_389.fr0 hF397
       have hSz_401 := hSz_390.fr0 hF397
       have hSh_402 := hSh_391.fr0 hF397
       have hB6_403 := hB6_392.fr0 hF397
       refine V.pt h386 fun a h405 => ?_
       refine V.go (V.app (R := Rp.str) (ys := ([hexS (at_ Rp.str l (i : Int))])) (news := [.string (hexS (at_ Rp.str l (i : Int)))]) (h405.e (v := (.slice A2 (((l.take i).map hexS).length) c2))) ⟨b394, 0, none⟩ 1 1 (h405.e (v := (.slice (some ⟨b394, 0, none⟩) 1 1))) (by kernel_rfl) (info9) (by kernel_rfl) (by decide) hO_398 rfl ⟨_, [], rfl, rfl, rfl⟩ (blk_cells hB396 0 _ rfl) (by first | omega | (simp; omega)) (by decide) (by omega) ?_)
       intro A406 c407 w408 hO409z hF410 hatw408
       have hsw408 := hF410.size
       have hF_411 := hF_399.own hF410 (own_ge hO_398 (by omega))
       have hSl_412 := hSl_400.fr hF410 (by intro b hb hz; have := own_ge hO_398 (Nat.le_refl _) b hb; (try dsimp only at hz); omega)
       have hSz_413 := hSz_401.fr hF410 (by intro b hb hz; have := own_ge hO_398 (Nat.le_refl _) b hb; (try dsimp only at hz); omega)
       have hSh_414 := hSh_402.fr hF410 (by intro b hb hz; have := own_ge hO_398 (Nat.le_refl _) b hb; (try dsimp only at hz); omega)
       have hB6_415 := hB6_403.fr hF410 (by first | exact own_notin hO_398 (by omega) | exact own_notin2 hO_357 (by omega))
       have hO409 := hO409z.zone (Z' := NoZ) (fun _ _ q => q.1) (fun _ _ q => q)
       refine V.pt h405 fun a h417 => ?_
       refine V.re h417 [] 1 0 [(4, .slice A406 ((((l.take i).map hexS).length) + 1) c407)] fun a h418 => ?_
       refine V.blk_n ?_
       refine V.then_n (k372 _ _ ?_)
       refine V.rr h418 [(0, .i ((i : Int) + 1))] 78 78 [(69, .int .i64 ((i : Int) + 1))] fun a h419 => ?_
       refine V.then_n ?_
       have hqs := map_next hexS Rp.str (show i < l.length by omega)
       refine ⟨i + 1, A406, c407, by omega, ?_⟩
       refine ⟨((h419.eq 4 (v := (.slice A406 ((((l.take i).map hexS).length) + 1) c407)) (u := (.slice A406 (((l.take (i + 1)).map hexS).length) c407)) (V.sl_eq (by rw [hqs]; simp))).eq 69 (v := (.int .i64 ((i : Int) + 1))) (u := (.int .i64 ((i + 1) : Int))) (V.int_eq (by omega))).only _, (by rw [hqs]; simpa using hO409), hF_411, hSl_412, hSz_413, hSh_414, hB6_415, (by omega)⟩
      ·
       refine V.exit (V.then_e (V.then_e (V.blk_hit ?_)))
       refine V.then_n (k350 _ _ ?_)
       refine V.exit (V.blk_hit ?_)
       refine V.then_n (k21 _ _ ?_)
       refine V.sr h367 [] 79 80 [(2, .string ⟨#[115, 101, 116]⟩), (3, .slice A2 (((l.take i).map hexS).length) c2)] fun a h422 => ?_
       refine V.ret ?_
       refine V.r2 h422 (.string ⟨#[115, 101, 116]⟩) (.slice A2 (((l.take i).map hexS).length) c2) ?_
       obtain ⟨hq1, hq2⟩ := nm3 (k := k) (s := s) (l := l) (z := z) (h := h) (by assumption)
       have hqi : (l.take i).map hexS = l.map hexS := by rw [List.take_of_length_le (by omega)]
       rw [hq1, hq2, ← hqi]
       exact ⟨_, _, rfl, hO_357.rebase (by omega), hF_358⟩
    ·
     refine V.skip ?_
     refine V.then_n (k36 _ _ ?_)
     refine V.exit ?_
     refine V.blk_miss rfl ?_
     refine V.then_e ?_
     refine V.blk_miss rfl ?_
     refine V.then_e ?_
     refine V.blk_miss rfl ?_
     refine V.then_e ?_
     refine V.blk_miss rfl ?_
     refine V.then_e (V.blk_hit ?_)
     refine V.then_n (k26 _ _ ?_)
     refine V.seq fun K423 k424 => ?_
     refine V.sr h346 [(1, .b hB6 2)] 66 66 [(67, .slice Al l.length cl), (68, .int .i64 ((l.length : Nat) : Int)), (69, .int .i64 0)] fun a h427 => ?_
     refine V.block ?_
     refine V.loop3 (fun (i : Nat) (A2 : Option Addr) (c2 : Nat) a_ w_ => En 81 [] a_ [(4, .slice A2 (((l.take i).map hexS).length) c2), (5, .string ⟨#[108, 105, 115, 116]⟩), (67, .slice Al l.length cl), (68, .int .i64 ((l.length : Nat) : Int)), (69, .int .i64 (i : Int))] ∧ OwR Rp.str NoZ w_ (b4 + 1) 9 (.slice A2 (((l.take i).map hexS).length) c2) ((l.take i).map hexS) ∧ Fr [] w w_ ∧ SlR Rp.str (fun k => k < w.heap.size) w_ (.slice Al l.length cl) l ∧ SlR scR (fun k => k < w.heap.size) w_ (.slice Az z.length cz) z ∧ SlR fdR (fun k => k < w.heap.size) w_ (.slice Ah h.length ch) h ∧ Blk w_ b4 [.int .i64 k, .string s, .slice Al l.length cl, .slice Az z.length cz, .slice Ah h.length ch] 46 ∧ (i ≤ l.length)) (fun (i : Nat) (A2 : Option Addr) (c2 : Nat) => l.length - i) 0 none 0 ?_ ?_
     ·
      refine ⟨((h427.eq 4 (v := (.slice none 0 0)) (u := (.slice none (((l.take 0).map hexS).length) 0)) (rfl)).eq 69 (v := (.int .i64 0)) (u := (.int .i64 (0 : Int))) (V.int_eq (by omega))).only _, (OwR.nil ..), hF_8, hSl_9, hSz_10, hSh_11, hB6, (by omega)⟩
     ·
      rintro i A2 c2 a428 w429 ⟨h430, hO_431, hF_432, hSl_433, hSz_434, hSh_435, hB6_436, hi⟩
      have hfs437 := hF_432.size
      have hlt438 := hB6_436.lt
      have hfl : ((l.take i).map hexS).length = i := by rw [List.length_map, List.length_take]; omega
      refine V.sr h430 [] 1 0 [(70, .bool (decide ((i : Int) < ((l.length : Nat) : Int))))] fun a h441 => ?_
      refine V.seq fun K442 k443 => ?_
      refine V.cp h441 ((i : Int) < ((l.length : Nat) : Int)) (fun ht444 => ?_) (fun ht444 => ?_)
      ·
       refine V.skip ?_
       refine V.then_n (k443 _ _ ?_)
       refine V.seq fun K445 k446 => ?_
       refine V.block ?_
       obtain ⟨g449, o450, hA451, hA451l, hA451z⟩ := hSl_433.addr (by omega)
       obtain ⟨cs452, hok453, hE454⟩ := hSl_433.els hA451 (i : Int) (by omega) (by omega)
       obtain rfl : cs452 = [.string (at_ Rp.str l (i : Int))] := hok453
       refine V.sr h441 [(0, .ix g449 o450 l.length cl .i64 (i : Int) 1 hA451), (0, .l ⟨g449, o450 + (i : Int).toNat * 1, none⟩ (.string (at_ Rp.str l (i : Int))) (hE454.at 0 rfl))] 71 72 [(11, .string (at_ Rp.str l (i : Int)))] fun a h455 => ?_
       have hxe := hsh.l _ (at_in Rp.str (i := i) (by omega : i < l.length))
       refine V.rg ?_
       refine V.run h455 [] 2 1 0 [(73, .slice A2 (((l.take i).map hexS).length) c2), (74, .string (at_ Rp.str l (i : Int)))] fun a h456 => ?_
       have hxl458 := hexS_len (at_ Rp.str l (i : Int))
       refine V.cl h456 (Go.Proofs.enters_of Tryz.func83 (by kernel_rfl) rfl) (hex_any w429 (at_ Rp.str l (i : Int)) (by omega)) ?_
       rintro _ w459 ⟨rfl, hF457⟩
       refine ⟨_, rfl, fun a h460 => ?_⟩
       have hsw459 := hF457.size
       have hO_461 := hO_431.fr0 hF457
       have hF_462 := hF_432.new hF457
       have hSl_463 := hSl_433.fr0 hF457
       have hSz_464 := hSz_434.fr0 hF457
       have hSh_465 := hSh_435.fr0 hF457
       have hB6_466 := hB6_436.fr0 hF457
       refine V.go (V.mk [(75, .string (hexS (at_ Rp.str l (i : Int))))] ⟨h460.e, trivial⟩ (by kernel_rfl) [.string (hexS (at_ Rp.str l (i : Int)))] 9 (fun b => .slice (some ⟨b, 0, none⟩) 1 1) (by kernel_rfl) ?_)
       intro w469 b468 heb468 hB470 hF471 hsb468
       have hO_472 := hO_461.fr0 hF471
       have hF_473 := hF_462.new hF471
       have hSl_474 := hSl_463.fr0 hF471
       have hSz_475 := hSz_464.fr0 hF471
       have hSh_476 := hSh_465.fr0 hF471
       have hB6_477 := hB6_466.fr0 hF471
       refine V.pt h460 fun a h479 => ?_
       refine V.go (V.app (R := Rp.str) (ys := ([hexS (at_ Rp.str l (i : Int))])) (news := [.string (hexS (at_ Rp.str l (i : Int)))]) (h479.e (v := (.slice A2 (((l.take i).map hexS).length) c2))) ⟨b468, 0, none⟩ 1 1 (h479.e (v := (.slice (some ⟨b468, 0, none⟩) 1 1))) (by kernel_rfl) (info9) (by kernel_rfl) (by decide) hO_472 rfl ⟨_, [], rfl, rfl, rfl⟩ (blk_cells hB470 0 _ rfl) (by first | omega | (simp; omega)) (by decide) (by omega) ?_)
       intro A480 c481 w482 hO483z hF484 hatw482
       have hsw482 := hF484.size
       have hF_485 := hF_473.own hF484 (own_ge hO_472 (by omega))
       have hSl_486 := hSl_474.fr hF484 (by intro b hb hz; have := own_ge hO_472 (Nat.le_refl _) b hb; (try dsimp only at hz); omega)
       have hSz_487 := hSz_475.fr hF484 (by intro b hb hz; have := own_ge hO_472 (Nat.le_refl _) b hb; (try dsimp only at hz); omega)
       have hSh_488 := hSh_476.fr hF484 (by intro b hb hz; have := own_ge hO_472 (Nat.le_refl _) b hb; (try dsimp only at hz); omega)
       have hB6_489 := hB6_477.fr hF484 (by first | exact own_notin hO_472 (by omega) | exact own_notin2 hO_431 (by omega))
       have hO483 := hO483z.zone (Z' := NoZ) (fun _ _ q => q.1) (fun _ _ q => q)
       refine V.pt h479 fun a h491 => ?_
       refine V.re h491 [] 1 0 [(4, .slice A480 ((((l.take i).map hexS).length) + 1) c481)] fun a h492 => ?_
       refine V.blk_n ?_
       refine V.then_n (k446 _ _ ?_)
       refine V.rr h492 [(0, .i ((i : Int) + 1))] 78 78 [(69, .int .i64 ((i : Int) + 1))] fun a h493 => ?_
       refine V.then_n ?_
       have hqs := map_next hexS Rp.str (show i < l.length by omega)
       refine ⟨i + 1, A480, c481, by omega, ?_⟩
       refine ⟨((h493.eq 4 (v := (.slice A480 ((((l.take i).map hexS).length) + 1) c481)) (u := (.slice A480 (((l.take (i + 1)).map hexS).length) c481)) (V.sl_eq (by rw [hqs]; simp))).eq 69 (v := (.int .i64 ((i : Int) + 1))) (u := (.int .i64 ((i + 1) : Int))) (V.int_eq (by omega))).only _, (by rw [hqs]; simpa using hO483), hF_485, hSl_486, hSz_487, hSh_488, hB6_489, (by omega)⟩
      ·
       refine V.exit (V.then_e (V.then_e (V.blk_hit ?_)))
       refine V.then_n (k424 _ _ ?_)
       refine V.exit (V.blk_hit ?_)
       refine V.then_n (k21 _ _ ?_)
       refine V.sr h441 [] 79 80 [(2, .string ⟨#[108, 105, 115, 116]⟩), (3, .slice A2 (((l.take i).map hexS).length) c2)] fun a h496 => ?_
       refine V.ret ?_
       refine V.r2 h496 (.string ⟨#[108, 105, 115, 116]⟩) (.slice A2 (((l.take i).map hexS).length) c2) ?_
       obtain ⟨hq1, hq2⟩ := nm2 (k := k) (s := s) (l := l) (z := z) (h := h) (by assumption) (by assumption) (by assumption) (by assumption)
       have hqi : (l.take i).map hexS = l.map hexS := by rw [List.take_of_length_le (by omega)]
       rw [hq1, hq2, ← hqi]
       exact ⟨_, _, rfl, hO_431.rebase (by omega), hF_432⟩
end Go.Proofs.YtdebkbfnngkdlaaGreatDoor
end
section
namespace Go.Proofs.YtdebkbfnngkdlaaGreatDoor
open Go.ChangeShapes Go.WideShapes Go.ChangeAt Go.RowKit Go.Base Go.V
theorem gErrs : Tryz.prog.globalNamed "strconv.ErrSyntax" = some 2 ∧ Tryz.prog.globalNamed "strconv.ErrRange" = some 3 ∧ Tryz.prog.globalNamed "internal/strconv.uint64pow10" = some 1 := ⟨by kernel_rfl, by kernel_rfl, by kernel_rfl⟩
theorem cells248 : Tryz.prog.cellsOf 250 = 1 ∧ Tryz.prog.cellsOf 9 = 1 ∧ Tryz.prog.cellsOf 239 = 20 ∧ Tryz.prog.cellsOf 29 = 1 := ⟨by kernel_rfl, by kernel_rfl, by kernel_rfl, by kernel_rfl⟩
theorem star : "*" ++ "errors.errorString" = "*errors.errorString" := by decide
theorem row248 (u : TypeId) (h : Tryz.prog.typeName? 3 u = some "*errors.errorString") : u = 248 :=
  typeName_ptr_named (nm := "errors.errorString") (by rw [star]; kernel_rfl) (by kernel_rfl) (by decide) u (by rw [star]; exact h)
theorem vs_of_laid {W : World} (h0 : laidMetH Tryz.prog Rows.imageFormsRow.laid W) (hsh : W.ShapedOpen Tryz.prog) : Vs W := by
  have h : laidMet Tryz.prog Rows.imageFormsRow.laid W := h0
  have h3 := h.tail.tail
  have ht : Lib.TabIs Tryz.prog W "internal/strconv.uint64pow10" .u64 Lib.pow10Tab :=
    Lib.tabIs_of_head (zs := Lib.pow10Tab) gErrs.2.2 (by kernel_rfl) Tryz.underlying239 Tryz.underlying29 cells248.2.2.2 cells248.2.2.1 h3
  have h5 := h3.tail.tail
  obtain ⟨a0, s0, hv0, _⟩ := laid_sentinel h5 gErrs.2.1 (by kernel_rfl) Tryz.underlying75 row248 Tryz.underlying248 Tryz.underlying250 rfl rfl Tryz.underlying9 cells248.1 cells248.2.1
  obtain ⟨a1, s1, hv1, _⟩ := laid_sentinel h5.tail gErrs.1 (by kernel_rfl) Tryz.underlying75 row248 Tryz.underlying248 Tryz.underlying250 rfl rfl Tryz.underlying9 cells248.1 cells248.2.1
  refine ⟨?_, ht, ⟨_, _, hv1⟩, ⟨_, _, hv0⟩, cell_of_shapedOpen_int (g := 0) (t := 3) (zero := #[.int .i64 0]) hsh (of_decide_eq_true (by kernel_rfl)) (by kernel_rfl) rfl (by kernel_rfl) (by kernel_rfl) Tryz.underlying3⟩
  have h7 : ∃ m, (((begin Tryz.prog (fun _ _ => 0) default).world.heap[7]?).bind Obj.row?) = some m := by
    have e : (((begin Tryz.prog (fun _ _ => 0) default).world.heap[7]?).bind Obj.row?).isSome = true := by kernel_rfl
    exact Option.isSome_iff_exists.1 e
  obtain ⟨⟨zero, t⟩, hz⟩ := h7
  obtain ⟨cs, hc, _⟩ := hsh.1 7 zero t (of_decide_eq_true (by kernel_rfl)) hz
  obtain ⟨hlt, _⟩ := Array.getElem?_eq_some_iff.1 hc
  omega
theorem wf_i64 {n : Int} (h : (Lit.int .i64 n).wf = true) : i64 n := by
  unfold Lit.wf at h
  have h1 : IntKind.i64.min = -9223372036854775808 := by decide
  have h2 : IntKind.i64.max = 9223372036854775807 := by decide
  simp [h1, h2] at h
  exact ⟨by omega, by omega⟩
/-! A world that lays the variables. -/
def cell1 : DataW Unit → Value
  | .lit (.int k n) => .int k n
  | _ => .nilIface
def cellsA : DataW Unit → List Value
  | .agg ps => ps.map cell1
  | _ => []
def cellsAA : DataW Unit → List Value
  | .agg ps => ps.flatMap cellsA
  | _ => []
def putC (cs : List Value) : Obj → Obj
  | .cells _ t frozen => .cells cs.toArray t frozen
  | o => o
noncomputable def lowN : Nat := (World.holding Tryz.prog default ⟨#[], #[], []⟩).heap.size
def ranB : ByteArray := ⟨#[118, 97, 108, 117, 101, 32, 111, 117, 116, 32, 111, 102, 32, 114, 97, 110, 103, 101]⟩
def synB : ByteArray := ⟨#[105, 110, 118, 97, 108, 105, 100, 32, 115, 121, 110, 116, 97, 120]⟩
noncomputable def laidW (os : Os) : World :=
  let w0 := World.holding Tryz.prog os ⟨#[.cells #[.string ranB] 250, .cells #[.string synB] 250], #[], []⟩
  { w0 with heap := ((((((w0.heap.modify 1 (putC (cellsA Rows.laid_internal_strconv_uint64pow10))).modify 2 (putC [.iface 248 (.pointer (some ⟨lowN + 1, 0, none⟩))])).modify 3 (putC [.iface 248 (.pointer (some ⟨lowN, 0, none⟩))])).modify 4 (putC (cellsA Rows.laid_unicode_utf8_first))).modify 5 (putC (cellsAA Rows.laid_unicode_utf8_acceptRanges))).modify 6 (putC (cellsA Rows.laid_math_bits_deBruijn32tab))).modify 7 (putC (cellsA Rows.laid_math_bits_deBruijn64tab)) }
set_option maxRecDepth 100000 in
theorem laid_met (os : Os) (args : Array Value) : laidMet Tryz.prog Rows.imageFormsRow.laid ((laidW os).forCall (fun _ _ => 0) ⟨#[], args, []⟩).memory :=
  laidMet_of_run' 8 (by kernel_rfl) (by kernel_rfl)
end Go.Proofs.YtdebkbfnngkdlaaGreatDoor
end
