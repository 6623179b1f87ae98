/- Walks: MembersAlgebra. -/
import Derived.Test.YtkepojdmgdgaoaaProg
import Derived.Test.YtkepojdmgdgaoaaMu
import Derived.Test.YtkepojdmgdgaoaaMg
namespace Go.Proofs.Ytkepojdmgdgaoaa
open Go.V Go.Base
open Go.RowKit (Below)
attribute [local irreducible] Act.put Act.eval
set_option linter.unusedVariables false
set_option linter.unusedSimpArgs false
theorem unS_mem {ls : List (List ByteArray)} (h : ∀ l ∈ ls, Inc l) (x : ByteArray) : x ∈ unS ls ↔ ∃ l ∈ ls, x ∈ l := by
  unfold unS; rw [if_pos h, setOf_mem, List.mem_flatten]
theorem hdR_inc {ls : List (List ByteArray)} (h : ∀ l ∈ ls, Inc l) : Inc (hdR ls) := by
  cases ls with
  | nil => exact Inc.nil
  | cons a t => exact h a (List.mem_cons_self ..)
theorem meS_inc (ls : List (List ByteArray)) : Inc (meS ls) := by
  unfold meS; split
  · rename_i h; exact (hdR_inc h).sub List.filter_sublist
  · exact Inc.nil
theorem leS_inc (ls : List (List ByteArray)) : Inc (leS ls) := by
  unfold leS; split
  · rename_i h; exact (hdR_inc h).sub List.filter_sublist
  · exact Inc.nil
theorem meS_two {A B : List ByteArray} (hA : Inc A) (hB : Inc B) : meS [A, B] = A.filter fun x => decide (x ∈ B) := by
  unfold meS
  rw [if_pos (by simp [hA, hB])]
  show A.filter _ = _
  refine List.filter_congr fun x _ => ?_
  unfold allB; simp
theorem leS_two {A B : List ByteArray} (hA : Inc A) (hB : Inc B) : leS [A, B] = A.filter fun x => !decide (x ∈ B) := by
  unfold leS
  rw [if_pos (by simp [hA, hB])]
  show A.filter _ = _
  refine List.filter_congr fun x _ => ?_
  unfold anyB; simp
theorem meS_three {A B C : List ByteArray} (hA : Inc A) (hB : Inc B) (hC : Inc C) (x : ByteArray) : x ∈ meS [A, B, C] ↔ x ∈ A ∧ x ∈ B ∧ x ∈ C := by
  unfold meS
  rw [if_pos (by simp [hA, hB, hC])]
  show x ∈ A.filter _ ↔ _
  rw [List.mem_filter]
  unfold allB; simp
theorem un_rot {A B C : List ByteArray} (hA : Inc A) (hB : Inc B) (hC : Inc C) : unS [C, A, B] = unS [A, B, C] :=
  inc_eq (unS_inc _) (unS_inc _) fun x => by
    rw [unS_mem (by simp [hA, hB, hC]), unS_mem (by simp [hA, hB, hC])]
    simp only [List.mem_cons, List.not_mem_nil, or_false, exists_eq_or_imp, exists_eq_left]
    constructor
    · rintro (h | h | h)
      · exact .inr (.inr h)
      · exact .inl h
      · exact .inr (.inl h)
    · rintro (h | h | h)
      · exact .inr (.inl h)
      · exact .inr (.inr h)
      · exact .inl h
theorem me_rot {A B C : List ByteArray} (hA : Inc A) (hB : Inc B) (hC : Inc C) : meS [B, C, A] = meS [A, B, C] :=
  inc_eq (meS_inc _) (meS_inc _) fun x => by
    rw [meS_three hB hC hA, meS_three hA hB hC]
    exact ⟨fun h => ⟨h.2.2, h.1, h.2.1⟩, fun h => ⟨h.2.1, h.2.2, h.1⟩⟩
theorem un_split {A B : List ByteArray} (hA : Inc A) (hB : Inc B) : unS [meS [A, B], leS [A, B]] = A :=
  inc_eq (unS_inc _) hA fun x => by
    rw [unS_mem (by simp [meS_inc, leS_inc])]
    simp only [List.mem_cons, List.not_mem_nil, or_false, exists_eq_or_imp, exists_eq_left]
    rw [meS_two hA hB, leS_two hA hB, List.mem_filter, List.mem_filter]
    by_cases h : x ∈ B <;> simp [h]
theorem me_split {A B : List ByteArray} (hA : Inc A) (hB : Inc B) : (meS [meS [A, B], leS [A, B]]).length = 0 := by
  rw [meS_two (meS_inc _) (leS_inc _), List.length_eq_zero_iff, List.filter_eq_nil_iff]
  intro x hx
  rw [meS_two hA hB, List.mem_filter] at hx
  rw [leS_two hA hB]
  have h2 := of_decide_eq_true hx.2
  simp [h2]
theorem filt_len {α : Type} (p : α → Bool) : ∀ A : List α, (A.filter p).length + (A.filter fun x => !p x).length = A.length
  | [] => rfl
  | a :: A => by
    have ih := filt_len p A
    simp only [List.filter_cons, List.length_cons]
    cases p a <;> simp <;> omega
theorem len_split {A B : List ByteArray} (hA : Inc A) (hB : Inc B) : (meS [A, B]).length + (leS [A, B]).length = A.length := by
  rw [meS_two hA hB, leS_two hA hB]
  exact filt_len _ A
theorem all_two {A B : List ByteArray} (hA : Inc A) (hB : Inc B) : chkL [A, B] = 0 := if_pos (by simp [hA, hB])
theorem all_three {A B C : List ByteArray} (hA : Inc A) (hB : Inc B) (hC : Inc C) : chkL [A, B, C] = 0 := if_pos (by simp [hA, hB, hC])
theorem meS_sub {ls : List (List ByteArray)} {x : ByteArray} (h : x ∈ meS ls) : x ∈ hdR ls := by
  unfold meS at h; split at h
  · exact (List.mem_filter.1 h).1
  · simp at h
theorem leS_sub {ls : List (List ByteArray)} {x : ByteArray} (h : x ∈ leS ls) : x ∈ hdR ls := by
  unfold leS at h; split at h
  · exact (List.mem_filter.1 h).1
  · simp at h
theorem sz_set {l : List ByteArray} {i : Nat} (hz : ∀ s ∈ l, s.size ≤ maxLen) : ∀ s ∈ setOf (l.take i), s.size ≤ maxLen := fun s hs => hz s (List.mem_of_mem_take ((setOf_mem _ _).1 hs))
theorem sz_two {A B : List ByteArray} (hA : ∀ s ∈ A, s.size ≤ maxLen) (hB : ∀ s ∈ B, s.size ≤ maxLen) : ∀ l ∈ [A, B], ∀ s ∈ l, s.size ≤ maxLen := by
  intro l hl
  simp only [List.mem_cons, List.not_mem_nil, or_false] at hl
  rcases hl with rfl | rfl
  · exact hA
  · exact hB
theorem sz_three {A B C : List ByteArray} (hA : ∀ s ∈ A, s.size ≤ maxLen) (hB : ∀ s ∈ B, s.size ≤ maxLen) (hC : ∀ s ∈ C, s.size ≤ maxLen) : ∀ l ∈ [A, B, C], ∀ s ∈ l, s.size ≤ maxLen := by
  intro l hl
  simp only [List.mem_cons, List.not_mem_nil, or_false] at hl
  rcases hl with rfl | rfl | rfl
  · exact hA
  · exact hB
  · exact hC
theorem meS_len {A B : List ByteArray} (hA : Inc A) (hB : Inc B) : (meS [A, B]).length ≤ A.length ∧ (leS [A, B]).length ≤ A.length := by
  rw [meS_two hA hB, leS_two hA hB]; exact ⟨List.length_filter_le _ _, List.length_filter_le _ _⟩
set_option maxHeartbeats 4000000 in
set_option maxRecDepth 20000 in
theorem membersAlgebra_any (w : World) (Al : Option Addr) (cl : Nat) (l : List ByteArray) (hSl : SlR Rp.str (fun k => k < w.heap.size) w (.slice Al l.length cl) l) (Am : Option Addr) (cm : Nat) (m : List ByteArray) (hSm : SlR Rp.str (fun k => k < w.heap.size) w (.slice Am m.length cm) m) (An : Option Addr) (cn : Nat) (n : List ByteArray) (hSn : SlR Rp.str (fun k => k < w.heap.size) w (.slice An n.length cn) n) (hzl : ∀ s ∈ l, s.size ≤ maxLen) (hzm : ∀ s ∈ m, s.size ≤ maxLen) (hzn : ∀ s ∈ n, s.size ≤ maxLen) : Calls Try.prog 9 #[.slice Al l.length cl, .slice Am m.length cm, .slice An n.length cn] w (fun e w' => e = .returned (.bool true) ∧ Fr [] w w') := by
 have hF := Fr.refl [] w
 refine V.en 165 Try.func9 fun a h1 => ?_
 refine V.sr h1 [] 6 6 [] fun a h4 => ?_
 refine V.seq fun K5 k6 => ?_
 refine V.sg fun K7 k8 => ?_
 refine V.cl h4 (Go.Proofs.enters_of Try.func10 (by kernel_rfl) rfl) (awake_any w) ?_
 rintro _ w10 ⟨rfl, hF9⟩
 refine ⟨_, rfl, fun a h11 => ?_⟩
 have hsw10 := hF9.size
 have hF_12 := hF.new hF9
 have hSl_13 := hSl.fr0 hF9
 have hSm_14 := hSm.fr0 hF9
 have hSn_15 := hSn.fr0 hF9
 refine V.re h11 [] 1 0 [(24, .bool false)] fun a h16 => k8 _ _ ?_
 refine V.cf h16 ?_
 refine V.skip ?_
 refine V.then_n (k6 _ _ ?_)
 refine V.sg fun K17 k18 => ?_
 refine V.run h16 [] 1 1 0 [(25, .slice Al l.length cl)] fun a h19 => ?_
 refine V.cl h19 (Go.Proofs.enters_of Try.func12 (by kernel_rfl) rfl) (few_any w10 Al cl l hSl_13.old) ?_
 rintro _ w23 ⟨rfl, hF20⟩
 refine ⟨_, rfl, fun a h24 => ?_⟩
 have hsw23 := hF20.size
 have hF_25 := hF_12.new hF20
 have hSl_26 := hSl_13.fr0 hF20
 have hSm_27 := hSm_14.fr0 hF20
 have hSn_28 := hSn_15.fr0 hF20
 have hS21 := (hSl_13.fr0 hF20).tke 200
 have hfw22 : (l.take 200).length ≤ 200 := by rw [List.length_take]; omega
 refine V.cl h24 (Go.Proofs.enters_of Try.func11 (by kernel_rfl) rfl) (of_any w23 Al cl (l.take 200) hS21.old (by omega)) ?_
 rintro _ w33 ⟨A29, c30, rfl, hO31, hF32⟩
 refine ⟨_, rfl, fun a h34 => ?_⟩
 have hsw33 := hF32.size
 have hF_35 := hF_25.new hF32
 have hSl_36 := hSl_26.fr0 hF32
 have hSm_37 := hSm_27.fr0 hF32
 have hSn_38 := hSn_28.fr0 hF32
 have hS21_39 := hS21.fr0 hF32
 have hO31q := hO31.rebase (base' := w.heap.size) (by omega)
 have hsl32 := setOf_len (l.take 200)
 refine V.run h34 [] 1 1 0 [(28, .slice Am m.length cm)] fun a h40 => ?_
 refine V.cl h40 (Go.Proofs.enters_of Try.func12 (by kernel_rfl) rfl) (few_any w33 Am cm m hSm_37.old) ?_
 rintro _ w44 ⟨rfl, hF41⟩
 refine ⟨_, rfl, fun a h45 => ?_⟩
 have hsw44 := hF41.size
 have hF_46 := hF_35.new hF41
 have hSl_47 := hSl_36.fr0 hF41
 have hSm_48 := hSm_37.fr0 hF41
 have hSn_49 := hSn_38.fr0 hF41
 have hS21_50 := hS21_39.fr0 hF41
 have hO31q_51 := hO31q.fr0 hF41
 have hS42 := (hSm_37.fr0 hF41).tke 200
 have hfw43 : (m.take 200).length ≤ 200 := by rw [List.length_take]; omega
 refine V.cl h45 (Go.Proofs.enters_of Try.func11 (by kernel_rfl) rfl) (of_any w44 Am cm (m.take 200) hS42.old (by omega)) ?_
 rintro _ w56 ⟨A52, c53, rfl, hO54, hF55⟩
 refine ⟨_, rfl, fun a h57 => ?_⟩
 have hsw56 := hF55.size
 have hF_58 := hF_46.new hF55
 have hSl_59 := hSl_47.fr0 hF55
 have hSm_60 := hSm_48.fr0 hF55
 have hSn_61 := hSn_49.fr0 hF55
 have hS21_62 := hS21_50.fr0 hF55
 have hO31q_63 := hO31q_51.fr0 hF55
 have hS42_64 := hS42.fr0 hF55
 have hO54q := hO54.rebase (base' := w.heap.size) (by omega)
 have hsl55 := setOf_len (m.take 200)
 refine V.run h57 [] 1 1 0 [(31, .slice An n.length cn)] fun a h65 => ?_
 refine V.cl h65 (Go.Proofs.enters_of Try.func12 (by kernel_rfl) rfl) (few_any w56 An cn n hSn_61.old) ?_
 rintro _ w69 ⟨rfl, hF66⟩
 refine ⟨_, rfl, fun a h70 => ?_⟩
 have hsw69 := hF66.size
 have hF_71 := hF_58.new hF66
 have hSl_72 := hSl_59.fr0 hF66
 have hSm_73 := hSm_60.fr0 hF66
 have hSn_74 := hSn_61.fr0 hF66
 have hS21_75 := hS21_62.fr0 hF66
 have hO31q_76 := hO31q_63.fr0 hF66
 have hS42_77 := hS42_64.fr0 hF66
 have hO54q_78 := hO54q.fr0 hF66
 have hS67 := (hSn_61.fr0 hF66).tke 200
 have hfw68 : (n.take 200).length ≤ 200 := by rw [List.length_take]; omega
 refine V.cl h70 (Go.Proofs.enters_of Try.func11 (by kernel_rfl) rfl) (of_any w69 An cn (n.take 200) hS67.old (by omega)) ?_
 rintro _ w83 ⟨A79, c80, rfl, hO81, hF82⟩
 refine ⟨_, rfl, fun a h84 => ?_⟩
 have hsw83 := hF82.size
 have hF_85 := hF_71.new hF82
 have hSl_86 := hSl_72.fr0 hF82
 have hSm_87 := hSm_73.fr0 hF82
 have hSn_88 := hSn_74.fr0 hF82
 have hS21_89 := hS21_75.fr0 hF82
 have hO31q_90 := hO31q_76.fr0 hF82
 have hS42_91 := hS42_77.fr0 hF82
 have hO54q_92 := hO54q_78.fr0 hF82
 have hS67_93 := hS67.fr0 hF82
 have hO81q := hO81.rebase (base' := w.heap.size) (by omega)
 have hsl82 := setOf_len (n.take 200)
 refine V.re h84 [] 1 0 [(0, .slice A29 ((setOf (l.take 200)).length) c30), (1, .slice A52 ((setOf (m.take 200)).length) c53), (2, .slice A79 ((setOf (n.take 200)).length) c80)] fun a h94 => k18 _ _ ?_
 refine V.seq fun K95 k96 => ?_
 refine V.sg fun K97 k98 => ?_
 refine V.run h94 [] 1 1 0 [(34, .slice A29 ((setOf (l.take 200)).length) c30)] fun a h99 => ?_
 have hS100 := hO31q_90.is
 refine V.cl (av := #[.slice A29 ((setOf (l.take 200)).length) c30]) h99 (Go.Proofs.enters_of Try.func23 (by kernel_rfl) rfl) (by (have hcz := rcheck_any w83 A29 c30 (setOf (l.take 200)) hS100.old; rw [chk_inc (setOf_inc _)] at hcz; exact hcz)) ?_
 rintro _ w102 ⟨rfl, hF101⟩
 refine ⟨_, rfl, fun a h103 => ?_⟩
 have hsw102 := hF101.size
 have hF_104 := hF_85.new hF101
 have hSl_105 := hSl_86.fr0 hF101
 have hSm_106 := hSm_87.fr0 hF101
 have hSn_107 := hSn_88.fr0 hF101
 have hS21_108 := hS21_89.fr0 hF101
 have hO31q_109 := hO31q_90.fr0 hF101
 have hS42_110 := hS42_91.fr0 hF101
 have hO54q_111 := hO54q_92.fr0 hF101
 have hS67_112 := hS67_93.fr0 hF101
 have hO81q_113 := hO81q.fr0 hF101
 have hS100_114 := hS100.fr0 hF101
 refine V.run h103 [] 3 36 36 [(37, .bool false), (38, .slice A52 ((setOf (m.take 200)).length) c53)] fun a h115 => ?_
 have hS116 := hO54q_111.is
 refine V.clg (av := #[.slice A52 ((setOf (m.take 200)).length) c53]) h115 (Go.Proofs.enters_of Try.func23 (by kernel_rfl) rfl) (by (have hcz := rcheck_any w102 A52 c53 (setOf (m.take 200)) hS116.old; rw [chk_inc (setOf_inc _)] at hcz; exact hcz)) ?_
 rintro _ w118 ⟨rfl, hF117⟩
 refine ⟨_, rfl, fun a h119 => ?_⟩
 have hsw118 := hF117.size
 have hF_120 := hF_104.new hF117
 have hSl_121 := hSl_105.fr0 hF117
 have hSm_122 := hSm_106.fr0 hF117
 have hSn_123 := hSn_107.fr0 hF117
 have hS21_124 := hS21_108.fr0 hF117
 have hO31q_125 := hO31q_109.fr0 hF117
 have hS42_126 := hS42_110.fr0 hF117
 have hO54q_127 := hO54q_111.fr0 hF117
 have hS67_128 := hS67_112.fr0 hF117
 have hO81q_129 := hO81q_113.fr0 hF117
 have hS100_130 := hS100_114.fr0 hF117
 have hS116_131 := hS116.fr0 hF117
 refine V.run h119 [] 4 40 41 [(42, .bool false), (43, .slice A79 ((setOf (n.take 200)).length) c80)] fun a h132 => ?_
 have hS133 := hO81q_129.is
 refine V.clg (av := #[.slice A79 ((setOf (n.take 200)).length) c80]) h132 (Go.Proofs.enters_of Try.func23 (by kernel_rfl) rfl) (by (have hcz := rcheck_any w118 A79 c80 (setOf (n.take 200)) hS133.old; rw [chk_inc (setOf_inc _)] at hcz; exact hcz)) ?_
 rintro _ w135 ⟨rfl, hF134⟩
 refine ⟨_, rfl, fun a h136 => ?_⟩
 have hsw135 := hF134.size
 have hF_137 := hF_120.new hF134
 have hSl_138 := hSl_121.fr0 hF134
 have hSm_139 := hSm_122.fr0 hF134
 have hSn_140 := hSn_123.fr0 hF134
 have hS21_141 := hS21_124.fr0 hF134
 have hO31q_142 := hO31q_125.fr0 hF134
 have hS42_143 := hS42_126.fr0 hF134
 have hO54q_144 := hO54q_127.fr0 hF134
 have hS67_145 := hS67_128.fr0 hF134
 have hO81q_146 := hO81q_129.fr0 hF134
 have hS100_147 := hS100_130.fr0 hF134
 have hS116_148 := hS116_131.fr0 hF134
 have hS133_149 := hS133.fr0 hF134
 refine V.re h136 [] 45 45 [(46, .bool false)] fun a h150 => k98 _ _ ?_
 refine V.cf h150 ?_
 refine V.skip ?_
 refine V.then_n (k96 _ _ ?_)
 refine V.sg fun K151 k152 => ?_
 refine V.run h150 [] 3 1 0 [(48, .slice A29 ((setOf (l.take 200)).length) c30), (49, .slice A52 ((setOf (m.take 200)).length) c53), (50, .slice A79 ((setOf (n.take 200)).length) c80)] fun a h153 => ?_
 refine V.go (V.mk [(48, .slice A29 ((setOf (l.take 200)).length) c30), (49, .slice A52 ((setOf (m.take 200)).length) c53), (50, .slice A79 ((setOf (n.take 200)).length) c80)] ⟨h153.e, h153.e, h153.e, trivial⟩ (by kernel_rfl) [.slice A29 ((setOf (l.take 200)).length) c30, .slice A52 ((setOf (m.take 200)).length) c53, .slice A79 ((setOf (n.take 200)).length) c80] 22 (fun b => .slice (some ⟨b, 0, none⟩) 3 3) (by kernel_rfl) ?_)
 intro w155 b154 heb154 hB156 hF157 hsb154
 have hF_158 := hF_137.new hF157
 have hSl_159 := hSl_138.fr0 hF157
 have hSm_160 := hSm_139.fr0 hF157
 have hSn_161 := hSn_140.fr0 hF157
 have hS21_162 := hS21_141.fr0 hF157
 have hO31q_163 := hO31q_142.fr0 hF157
 have hS42_164 := hS42_143.fr0 hF157
 have hO54q_165 := hO54q_144.fr0 hF157
 have hS67_166 := hS67_145.fr0 hF157
 have hO81q_167 := hO81q_146.fr0 hF157
 have hS100_168 := hS100_147.fr0 hF157
 have hS116_169 := hS116_148.fr0 hF157
 have hS133_170 := hS133_149.fr0 hF157
 refine V.pt h153 fun a h171 => ?_
 refine V.cl (av := #[.slice (some ⟨b154, 0, none⟩) 3 3]) h171 (Go.Proofs.enters_of Try.func28 (by kernel_rfl) rfl) (by (have hcz := union_any w155 _ _ [setOf (l.take 200), setOf (m.take 200), setOf (n.take 200)] (sl_three hB156 hS100_168 hS116_169 hS133_170).old (by simp <;> omega); rw [show chkL [setOf (l.take 200), setOf (m.take 200), setOf (n.take 200)] = 0 from all_three (setOf_inc _) (setOf_inc _) (setOf_inc _)] at hcz; exact hcz)) ?_
 rintro _ w176 ⟨A172, c173, rfl, hO174, hF175⟩
 refine ⟨_, rfl, fun a h177 => ?_⟩
 have hsw176 := hF175.size
 have hF_178 := hF_158.new hF175
 have hSl_179 := hSl_159.fr0 hF175
 have hSm_180 := hSm_160.fr0 hF175
 have hSn_181 := hSn_161.fr0 hF175
 have hS21_182 := hS21_162.fr0 hF175
 have hO31q_183 := hO31q_163.fr0 hF175
 have hS42_184 := hS42_164.fr0 hF175
 have hO54q_185 := hO54q_165.fr0 hF175
 have hS67_186 := hS67_166.fr0 hF175
 have hO81q_187 := hO81q_167.fr0 hF175
 have hS100_188 := hS100_168.fr0 hF175
 have hS116_189 := hS116_169.fr0 hF175
 have hS133_190 := hS133_170.fr0 hF175
 have hB156_191 := hB156.fr0 hF175
 have hO174q := hO174.rebase (base' := w.heap.size) (by omega)
 refine V.re h177 [] 47 54 [(7, .slice A172 ((unS [setOf (l.take 200), setOf (m.take 200), setOf (n.take 200)]).length) c173), (8, .int .i64 0)] fun a h192 => k152 _ _ ?_
 refine V.sg fun K193 k194 => ?_
 refine V.run h192 [] 3 1 0 [(56, .slice A79 ((setOf (n.take 200)).length) c80), (57, .slice A29 ((setOf (l.take 200)).length) c30), (58, .slice A52 ((setOf (m.take 200)).length) c53)] fun a h195 => ?_
 refine V.go (V.mk [(56, .slice A79 ((setOf (n.take 200)).length) c80), (57, .slice A29 ((setOf (l.take 200)).length) c30), (58, .slice A52 ((setOf (m.take 200)).length) c53)] ⟨h195.e, h195.e, h195.e, trivial⟩ (by kernel_rfl) [.slice A79 ((setOf (n.take 200)).length) c80, .slice A29 ((setOf (l.take 200)).length) c30, .slice A52 ((setOf (m.take 200)).length) c53] 22 (fun b => .slice (some ⟨b, 0, none⟩) 3 3) (by kernel_rfl) ?_)
 intro w197 b196 heb196 hB198 hF199 hsb196
 have hF_200 := hF_178.new hF199
 have hSl_201 := hSl_179.fr0 hF199
 have hSm_202 := hSm_180.fr0 hF199
 have hSn_203 := hSn_181.fr0 hF199
 have hS21_204 := hS21_182.fr0 hF199
 have hO31q_205 := hO31q_183.fr0 hF199
 have hS42_206 := hS42_184.fr0 hF199
 have hO54q_207 := hO54q_185.fr0 hF199
 have hS67_208 := hS67_186.fr0 hF199
 have hO81q_209 := hO81q_187.fr0 hF199
 have hS100_210 := hS100_188.fr0 hF199
 have hS116_211 := hS116_189.fr0 hF199
 have hS133_212 := hS133_190.fr0 hF199
 have hB156_213 := hB156_191.fr0 hF199
 have hO174q_214 := hO174q.fr0 hF199
 refine V.pt h195 fun a h215 => ?_
 refine V.cl (av := #[.slice (some ⟨b196, 0, none⟩) 3 3]) h215 (Go.Proofs.enters_of Try.func28 (by kernel_rfl) rfl) (by (have hcz := union_any w197 _ _ [setOf (n.take 200), setOf (l.take 200), setOf (m.take 200)] (sl_three hB198 hS133_212 hS100_210 hS116_211).old (by simp <;> omega); rw [show chkL [setOf (n.take 200), setOf (l.take 200), setOf (m.take 200)] = 0 from all_three (setOf_inc _) (setOf_inc _) (setOf_inc _)] at hcz; exact hcz)) ?_
 rintro _ w220 ⟨A216, c217, rfl, hO218, hF219⟩
 refine ⟨_, rfl, fun a h221 => ?_⟩
 have hsw220 := hF219.size
 have hF_222 := hF_200.new hF219
 have hSl_223 := hSl_201.fr0 hF219
 have hSm_224 := hSm_202.fr0 hF219
 have hSn_225 := hSn_203.fr0 hF219
 have hS21_226 := hS21_204.fr0 hF219
 have hO31q_227 := hO31q_205.fr0 hF219
 have hS42_228 := hS42_206.fr0 hF219
 have hO54q_229 := hO54q_207.fr0 hF219
 have hS67_230 := hS67_208.fr0 hF219
 have hO81q_231 := hO81q_209.fr0 hF219
 have hS100_232 := hS100_210.fr0 hF219
 have hS116_233 := hS116_211.fr0 hF219
 have hS133_234 := hS133_212.fr0 hF219
 have hB156_235 := hB156_213.fr0 hF219
 have hO174q_236 := hO174q_214.fr0 hF219
 have hB198_237 := hB198.fr0 hF219
 have hO218q := hO218.rebase (base' := w.heap.size) (by omega)
 refine V.re h221 [] 55 62 [(9, .slice A216 ((unS [setOf (n.take 200), setOf (l.take 200), setOf (m.take 200)]).length) c217), (10, .int .i64 0)] fun a h238 => k194 _ _ ?_
 have h239 := h238.only [(0, .slice A29 ((setOf (l.take 200)).length) c30), (1, .slice A52 ((setOf (m.take 200)).length) c53), (2, .slice A79 ((setOf (n.take 200)).length) c80), (7, .slice A172 ((unS [setOf (l.take 200), setOf (m.take 200), setOf (n.take 200)]).length) c173), (8, .int .i64 0), (9, .slice A216 ((unS [setOf (n.take 200), setOf (l.take 200), setOf (m.take 200)]).length) c217), (10, .int .i64 0)]
 refine V.sg fun K240 k241 => ?_
 refine V.run h239 [] 3 1 0 [(64, .slice A29 ((setOf (l.take 200)).length) c30), (65, .slice A52 ((setOf (m.take 200)).length) c53), (66, .slice A79 ((setOf (n.take 200)).length) c80)] fun a h242 => ?_
 refine V.go (V.mk [(64, .slice A29 ((setOf (l.take 200)).length) c30), (65, .slice A52 ((setOf (m.take 200)).length) c53), (66, .slice A79 ((setOf (n.take 200)).length) c80)] ⟨h242.e, h242.e, h242.e, trivial⟩ (by kernel_rfl) [.slice A29 ((setOf (l.take 200)).length) c30, .slice A52 ((setOf (m.take 200)).length) c53, .slice A79 ((setOf (n.take 200)).length) c80] 22 (fun b => .slice (some ⟨b, 0, none⟩) 3 3) (by kernel_rfl) ?_)
 intro w244 b243 heb243 hB245 hF246 hsb243
 have hF_247 := hF_222.new hF246
 have hSl_248 := hSl_223.fr0 hF246
 have hSm_249 := hSm_224.fr0 hF246
 have hSn_250 := hSn_225.fr0 hF246
 have hS21_251 := hS21_226.fr0 hF246
 have hO31q_252 := hO31q_227.fr0 hF246
 have hS42_253 := hS42_228.fr0 hF246
 have hO54q_254 := hO54q_229.fr0 hF246
 have hS67_255 := hS67_230.fr0 hF246
 have hO81q_256 := hO81q_231.fr0 hF246
 have hS100_257 := hS100_232.fr0 hF246
 have hS116_258 := hS116_233.fr0 hF246
 have hS133_259 := hS133_234.fr0 hF246
 have hB156_260 := hB156_235.fr0 hF246
 have hO174q_261 := hO174q_236.fr0 hF246
 have hB198_262 := hB198_237.fr0 hF246
 have hO218q_263 := hO218q.fr0 hF246
 refine V.pt h242 fun a h264 => ?_
 refine V.cl (av := #[.slice (some ⟨b243, 0, none⟩) 3 3]) h264 (Go.Proofs.enters_of Try.func31 (by kernel_rfl) rfl) (by (have hcz := meet_any w244 _ _ [setOf (l.take 200), setOf (m.take 200), setOf (n.take 200)] (sl_three hB245 hS100_257 hS116_258 hS133_259).old (by simp <;> omega) (sz_three (sz_set hzl) (sz_set hzm) (sz_set hzn)); rw [show chkL [setOf (l.take 200), setOf (m.take 200), setOf (n.take 200)] = 0 from all_three (setOf_inc _) (setOf_inc _) (setOf_inc _)] at hcz; exact hcz)) ?_
 rintro _ w269 ⟨A265, c266, rfl, hO267, hF268⟩
 refine ⟨_, rfl, fun a h270 => ?_⟩
 have hsw269 := hF268.size
 have hF_271 := hF_247.new hF268
 have hSl_272 := hSl_248.fr0 hF268
 have hSm_273 := hSm_249.fr0 hF268
 have hSn_274 := hSn_250.fr0 hF268
 have hS21_275 := hS21_251.fr0 hF268
 have hO31q_276 := hO31q_252.fr0 hF268
 have hS42_277 := hS42_253.fr0 hF268
 have hO54q_278 := hO54q_254.fr0 hF268
 have hS67_279 := hS67_255.fr0 hF268
 have hO81q_280 := hO81q_256.fr0 hF268
 have hS100_281 := hS100_257.fr0 hF268
 have hS116_282 := hS116_258.fr0 hF268
 have hS133_283 := hS133_259.fr0 hF268
 have hB156_284 := hB156_260.fr0 hF268
 have hO174q_285 := hO174q_261.fr0 hF268
 have hB198_286 := hB198_262.fr0 hF268
 have hO218q_287 := hO218q_263.fr0 hF268
 have hB245_288 := hB245.fr0 hF268
 have hO267q := hO267.rebase (base' := w.heap.size) (by omega)
 refine V.re h270 [] 63 70 [(11, .slice A265 ((meS [setOf (l.take 200), setOf (m.take 200), setOf (n.take 200)]).length) c266), (12, .int .i64 0)] fun a h289 => k241 _ _ ?_
 refine V.sg fun K290 k291 => ?_
 refine V.run h289 [] 3 1 0 [(72, .slice A52 ((setOf (m.take 200)).length) c53), (73, .slice A79 ((setOf (n.take 200)).length) c80), (74, .slice A29 ((setOf (l.take 200)).length) c30)] fun a h292 => ?_
 refine V.go (V.mk [(72, .slice A52 ((setOf (m.take 200)).length) c53), (73, .slice A79 ((setOf (n.take 200)).length) c80), (74, .slice A29 ((setOf (l.take 200)).length) c30)] ⟨h292.e, h292.e, h292.e, trivial⟩ (by kernel_rfl) [.slice A52 ((setOf (m.take 200)).length) c53, .slice A79 ((setOf (n.take 200)).length) c80, .slice A29 ((setOf (l.take 200)).length) c30] 22 (fun b => .slice (some ⟨b, 0, none⟩) 3 3) (by kernel_rfl) ?_)
 intro w294 b293 heb293 hB295 hF296 hsb293
 have hF_297 := hF_271.new hF296
 have hSl_298 := hSl_272.fr0 hF296
 have hSm_299 := hSm_273.fr0 hF296
 have hSn_300 := hSn_274.fr0 hF296
 have hS21_301 := hS21_275.fr0 hF296
 have hO31q_302 := hO31q_276.fr0 hF296
 have hS42_303 := hS42_277.fr0 hF296
 have hO54q_304 := hO54q_278.fr0 hF296
 have hS67_305 := hS67_279.fr0 hF296
 have hO81q_306 := hO81q_280.fr0 hF296
 have hS100_307 := hS100_281.fr0 hF296
 have hS116_308 := hS116_282.fr0 hF296
 have hS133_309 := hS133_283.fr0 hF296
 have hB156_310 := hB156_284.fr0 hF296
 have hO174q_311 := hO174q_285.fr0 hF296
 have hB198_312 := hB198_286.fr0 hF296
 have hO218q_313 := hO218q_287.fr0 hF296
 have hB245_314 := hB245_288.fr0 hF296
 have hO267q_315 := hO267q.fr0 hF296
 refine V.pt h292 fun a h316 => ?_
 refine V.cl (av := #[.slice (some ⟨b293, 0, none⟩) 3 3]) h316 (Go.Proofs.enters_of Try.func31 (by kernel_rfl) rfl) (by (have hcz := meet_any w294 _ _ [setOf (m.take 200), setOf (n.take 200), setOf (l.take 200)] (sl_three hB295 hS116_308 hS133_309 hS100_307).old (by simp <;> omega) (sz_three (sz_set hzm) (sz_set hzn) (sz_set hzl)); rw [show chkL [setOf (m.take 200), setOf (n.take 200), setOf (l.take 200)] = 0 from all_three (setOf_inc _) (setOf_inc _) (setOf_inc _)] at hcz; exact hcz)) ?_
 rintro _ w321 ⟨A317, c318, rfl, hO319, hF320⟩
 refine ⟨_, rfl, fun a h322 => ?_⟩
 have hsw321 := hF320.size
 have hF_323 := hF_297.new hF320
 have hSl_324 := hSl_298.fr0 hF320
 have hSm_325 := hSm_299.fr0 hF320
 have hSn_326 := hSn_300.fr0 hF320
 have hS21_327 := hS21_301.fr0 hF320
 have hO31q_328 := hO31q_302.fr0 hF320
 have hS42_329 := hS42_303.fr0 hF320
 have hO54q_330 := hO54q_304.fr0 hF320
 have hS67_331 := hS67_305.fr0 hF320
 have hO81q_332 := hO81q_306.fr0 hF320
 have hS100_333 := hS100_307.fr0 hF320
 have hS116_334 := hS116_308.fr0 hF320
 have hS133_335 := hS133_309.fr0 hF320
 have hB156_336 := hB156_310.fr0 hF320
 have hO174q_337 := hO174q_311.fr0 hF320
 have hB198_338 := hB198_312.fr0 hF320
 have hO218q_339 := hO218q_313.fr0 hF320
 have hB245_340 := hB245_314.fr0 hF320
 have hO267q_341 := hO267q_315.fr0 hF320
 have hB295_342 := hB295.fr0 hF320
 have hO319q := hO319.rebase (base' := w.heap.size) (by omega)
 refine V.re h322 [] 71 78 [(13, .slice A317 ((meS [setOf (m.take 200), setOf (n.take 200), setOf (l.take 200)]).length) c318), (14, .int .i64 0)] fun a h343 => k291 _ _ ?_
 refine V.sg fun K344 k345 => ?_
 refine V.run h343 [] 2 1 0 [(80, .slice A29 ((setOf (l.take 200)).length) c30), (81, .slice A52 ((setOf (m.take 200)).length) c53)] fun a h346 => ?_
 refine V.go (V.mk [(80, .slice A29 ((setOf (l.take 200)).length) c30), (81, .slice A52 ((setOf (m.take 200)).length) c53)] ⟨h346.e, h346.e, trivial⟩ (by kernel_rfl) [.slice A29 ((setOf (l.take 200)).length) c30, .slice A52 ((setOf (m.take 200)).length) c53] 22 (fun b => .slice (some ⟨b, 0, none⟩) 2 2) (by kernel_rfl) ?_)
 intro w348 b347 heb347 hB349 hF350 hsb347
 have hF_351 := hF_323.new hF350
 have hSl_352 := hSl_324.fr0 hF350
 have hSm_353 := hSm_325.fr0 hF350
 have hSn_354 := hSn_326.fr0 hF350
 have hS21_355 := hS21_327.fr0 hF350
 have hO31q_356 := hO31q_328.fr0 hF350
 have hS42_357 := hS42_329.fr0 hF350
 have hO54q_358 := hO54q_330.fr0 hF350
 have hS67_359 := hS67_331.fr0 hF350
 have hO81q_360 := hO81q_332.fr0 hF350
 have hS100_361 := hS100_333.fr0 hF350
 have hS116_362 := hS116_334.fr0 hF350
 have hS133_363 := hS133_335.fr0 hF350
 have hB156_364 := hB156_336.fr0 hF350
 have hO174q_365 := hO174q_337.fr0 hF350
 have hB198_366 := hB198_338.fr0 hF350
 have hO218q_367 := hO218q_339.fr0 hF350
 have hB245_368 := hB245_340.fr0 hF350
 have hO267q_369 := hO267q_341.fr0 hF350
 have hB295_370 := hB295_342.fr0 hF350
 have hO319q_371 := hO319q.fr0 hF350
 refine V.pt h346 fun a h372 => ?_
 refine V.cl (av := #[.slice (some ⟨b347, 0, none⟩) 2 2]) h372 (Go.Proofs.enters_of Try.func31 (by kernel_rfl) rfl) (by (have hcz := meet_any w348 _ _ [setOf (l.take 200), setOf (m.take 200)] (sl_two hB349 hS100_361 hS116_362).old (by simp <;> omega) (sz_two (sz_set hzl) (sz_set hzm)); rw [show chkL [setOf (l.take 200), setOf (m.take 200)] = 0 from all_two (setOf_inc _) (setOf_inc _)] at hcz; exact hcz)) ?_
 rintro _ w377 ⟨A373, c374, rfl, hO375, hF376⟩
 refine ⟨_, rfl, fun a h378 => ?_⟩
 have hsw377 := hF376.size
 have hF_379 := hF_351.new hF376
 have hSl_380 := hSl_352.fr0 hF376
 have hSm_381 := hSm_353.fr0 hF376
 have hSn_382 := hSn_354.fr0 hF376
 have hS21_383 := hS21_355.fr0 hF376
 have hO31q_384 := hO31q_356.fr0 hF376
 have hS42_385 := hS42_357.fr0 hF376
 have hO54q_386 := hO54q_358.fr0 hF376
 have hS67_387 := hS67_359.fr0 hF376
 have hO81q_388 := hO81q_360.fr0 hF376
 have hS100_389 := hS100_361.fr0 hF376
 have hS116_390 := hS116_362.fr0 hF376
 have hS133_391 := hS133_363.fr0 hF376
 have hB156_392 := hB156_364.fr0 hF376
 have hO174q_393 := hO174q_365.fr0 hF376
 have hB198_394 := hB198_366.fr0 hF376
 have hO218q_395 := hO218q_367.fr0 hF376
 have hB245_396 := hB245_368.fr0 hF376
 have hO267q_397 := hO267q_369.fr0 hF376
 have hB295_398 := hB295_370.fr0 hF376
 have hO319q_399 := hO319q_371.fr0 hF376
 have hB349_400 := hB349.fr0 hF376
 have hO375q := hO375.rebase (base' := w.heap.size) (by omega)
 refine V.re h378 [] 79 85 [(15, .slice A373 ((meS [setOf (l.take 200), setOf (m.take 200)]).length) c374), (16, .int .i64 0)] fun a h401 => k345 _ _ ?_
 refine V.sg fun K402 k403 => ?_
 refine V.run h401 [] 2 1 0 [(87, .slice A29 ((setOf (l.take 200)).length) c30), (88, .slice A52 ((setOf (m.take 200)).length) c53)] fun a h404 => ?_
 refine V.go (V.mk [(87, .slice A29 ((setOf (l.take 200)).length) c30), (88, .slice A52 ((setOf (m.take 200)).length) c53)] ⟨h404.e, h404.e, trivial⟩ (by kernel_rfl) [.slice A29 ((setOf (l.take 200)).length) c30, .slice A52 ((setOf (m.take 200)).length) c53] 22 (fun b => .slice (some ⟨b, 0, none⟩) 2 2) (by kernel_rfl) ?_)
 intro w406 b405 heb405 hB407 hF408 hsb405
 have hF_409 := hF_379.new hF408
 have hSl_410 := hSl_380.fr0 hF408
 have hSm_411 := hSm_381.fr0 hF408
 have hSn_412 := hSn_382.fr0 hF408
 have hS21_413 := hS21_383.fr0 hF408
 have hO31q_414 := hO31q_384.fr0 hF408
 have hS42_415 := hS42_385.fr0 hF408
 have hO54q_416 := hO54q_386.fr0 hF408
 have hS67_417 := hS67_387.fr0 hF408
 have hO81q_418 := hO81q_388.fr0 hF408
 have hS100_419 := hS100_389.fr0 hF408
 have hS116_420 := hS116_390.fr0 hF408
 have hS133_421 := hS133_391.fr0 hF408
 have hB156_422 := hB156_392.fr0 hF408
 have hO174q_423 := hO174q_393.fr0 hF408
 have hB198_424 := hB198_394.fr0 hF408
 have hO218q_425 := hO218q_395.fr0 hF408
 have hB245_426 := hB245_396.fr0 hF408
 have hO267q_427 := hO267q_397.fr0 hF408
 have hB295_428 := hB295_398.fr0 hF408
 have hO319q_429 := hO319q_399.fr0 hF408
 have hB349_430 := hB349_400.fr0 hF408
 have hO375q_431 := hO375q.fr0 hF408
 refine V.pt h404 fun a h432 => ?_
 refine V.cl (av := #[.slice (some ⟨b405, 0, none⟩) 2 2]) h432 (Go.Proofs.enters_of Try.func33 (by kernel_rfl) rfl) (by (have hcz := less_sets_any w406 _ _ [setOf (l.take 200), setOf (m.take 200)] (sl_two hB407 hS100_419 hS116_420).old (by simp <;> omega) (sz_two (sz_set hzl) (sz_set hzm)); rw [show chkL [setOf (l.take 200), setOf (m.take 200)] = 0 from all_two (setOf_inc _) (setOf_inc _)] at hcz; exact hcz)) ?_
 rintro _ w437 ⟨A433, c434, rfl, hO435, hF436⟩
 refine ⟨_, rfl, fun a h438 => ?_⟩
 have hsw437 := hF436.size
 have hF_439 := hF_409.new hF436
 have hSl_440 := hSl_410.fr0 hF436
 have hSm_441 := hSm_411.fr0 hF436
 have hSn_442 := hSn_412.fr0 hF436
 have hS21_443 := hS21_413.fr0 hF436
 have hO31q_444 := hO31q_414.fr0 hF436
 have hS42_445 := hS42_415.fr0 hF436
 have hO54q_446 := hO54q_416.fr0 hF436
 have hS67_447 := hS67_417.fr0 hF436
 have hO81q_448 := hO81q_418.fr0 hF436
 have hS100_449 := hS100_419.fr0 hF436
 have hS116_450 := hS116_420.fr0 hF436
 have hS133_451 := hS133_421.fr0 hF436
 have hB156_452 := hB156_422.fr0 hF436
 have hO174q_453 := hO174q_423.fr0 hF436
 have hB198_454 := hB198_424.fr0 hF436
 have hO218q_455 := hO218q_425.fr0 hF436
 have hB245_456 := hB245_426.fr0 hF436
 have hO267q_457 := hO267q_427.fr0 hF436
 have hB295_458 := hB295_428.fr0 hF436
 have hO319q_459 := hO319q_429.fr0 hF436
 have hB349_460 := hB349_430.fr0 hF436
 have hO375q_461 := hO375q_431.fr0 hF436
 have hB407_462 := hB407.fr0 hF436
 have hO435q := hO435.rebase (base' := w.heap.size) (by omega)
 refine V.re h438 [] 86 92 [(17, .slice A433 ((leS [setOf (l.take 200), setOf (m.take 200)]).length) c434), (18, .int .i64 0)] fun a h463 => k403 _ _ ?_
 refine V.seq fun K464 k465 => ?_
 have hml : (meS [setOf (l.take 200), setOf (m.take 200)]).length ≤ (setOf (l.take 200)).length ∧ (leS [setOf (l.take 200), setOf (m.take 200)]).length ≤ (setOf (l.take 200)).length := meS_len (setOf_inc _) (setOf_inc _)
 refine V.rg ?_
 refine V.run h463 [] 2 1 0 [(94, .slice A373 ((meS [setOf (l.take 200), setOf (m.take 200)]).length) c374), (95, .slice A433 ((leS [setOf (l.take 200), setOf (m.take 200)]).length) c434)] fun a h466 => ?_
 refine V.go (V.mk [(94, .slice A373 ((meS [setOf (l.take 200), setOf (m.take 200)]).length) c374), (95, .slice A433 ((leS [setOf (l.take 200), setOf (m.take 200)]).length) c434)] ⟨h466.e, h466.e, trivial⟩ (by kernel_rfl) [.slice A373 ((meS [setOf (l.take 200), setOf (m.take 200)]).length) c374, .slice A433 ((leS [setOf (l.take 200), setOf (m.take 200)]).length) c434] 22 (fun b => .slice (some ⟨b, 0, none⟩) 2 2) (by kernel_rfl) ?_)
 intro w468 b467 heb467 hB469 hF470 hsb467
 have hF_471 := hF_439.new hF470
 have hSl_472 := hSl_440.fr0 hF470
 have hSm_473 := hSm_441.fr0 hF470
 have hSn_474 := hSn_442.fr0 hF470
 have hS21_475 := hS21_443.fr0 hF470
 have hO31q_476 := hO31q_444.fr0 hF470
 have hS42_477 := hS42_445.fr0 hF470
 have hO54q_478 := hO54q_446.fr0 hF470
 have hS67_479 := hS67_447.fr0 hF470
 have hO81q_480 := hO81q_448.fr0 hF470
 have hS100_481 := hS100_449.fr0 hF470
 have hS116_482 := hS116_450.fr0 hF470
 have hS133_483 := hS133_451.fr0 hF470
 have hB156_484 := hB156_452.fr0 hF470
 have hO174q_485 := hO174q_453.fr0 hF470
 have hB198_486 := hB198_454.fr0 hF470
 have hO218q_487 := hO218q_455.fr0 hF470
 have hB245_488 := hB245_456.fr0 hF470
 have hO267q_489 := hO267q_457.fr0 hF470
 have hB295_490 := hB295_458.fr0 hF470
 have hO319q_491 := hO319q_459.fr0 hF470
 have hB349_492 := hB349_460.fr0 hF470
 have hO375q_493 := hO375q_461.fr0 hF470
 have hB407_494 := hB407_462.fr0 hF470
 have hO435q_495 := hO435q.fr0 hF470
 refine V.pt h466 fun a h496 => ?_
 have hS497 := hO375q_493.is
 have hS498 := hO435q_495.is
 refine V.cl (av := #[.slice (some ⟨b467, 0, none⟩) 2 2]) h496 (Go.Proofs.enters_of Try.func28 (by kernel_rfl) rfl) (by (have hcz := union_any w468 _ _ [meS [setOf (l.take 200), setOf (m.take 200)], leS [setOf (l.take 200), setOf (m.take 200)]] (sl_two hB469 hS497 hS498).old (by simp <;> omega); rw [show chkL [meS [setOf (l.take 200), setOf (m.take 200)], leS [setOf (l.take 200), setOf (m.take 200)]] = 0 from all_two (meS_inc _) (leS_inc _)] at hcz; exact hcz)) ?_
 rintro _ w503 ⟨A499, c500, rfl, hO501, hF502⟩
 refine ⟨_, rfl, fun a h504 => ?_⟩
 have hsw503 := hF502.size
 have hF_505 := hF_471.new hF502
 have hSl_506 := hSl_472.fr0 hF502
 have hSm_507 := hSm_473.fr0 hF502
 have hSn_508 := hSn_474.fr0 hF502
 have hS21_509 := hS21_475.fr0 hF502
 have hO31q_510 := hO31q_476.fr0 hF502
 have hS42_511 := hS42_477.fr0 hF502
 have hO54q_512 := hO54q_478.fr0 hF502
 have hS67_513 := hS67_479.fr0 hF502
 have hO81q_514 := hO81q_480.fr0 hF502
 have hS100_515 := hS100_481.fr0 hF502
 have hS116_516 := hS116_482.fr0 hF502
 have hS133_517 := hS133_483.fr0 hF502
 have hB156_518 := hB156_484.fr0 hF502
 have hO174q_519 := hO174q_485.fr0 hF502
 have hB198_520 := hB198_486.fr0 hF502
 have hO218q_521 := hO218q_487.fr0 hF502
 have hB245_522 := hB245_488.fr0 hF502
 have hO267q_523 := hO267q_489.fr0 hF502
 have hB295_524 := hB295_490.fr0 hF502
 have hO319q_525 := hO319q_491.fr0 hF502
 have hB349_526 := hB349_492.fr0 hF502
 have hO375q_527 := hO375q_493.fr0 hF502
 have hB407_528 := hB407_494.fr0 hF502
 have hO435q_529 := hO435q_495.fr0 hF502
 have hB469_530 := hB469.fr0 hF502
 have hS497_531 := hS497.fr0 hF502
 have hS498_532 := hS498.fr0 hF502
 have hO501q := hO501.rebase (base' := w.heap.size) (by omega)
 refine V.re h504 [] 93 99 [(19, .slice A499 ((unS [meS [setOf (l.take 200), setOf (m.take 200)], leS [setOf (l.take 200), setOf (m.take 200)]]).length) c500), (20, .int .i64 0)] fun a h533 => k465 _ _ ?_
 have h534 := h533.only [(0, .slice A29 ((setOf (l.take 200)).length) c30), (7, .slice A172 ((unS [setOf (l.take 200), setOf (m.take 200), setOf (n.take 200)]).length) c173), (8, .int .i64 0), (9, .slice A216 ((unS [setOf (n.take 200), setOf (l.take 200), setOf (m.take 200)]).length) c217), (10, .int .i64 0), (11, .slice A265 ((meS [setOf (l.take 200), setOf (m.take 200), setOf (n.take 200)]).length) c266), (12, .int .i64 0), (13, .slice A317 ((meS [setOf (m.take 200), setOf (n.take 200), setOf (l.take 200)]).length) c318), (14, .int .i64 0), (15, .slice A373 ((meS [setOf (l.take 200), setOf (m.take 200)]).length) c374), (16, .int .i64 0), (17, .slice A433 ((leS [setOf (l.take 200), setOf (m.take 200)]).length) c434), (18, .int .i64 0), (19, .slice A499 ((unS [meS [setOf (l.take 200), setOf (m.take 200)], leS [setOf (l.take 200), setOf (m.take 200)]]).length) c500), (20, .int .i64 0)]
 refine V.sg fun K535 k536 => ?_
 refine V.run h534 [] 2 1 0 [(101, .slice A373 ((meS [setOf (l.take 200), setOf (m.take 200)]).length) c374), (102, .slice A433 ((leS [setOf (l.take 200), setOf (m.take 200)]).length) c434)] fun a h537 => ?_
 refine V.go (V.mk [(101, .slice A373 ((meS [setOf (l.take 200), setOf (m.take 200)]).length) c374), (102, .slice A433 ((leS [setOf (l.take 200), setOf (m.take 200)]).length) c434)] ⟨h537.e, h537.e, trivial⟩ (by kernel_rfl) [.slice A373 ((meS [setOf (l.take 200), setOf (m.take 200)]).length) c374, .slice A433 ((leS [setOf (l.take 200), setOf (m.take 200)]).length) c434] 22 (fun b => .slice (some ⟨b, 0, none⟩) 2 2) (by kernel_rfl) ?_)
 intro w539 b538 heb538 hB540 hF541 hsb538
 have hF_542 := hF_505.new hF541
 have hSl_543 := hSl_506.fr0 hF541
 have hSm_544 := hSm_507.fr0 hF541
 have hSn_545 := hSn_508.fr0 hF541
 have hS21_546 := hS21_509.fr0 hF541
 have hO31q_547 := hO31q_510.fr0 hF541
 have hS42_548 := hS42_511.fr0 hF541
 have hO54q_549 := hO54q_512.fr0 hF541
 have hS67_550 := hS67_513.fr0 hF541
 have hO81q_551 := hO81q_514.fr0 hF541
 have hS100_552 := hS100_515.fr0 hF541
 have hS116_553 := hS116_516.fr0 hF541
 have hS133_554 := hS133_517.fr0 hF541
 have hB156_555 := hB156_518.fr0 hF541
 have hO174q_556 := hO174q_519.fr0 hF541
 have hB198_557 := hB198_520.fr0 hF541
 have hO218q_558 := hO218q_521.fr0 hF541
 have hB245_559 := hB245_522.fr0 hF541
 have hO267q_560 := hO267q_523.fr0 hF541
 have hB295_561 := hB295_524.fr0 hF541
 have hO319q_562 := hO319q_525.fr0 hF541
 have hB349_563 := hB349_526.fr0 hF541
 have hO375q_564 := hO375q_527.fr0 hF541
 have hB407_565 := hB407_528.fr0 hF541
 have hO435q_566 := hO435q_529.fr0 hF541
 have hB469_567 := hB469_530.fr0 hF541
 have hS497_568 := hS497_531.fr0 hF541
 have hS498_569 := hS498_532.fr0 hF541
 have hO501q_570 := hO501q.fr0 hF541
 refine V.pt h537 fun a h571 => ?_
 refine V.cl (av := #[.slice (some ⟨b538, 0, none⟩) 2 2]) h571 (Go.Proofs.enters_of Try.func31 (by kernel_rfl) rfl) (by (have hcz := meet_any w539 _ _ [meS [setOf (l.take 200), setOf (m.take 200)], leS [setOf (l.take 200), setOf (m.take 200)]] (sl_two hB540 hS497_568 hS498_569).old (by simp <;> omega) (sz_two (fun s hs => sz_set hzl s (meS_sub hs)) (fun s hs => sz_set hzl s (leS_sub hs))); rw [show chkL [meS [setOf (l.take 200), setOf (m.take 200)], leS [setOf (l.take 200), setOf (m.take 200)]] = 0 from all_two (meS_inc _) (leS_inc _)] at hcz; exact hcz)) ?_
 rintro _ w576 ⟨A572, c573, rfl, hO574, hF575⟩
 refine ⟨_, rfl, fun a h577 => ?_⟩
 have hsw576 := hF575.size
 have hF_578 := hF_542.new hF575
 have hSl_579 := hSl_543.fr0 hF575
 have hSm_580 := hSm_544.fr0 hF575
 have hSn_581 := hSn_545.fr0 hF575
 have hS21_582 := hS21_546.fr0 hF575
 have hO31q_583 := hO31q_547.fr0 hF575
 have hS42_584 := hS42_548.fr0 hF575
 have hO54q_585 := hO54q_549.fr0 hF575
 have hS67_586 := hS67_550.fr0 hF575
 have hO81q_587 := hO81q_551.fr0 hF575
 have hS100_588 := hS100_552.fr0 hF575
 have hS116_589 := hS116_553.fr0 hF575
 have hS133_590 := hS133_554.fr0 hF575
 have hB156_591 := hB156_555.fr0 hF575
 have hO174q_592 := hO174q_556.fr0 hF575
 have hB198_593 := hB198_557.fr0 hF575
 have hO218q_594 := hO218q_558.fr0 hF575
 have hB245_595 := hB245_559.fr0 hF575
 have hO267q_596 := hO267q_560.fr0 hF575
 have hB295_597 := hB295_561.fr0 hF575
 have hO319q_598 := hO319q_562.fr0 hF575
 have hB349_599 := hB349_563.fr0 hF575
 have hO375q_600 := hO375q_564.fr0 hF575
 have hB407_601 := hB407_565.fr0 hF575
 have hO435q_602 := hO435q_566.fr0 hF575
 have hB469_603 := hB469_567.fr0 hF575
 have hS497_604 := hS497_568.fr0 hF575
 have hS498_605 := hS498_569.fr0 hF575
 have hO501q_606 := hO501q_570.fr0 hF575
 have hB540_607 := hB540.fr0 hF575
 have hO574q := hO574.rebase (base' := w.heap.size) (by omega)
 refine V.re h577 [] 100 106 [(21, .slice A572 ((meS [meS [setOf (l.take 200), setOf (m.take 200)], leS [setOf (l.take 200), setOf (m.take 200)]]).length) c573), (22, .int .i64 0)] fun a h608 => k536 _ _ ?_
 refine V.seq fun K609 k610 => ?_
 refine V.sr h608 [] 107 135 [(136, .bool false)] fun a h613 => ?_
 refine V.cf h613 ?_
 refine V.skip ?_
 refine V.then_n (k610 _ _ ?_)
 refine V.seq fun K614 k615 => ?_
 have hu617 : unS [setOf (n.take 200), setOf (l.take 200), setOf (m.take 200)] = unS [setOf (l.take 200), setOf (m.take 200), setOf (n.take 200)] := un_rot (setOf_inc _) (setOf_inc _) (setOf_inc _)
 have h616 := h613.eq 9 (v := (.slice A216 ((unS [setOf (n.take 200), setOf (l.take 200), setOf (m.take 200)]).length) c217)) (u := (.slice A216 ((unS [setOf (l.take 200), setOf (m.take 200), setOf (n.take 200)]).length) c217)) (V.sl_eq (by rw [hu617]))
 rw [hu617] at hO218q_594
 have hu619 : meS [setOf (m.take 200), setOf (n.take 200), setOf (l.take 200)] = meS [setOf (l.take 200), setOf (m.take 200), setOf (n.take 200)] := me_rot (setOf_inc _) (setOf_inc _) (setOf_inc _)
 have h618 := h616.eq 13 (v := (.slice A317 ((meS [setOf (m.take 200), setOf (n.take 200), setOf (l.take 200)]).length) c318)) (u := (.slice A317 ((meS [setOf (l.take 200), setOf (m.take 200), setOf (n.take 200)]).length) c318)) (V.sl_eq (by rw [hu619]))
 rw [hu619] at hO319q_598
 have hu621 : unS [meS [setOf (l.take 200), setOf (m.take 200)], leS [setOf (l.take 200), setOf (m.take 200)]] = setOf (l.take 200) := un_split (setOf_inc _) (setOf_inc _)
 have h620 := h618.eq 19 (v := (.slice A499 ((unS [meS [setOf (l.take 200), setOf (m.take 200)], leS [setOf (l.take 200), setOf (m.take 200)]]).length) c500)) (u := (.slice A499 ((setOf (l.take 200)).length) c500)) (V.sl_eq (by rw [hu621]))
 rw [hu621] at hO501q_606
 have hme0 : (meS [meS [setOf (l.take 200), setOf (m.take 200)], leS [setOf (l.take 200), setOf (m.take 200)]]).length = 0 := me_split (setOf_inc _) (setOf_inc _)
 have hls : (meS [setOf (l.take 200), setOf (m.take 200)]).length + (leS [setOf (l.take 200), setOf (m.take 200)]).length = (setOf (l.take 200)).length := len_split (setOf_inc _) (setOf_inc _)
 refine V.rg ?_
 refine V.run h620 [] 2 1 0 [(137, .slice A172 ((unS [setOf (l.take 200), setOf (m.take 200), setOf (n.take 200)]).length) c173), (138, .slice A216 ((unS [setOf (l.take 200), setOf (m.take 200), setOf (n.take 200)]).length) c217)] fun a h622 => ?_
 have hS623 := hO174q_592.is
 have hS624 := hO218q_594.is
 refine V.cl h622 (Go.Proofs.enters_of Try.func18 (by kernel_rfl) rfl) (same_any w576 A172 c173 (unS [setOf (l.take 200), setOf (m.take 200), setOf (n.take 200)]) hS623.old A216 c217 hS624.old) ?_
 rintro _ w626 ⟨rfl, hF625⟩
 refine ⟨_, rfl, fun a h627 => ?_⟩
 have hsw626 := hF625.size
 have hF_628 := hF_578.new hF625
 have hSl_629 := hSl_579.fr0 hF625
 have hSm_630 := hSm_580.fr0 hF625
 have hSn_631 := hSn_581.fr0 hF625
 have hS21_632 := hS21_582.fr0 hF625
 have hO31q_633 := hO31q_583.fr0 hF625
 have hS42_634 := hS42_584.fr0 hF625
 have hO54q_635 := hO54q_585.fr0 hF625
 have hS67_636 := hS67_586.fr0 hF625
 have hO81q_637 := hO81q_587.fr0 hF625
 have hS100_638 := hS100_588.fr0 hF625
 have hS116_639 := hS116_589.fr0 hF625
 have hS133_640 := hS133_590.fr0 hF625
 have hB156_641 := hB156_591.fr0 hF625
 have hO174q_642 := hO174q_592.fr0 hF625
 have hB198_643 := hB198_593.fr0 hF625
 have hO218q_644 := hO218q_594.fr0 hF625
 have hB245_645 := hB245_595.fr0 hF625
 have hO267q_646 := hO267q_596.fr0 hF625
 have hB295_647 := hB295_597.fr0 hF625
 have hO319q_648 := hO319q_598.fr0 hF625
 have hB349_649 := hB349_599.fr0 hF625
 have hO375q_650 := hO375q_600.fr0 hF625
 have hB407_651 := hB407_601.fr0 hF625
 have hO435q_652 := hO435q_602.fr0 hF625
 have hB469_653 := hB469_603.fr0 hF625
 have hS497_654 := hS497_604.fr0 hF625
 have hS498_655 := hS498_605.fr0 hF625
 have hO501q_656 := hO501q_606.fr0 hF625
 have hB540_657 := hB540_607.fr0 hF625
 have hO574q_658 := hO574q.fr0 hF625
 have hS623_659 := hS623.fr0 hF625
 have hS624_660 := hS624.fr0 hF625
 refine V.run h627 [] 3 1 0 [(140, .bool true), (141, .slice A265 ((meS [setOf (l.take 200), setOf (m.take 200), setOf (n.take 200)]).length) c266), (142, .slice A317 ((meS [setOf (l.take 200), setOf (m.take 200), setOf (n.take 200)]).length) c318)] fun a h661 => ?_
 have hS662 := hO267q_646.is
 have hS663 := hO319q_648.is
 refine V.clg h661 (Go.Proofs.enters_of Try.func18 (by kernel_rfl) rfl) (same_any w626 A265 c266 (meS [setOf (l.take 200), setOf (m.take 200), setOf (n.take 200)]) hS662.old A317 c318 hS663.old) ?_
 rintro _ w665 ⟨rfl, hF664⟩
 refine ⟨_, rfl, fun a h666 => ?_⟩
 have hsw665 := hF664.size
 have hF_667 := hF_628.new hF664
 have hSl_668 := hSl_629.fr0 hF664
 have hSm_669 := hSm_630.fr0 hF664
 have hSn_670 := hSn_631.fr0 hF664
 have hS21_671 := hS21_632.fr0 hF664
 have hO31q_672 := hO31q_633.fr0 hF664
 have hS42_673 := hS42_634.fr0 hF664
 have hO54q_674 := hO54q_635.fr0 hF664
 have hS67_675 := hS67_636.fr0 hF664
 have hO81q_676 := hO81q_637.fr0 hF664
 have hS100_677 := hS100_638.fr0 hF664
 have hS116_678 := hS116_639.fr0 hF664
 have hS133_679 := hS133_640.fr0 hF664
 have hB156_680 := hB156_641.fr0 hF664
 have hO174q_681 := hO174q_642.fr0 hF664
 have hB198_682 := hB198_643.fr0 hF664
 have hO218q_683 := hO218q_644.fr0 hF664
 have hB245_684 := hB245_645.fr0 hF664
 have hO267q_685 := hO267q_646.fr0 hF664
 have hB295_686 := hB295_647.fr0 hF664
 have hO319q_687 := hO319q_648.fr0 hF664
 have hB349_688 := hB349_649.fr0 hF664
 have hO375q_689 := hO375q_650.fr0 hF664
 have hB407_690 := hB407_651.fr0 hF664
 have hO435q_691 := hO435q_652.fr0 hF664
 have hB469_692 := hB469_653.fr0 hF664
 have hS497_693 := hS497_654.fr0 hF664
 have hS498_694 := hS498_655.fr0 hF664
 have hO501q_695 := hO501q_656.fr0 hF664
 have hB540_696 := hB540_657.fr0 hF664
 have hO574q_697 := hO574q_658.fr0 hF664
 have hS623_698 := hS623_659.fr0 hF664
 have hS624_699 := hS624_660.fr0 hF664
 have hS662_700 := hS662.fr0 hF664
 have hS663_701 := hS663.fr0 hF664
 refine V.run h666 [] 4 144 144 [(145, .bool true), (146, .slice A499 ((setOf (l.take 200)).length) c500), (147, .slice A29 ((setOf (l.take 200)).length) c30)] fun a h702 => ?_
 have hS703 := hO501q_695.is
 refine V.clg h702 (Go.Proofs.enters_of Try.func18 (by kernel_rfl) rfl) (same_any w665 A499 c500 (setOf (l.take 200)) hS703.old A29 c30 hS100_677.old) ?_
 rintro _ w705 ⟨rfl, hF704⟩
 refine ⟨_, rfl, fun a h706 => ?_⟩
 have hsw705 := hF704.size
 have hF_707 := hF_667.new hF704
 have hSl_708 := hSl_668.fr0 hF704
 have hSm_709 := hSm_669.fr0 hF704
 have hSn_710 := hSn_670.fr0 hF704
 have hS21_711 := hS21_671.fr0 hF704
 have hO31q_712 := hO31q_672.fr0 hF704
 have hS42_713 := hS42_673.fr0 hF704
 have hO54q_714 := hO54q_674.fr0 hF704
 have hS67_715 := hS67_675.fr0 hF704
 have hO81q_716 := hO81q_676.fr0 hF704
 have hS100_717 := hS100_677.fr0 hF704
 have hS116_718 := hS116_678.fr0 hF704
 have hS133_719 := hS133_679.fr0 hF704
 have hB156_720 := hB156_680.fr0 hF704
 have hO174q_721 := hO174q_681.fr0 hF704
 have hB198_722 := hB198_682.fr0 hF704
 have hO218q_723 := hO218q_683.fr0 hF704
 have hB245_724 := hB245_684.fr0 hF704
 have hO267q_725 := hO267q_685.fr0 hF704
 have hB295_726 := hB295_686.fr0 hF704
 have hO319q_727 := hO319q_687.fr0 hF704
 have hB349_728 := hB349_688.fr0 hF704
 have hO375q_729 := hO375q_689.fr0 hF704
 have hB407_730 := hB407_690.fr0 hF704
 have hO435q_731 := hO435q_691.fr0 hF704
 have hB469_732 := hB469_692.fr0 hF704
 have hS497_733 := hS497_693.fr0 hF704
 have hS498_734 := hS498_694.fr0 hF704
 have hO501q_735 := hO501q_695.fr0 hF704
 have hB540_736 := hB540_696.fr0 hF704
 have hO574q_737 := hO574q_697.fr0 hF704
 have hS623_738 := hS623_698.fr0 hF704
 have hS624_739 := hS624_699.fr0 hF704
 have hS662_740 := hS662_700.fr0 hF704
 have hS663_741 := hS663_701.fr0 hF704
 have hS703_742 := hS703.fr0 hF704
 refine V.run h706 [(4, .eq (((meS [meS [setOf (l.take 200), setOf (m.take 200)], leS [setOf (l.take 200), setOf (m.take 200)]]).length : Nat) : Int) 0)] 7 149 154 [(155, .bool (decide ((((meS [meS [setOf (l.take 200), setOf (m.take 200)], leS [setOf (l.take 200), setOf (m.take 200)]]).length : Nat) : Int) = 0)))] fun a h743 => ?_
 by_cases hg744 : (((meS [meS [setOf (l.take 200), setOf (m.take 200)], leS [setOf (l.take 200), setOf (m.take 200)]]).length : Nat) : Int) = 0
 ·
  have h745 := h743.kt 155 hg744
  refine V.re h745 [(4, .i ((((meS [setOf (l.take 200), setOf (m.take 200)]).length : Nat) : Int) + (((leS [setOf (l.take 200), setOf (m.take 200)]).length : Nat) : Int))), (2, .eq ((((meS [setOf (l.take 200), setOf (m.take 200)]).length : Nat) : Int) + (((leS [setOf (l.take 200), setOf (m.take 200)]).length : Nat) : Int)) (((setOf (l.take 200)).length : Nat) : Int))] 156 164 [(6, .bool (decide (((((meS [setOf (l.take 200), setOf (m.take 200)]).length : Nat) : Int) + (((leS [setOf (l.take 200), setOf (m.take 200)]).length : Nat) : Int)) = (((setOf (l.take 200)).length : Nat) : Int))))] fun a h746 => k615 _ _ ?_
  have h747 := h746.only [(6, .bool (decide (((((meS [setOf (l.take 200), setOf (m.take 200)]).length : Nat) : Int) + (((leS [setOf (l.take 200), setOf (m.take 200)]).length : Nat) : Int)) = (((setOf (l.take 200)).length : Nat) : Int))))]
  refine V.ret ?_
  refine V.r1 h747 (.bool (decide (((((meS [setOf (l.take 200), setOf (m.take 200)]).length : Nat) : Int) + (((leS [setOf (l.take 200), setOf (m.take 200)]).length : Nat) : Int)) = (((setOf (l.take 200)).length : Nat) : Int)))) ?_
  exact ⟨congrArg (fun b => Ending.returned (Value.bool b)) (decide_eq_true (by omega)), hF_707⟩
 ·
  have h748 := h743.kf 155 hg744
  refine V.re h748 [] 156 164 [(6, .bool false)] fun a h749 => k615 _ _ ?_
  have h750 := h749.only [(6, .bool false)]
  refine V.ret ?_
  refine V.r1 h750 (.bool false) ?_
  exfalso; omega
end Go.Proofs.Ytkepojdmgdgaoaa
