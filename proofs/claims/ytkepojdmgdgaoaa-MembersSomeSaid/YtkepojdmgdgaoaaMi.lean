/- Walks: MembersSome. -/
import Derived.Test.YtkepojdmgdgaoaaProg
import Derived.Test.YtkepojdmgdgaoaaMg
namespace Go.Proofs.Ytkepojdmgdgaoaa
open Go.V Go.Base
open Go.RowKit (Below)
attribute [local irreducible] Act.put Act.eval
set_option linter.unusedVariables false
set_option linter.unusedSimpArgs false
theorem some_len {S : List ByteArray} {n : Int} {d : Nat} (hE : someE S n = 0) : (0 ≤ n → ((someR S n d).length : Int) = min n (S.length : Int)) ∧ (n < 0 → 0 < S.length → ((someR S n d).length : Int) = -n) := by
  unfold someR someL
  by_cases hS : S = []
  · subst hS
    rw [if_neg (by simp)]
    refine ⟨fun h => ?_, fun _ h => absurd h (by simp)⟩
    simp; omega
  · rw [if_pos ⟨hE, hS⟩]
    refine ⟨fun h => ?_, fun h _ => ?_⟩
    · rw [if_neg (by omega), outL_len (by omega)]; omega
    · rw [if_pos h, negL_len]; omega
theorem some_mem {S : List ByteArray} {n : Int} {d i : Nat} (hi : i < (someR S n d).length) : at_ Rp.str (someR S n d) (i : Int) ∈ S := by
  show (someR S n d).getD i ⟨#[]⟩ ∈ S
  unfold someR at *
  split at hi
  · rename_i h
    rw [if_pos h]
    have hp : 0 < S.length := Nat.pos_of_ne_zero fun q => h.2 (List.eq_nil_of_length_eq_zero q)
    unfold someL at *
    split at hi
    · rename_i h1
      rw [if_pos h1]
      rw [negL_len] at hi
      exact negL_mem hp hi
    · rename_i h1
      rw [if_neg h1]
      rw [outL_len (by omega)] at hi
      unfold outL
      rw [List.getD_eq_getElem?_getD, List.getElem?_take_of_lt hi, ← List.getD_eq_getElem?_getD]
      exact rowT_mem (by omega) (by omega)
  · simp at hi
theorem some_nd {S : List ByteArray} (hS : Inc S) {n : Int} {d i : Nat} (hn : 0 ≤ n) (hi : i < (someR S n d).length) : at_ Rp.str (someR S n d) (i : Int) ∉ (someR S n d).take i := by
  show (someR S n d).getD i ⟨#[]⟩ ∉ _
  intro hm
  obtain ⟨j, hj, he⟩ := List.getElem_of_mem hm
  rw [List.length_take] at hj
  rw [List.getElem_take] at he
  have hj' : (someR S n d).getD j ⟨#[]⟩ = (someR S n d).getD i ⟨#[]⟩ := by
    rw [List.getD_eq_getElem?_getD, List.getElem?_eq_getElem (by omega)]; exact he
  revert hj'
  unfold someR at *
  split at hi
  · rename_i h
    rw [if_pos h] at hj ⊢
    unfold someL at *
    rw [if_neg (by omega)] at hi hj ⊢
    rw [outL_len (by omega)] at hi hj
    unfold outL
    rw [List.getD_eq_getElem?_getD, List.getD_eq_getElem?_getD, List.getElem?_take_of_lt hi, List.getElem?_take_of_lt (by omega), ← List.getD_eq_getElem?_getD, ← List.getD_eq_getElem?_getD]
    exact rowT_ne hS.nodup (by omega) (by omega) (by omega) (by omega)
  · simp at hi
theorem in_at' (w : World) (A : Option Addr) (c n : Nat) (l : List ByteArray) (hn : l.length = n) (hS : SlR Rp.str (fun k => k < w.heap.size) w (.slice A n c) l) (x : ByteArray) : Calls Try.prog 14 #[.slice A n c, .string x] w (fun e w' => e = .returned (.bool (decide (x ∈ l))) ∧ Fr [] w w') := by subst hn; exact in_any w A c l hS x
set_option maxHeartbeats 4000000 in
set_option maxRecDepth 20000 in
theorem membersSome_any (w : World) (Al : Option Addr) (cl : Nat) (l : List ByteArray) (hSl : SlR Rp.str (fun k => k < w.heap.size) w (.slice Al l.length cl) l) (n : Int) (hn : -9223372036854775808 ≤ n ∧ n ≤ 9223372036854775807) (d : Nat) (hd : d < 18446744073709551616) : Calls Try.prog 3 #[.slice Al l.length cl, .int .i64 n, .int .u64 ((d : Nat) : Int)] w (fun e w' => e = .returned (.bool true) ∧ Fr [] w w') := by
 have hF := Fr.refl [] w
 refine V.en 86 Try.func3 fun a h1 => ?_
 refine V.sr h1 [] 6 6 [] fun a h4 => ?_
 refine V.seq fun K5 k6 => ?_
 refine V.sg fun K7 k8 => ?_
 refine V.cl h4 (Go.Proofs.enters_of Try.func10 (by kernel_rfl) rfl) (awake_any w) ?_
 rintro _ w10 ⟨rfl, hF9⟩
 refine ⟨_, rfl, fun a h11 => ?_⟩
 have hsw10 := hF9.size
 have hF_12 := hF.new hF9
 have hSl_13 := hSl.fr0 hF9
 refine V.re h11 [] 1 0 [(11, .bool false)] fun a h14 => k8 _ _ ?_
 refine V.cf h14 ?_
 refine V.skip ?_
 refine V.then_n (k6 _ _ ?_)
 refine V.sg fun K15 k16 => ?_
 refine V.run h14 [] 1 1 0 [(12, .slice Al l.length cl)] fun a h17 => ?_
 refine V.cl h17 (Go.Proofs.enters_of Try.func12 (by kernel_rfl) rfl) (few_any w10 Al cl l hSl_13.old) ?_
 rintro _ w21 ⟨rfl, hF18⟩
 refine ⟨_, rfl, fun a h22 => ?_⟩
 have hsw21 := hF18.size
 have hF_23 := hF_12.new hF18
 have hSl_24 := hSl_13.fr0 hF18
 have hS19 := (hSl_13.fr0 hF18).tke 200
 have hfw20 : (l.take 200).length ≤ 200 := by rw [List.length_take]; omega
 refine V.cl h22 (Go.Proofs.enters_of Try.func11 (by kernel_rfl) rfl) (of_any w21 Al cl (l.take 200) hS19.old (by omega)) ?_
 rintro _ w29 ⟨A25, c26, rfl, hO27, hF28⟩
 refine ⟨_, rfl, fun a h30 => ?_⟩
 have hsw29 := hF28.size
 have hF_31 := hF_23.new hF28
 have hSl_32 := hSl_24.fr0 hF28
 have hS19_33 := hS19.fr0 hF28
 have hO27q := hO27.rebase (base' := w.heap.size) (by omega)
 have hsl28 := setOf_len (l.take 200)
 refine V.re h30 [] 1 0 [(0, .slice A25 ((setOf (l.take 200)).length) c26)] fun a h34 => k16 _ _ ?_
 refine V.seq fun K35 k36 => ?_
 refine V.sg fun K37 k38 => ?_
 refine V.run h34 [] 3 15 16 [(17, .bool (decide (n < (-100))))] fun a h39 => ?_
 by_cases hg40 : n < (-100)
 ·
  have h41 := h39.kt 17 hg40
  refine V.re h41 [] 18 19 [(20, .bool true)] fun a h42 => k38 _ _ ?_
  refine V.ct h42 ?_
  refine V.rr h42 [] 1 0 [(1, .int .i64 3)] fun a h43 => ?_
  refine V.then_n (k36 _ _ ?_)
  refine V.sg fun K44 k45 => ?_
  refine V.run h43 [] 3 1 0 [(22, .slice A25 ((setOf (l.take 200)).length) c26), (23, .int .i64 3), (24, .int .u64 ((d : Nat) : Int))] fun a h46 => ?_
  have hS47 := hO27q.is
  refine V.cl h46 (Go.Proofs.enters_of Try.func13 (by kernel_rfl) rfl) (some_any w29 A25 c26 (setOf (l.take 200)) hS47.old 3 (by omega) d (by omega) (by omega)) ?_
  rintro _ w52 ⟨A48, c49, rfl, hO50, hF51⟩
  refine ⟨_, rfl, fun a h53 => ?_⟩
  have hsw52 := hF51.size
  have hF_54 := hF_31.new hF51
  have hSl_55 := hSl_32.fr0 hF51
  have hS19_56 := hS19_33.fr0 hF51
  have hO27q_57 := hO27q.fr0 hF51
  have hS47_58 := hS47.fr0 hF51
  have hO50q := hO50.rebase (base' := w.heap.size) (by omega)
  refine V.re h53 [] 21 27 [(7, .slice A48 ((someR (setOf (l.take 200)) 3 d).length) c49), (8, .int .i64 (someE (setOf (l.take 200)) 3))] fun a h59 => k45 _ _ ?_
  refine V.seq fun K60 k61 => ?_
  refine V.seq fun K62 k63 => ?_
  have hE : someE (setOf (l.take 200)) 3 = 0 := someE_0 (setOf_inc _) (by omega) (by omega)
  have hsl := some_len (d := d) hE
  have hlm := hO50q.cap
  have hlm2 := hO50q.len_le
  have h64 := h59.eq 8 (v := (.int .i64 (someE (setOf (l.take 200)) 3))) (u := .int .i64 0) (V.int_eq hE)
  refine V.rg ?_
  refine V.run h64 [(11, .q (.int .i64 (min 3 (((setOf (l.take 200)).length : Nat) : Int))) V.min_int), (0, .ne (((someR (setOf (l.take 200)) 3 d).length : Nat) : Int) (min 3 (((setOf (l.take 200)).length : Nat) : Int)))] 16 28 42 [(43, .bool (decide (¬ (((someR (setOf (l.take 200)) 3 d).length : Nat) : Int) = (min 3 (((setOf (l.take 200)).length : Nat) : Int)))))] fun a h65 => ?_
  by_cases hg66 : ¬ (((someR (setOf (l.take 200)) 3 d).length : Nat) : Int) = (min 3 (((setOf (l.take 200)).length : Nat) : Int))
  ·
   have h67 := h65.kt 43 hg66
   refine V.re h67 [] 44 57 [(58, .bool true)] fun a h68 => k63 _ _ ?_
   have h69 := h68.only [(0, .slice A25 ((setOf (l.take 200)).length) c26), (1, .int .i64 3), (7, .slice A48 ((someR (setOf (l.take 200)) 3 d).length) c49), (58, .bool true)]
   refine V.ct h69 ?_
   refine V.sr h69 [] 1 0 [(6, .bool false)] fun a h72 => ?_
   refine V.ret ?_
   refine V.then_r ?_
   refine V.r1 h72 (.bool false) ?_
   exfalso
   first | omega
  ·
   have h73 := h65.kf 43 hg66
   refine V.re h73 [] 44 57 [(58, .bool false)] fun a h74 => k63 _ _ ?_
   have h75 := h74.only [(0, .slice A25 ((setOf (l.take 200)).length) c26), (1, .int .i64 3), (7, .slice A48 ((someR (setOf (l.take 200)) 3 d).length) c49), (58, .bool false)]
   refine V.cf h75 ?_
   refine V.skip ?_
   refine V.then_n (k61 _ _ ?_)
   refine V.seq fun K76 k77 => ?_
   refine V.sr h75 [] 1 0 [(9, .int .i64 0)] fun a h80 => ?_
   refine V.block ?_
   refine V.loop1 (fun (i : Nat) a_ w_ => En 86 [] a_ [(0, .slice A25 ((setOf (l.take 200)).length) c26), (1, .int .i64 3), (7, .slice A48 ((someR (setOf (l.take 200)) 3 d).length) c49), (9, .int .i64 (i : Int))] ∧ Fr [] w w_ ∧ SlR Rp.str (fun k => k < w.heap.size) w_ (.slice Al l.length cl) l ∧ SlR Rp.str (fun k => k < w.heap.size) w_ (.slice Al ((l.take 200).length) cl) (l.take 200) ∧ OwR Rp.str NoZ w_ w.heap.size 9 (.slice A25 ((setOf (l.take 200)).length) c26) (setOf (l.take 200)) ∧ SlR Rp.str (fun _ => True) w_ (.slice A25 ((setOf (l.take 200)).length) c26) (setOf (l.take 200)) ∧ OwR Rp.str NoZ w_ w.heap.size 9 (.slice A48 ((someR (setOf (l.take 200)) 3 d).length) c49) (someR (setOf (l.take 200)) 3 d) ∧ (i ≤ (someR (setOf (l.take 200)) 3 d).length)) (fun (i : Nat) => ((someR (setOf (l.take 200)) 3 d).length) - i) 0 ?_ ?_
   ·
    refine ⟨(h80.eq 9 (v := (.int .i64 0)) (u := (.int .i64 (0 : Int))) (V.int_eq (by omega))).only _, hF_54, hSl_55, hS19_56, hO27q_57, hS47_58, hO50q, (by omega)⟩
   ·
    rintro i a81 w82 ⟨h83, hF_84, hSl_85, hS19_86, hO27q_87, hS47_88, hO50q_89, hi⟩
    have hfs90 := hF_84.size
    refine V.seq fun K91 k92 => ?_
    refine V.sr h83 [] 59 61 [(62, .bool (decide ((i : Int) < (((someR (setOf (l.take 200)) 3 d).length : Nat) : Int))))] fun a h95 => ?_
    refine V.cp h95 ((i : Int) < (((someR (setOf (l.take 200)) 3 d).length : Nat) : Int)) (fun ht96 => ?_) (fun ht96 => ?_)
    ·
     refine V.skip ?_
     refine V.then_n (k92 _ _ ?_)
     refine V.seq fun K97 k98 => ?_
     refine V.block ?_
     refine V.seq fun K99 k100 => ?_
     refine V.pl [([0,1,2,3,4],some (5,[])),([6,7,8,9,10,11,12,13,14,15,16,17],some (18,[])),([19,20],none)] fun w101 hF102 hsw101 => ?_
     have hF_103 := hF_84.new hF102
     have hSl_104 := hSl_85.fr0 hF102
     have hS19_105 := hS19_86.fr0 hF102
     have hO27q_106 := hO27q_87.fr0 hF102
     have hS47_107 := hS47_88.fr0 hF102
     have hO50q_108 := hO50q_89.fr0 hF102
     have hS109 := hO50q_108.is
     obtain ⟨g110, o111, hA112, hA112l, hA112z⟩ := hS109.addr (by omega)
     obtain ⟨cs113, hok114, hE115⟩ := hS109.els hA112 (i : Int) (by omega) (by omega)
     obtain rfl : cs113 = [.string (at_ Rp.str (someR (setOf (l.take 200)) 3 d) (i : Int))] := hok114
     refine V.pe h95 [(3, .ix g110 o111 ((someR (setOf (l.take 200)) 3 d).length) c49 .i64 (i : Int) 1 hA112), (0, .l ⟨g110, o111 + (i : Int).toNat * 1, none⟩ (.string (at_ Rp.str (someR (setOf (l.take 200)) 3 d) (i : Int))) (hE115.at 0 rfl))] 66 68 [(65, .slice A25 ((setOf (l.take 200)).length) c26), (69, .string (at_ Rp.str (someR (setOf (l.take 200)) 3 d) (i : Int)))] fun a h116 => ?_
     refine V.cl h116 (Go.Proofs.enters_of Try.func14 (by kernel_rfl) rfl) (in_any w101 A25 c26 (setOf (l.take 200)) hS47_107.old (at_ Rp.str (someR (setOf (l.take 200)) 3 d) (i : Int))) ?_
     rintro _ w118 ⟨rfl, hF117⟩
     refine ⟨_, rfl, fun a h119 => ?_⟩
     have hsw118 := hF117.size
     have hF_120 := hF_103.new hF117
     have hSl_121 := hSl_104.fr0 hF117
     have hS19_122 := hS19_105.fr0 hF117
     have hO27q_123 := hO27q_106.fr0 hF117
     have hS47_124 := hS47_107.fr0 hF117
     have hO50q_125 := hO50q_108.fr0 hF117
     have hS109_126 := hS109.fr0 hF117
     have hE115_127 := hE115.fr0 hF117
     refine V.eh trivial ?_
     refine V.pe0 ?_
     refine V.run h119 [(0, .q (.bool (decide (¬ ((at_ Rp.str (someR (setOf (l.take 200)) 3 d) (i : Int)) ∈ (setOf (l.take 200)))))) V.t_not)] 2 71 71 [(72, .bool (decide (¬ ((at_ Rp.str (someR (setOf (l.take 200)) 3 d) (i : Int)) ∈ (setOf (l.take 200))))))] fun a h128 => ?_
     by_cases hg129 : ¬ ((at_ Rp.str (someR (setOf (l.take 200)) 3 d) (i : Int)) ∈ (setOf (l.take 200)))
     ·
      have h130 := h128.kt 72 hg129
      refine V.se h130 [] 74 81 [(73, undef), (75, undef), (78, undef), (82, undef)] fun a h131 => ?_
      refine V.run h131 [] 1 1 0 [(83, undef)] fun a h132 => ?_
      refine V.eh trivial ?_
      refine V.pz h132 [] 84 84 [(85, .bool true)] fun a h133 => k100 _ _ ?_
      refine V.ct h133 ?_
      refine V.sr h133 [] 1 0 [(6, .bool false)] fun a h136 => ?_
      refine V.ret ?_
      refine V.blk_r ?_
      refine V.then_r ?_
      refine V.then_r ?_
      refine V.blk_r ?_
      refine V.then_r ?_
      refine V.r1 h136 (.bool false) ?_
      exfalso
      first | omega | exact hg129 (some_mem (by omega)) | exact (Decidable.of_not_not hg129) (some_mem (by omega)) | exact some_nd (setOf_inc _) (by omega) (by omega) hg129 | exact some_nd (setOf_inc _) (by omega) (by omega) (Decidable.of_not_not hg129)
     ·
      have h137 := h128.kf 72 hg129
      have hS138 := hS109_126.tk (i := i) (by omega)
      refine V.se h137 [(5, .cut0 A48 ((someR (setOf (l.take 200)) 3 d).length) c49 (i : Int) i 1), (2, .ix g110 o111 ((someR (setOf (l.take 200)) 3 d).length) c49 .i64 (i : Int) 1 hA112), (0, .l ⟨g110, o111 + (i : Int).toNat * 1, none⟩ (.string (at_ Rp.str (someR (setOf (l.take 200)) 3 d) (i : Int))) (hE115_127.at 0 rfl))] 74 81 [(73, .int .i64 3), (75, .bool true), (78, .slice A48 i c49), (82, .string (at_ Rp.str (someR (setOf (l.take 200)) 3 d) (i : Int)))] fun a h139 => ?_
      refine V.clg h139 (Go.Proofs.enters_of Try.func14 (by kernel_rfl) rfl) (in_at' w118 A48 c49 i ((someR (setOf (l.take 200)) 3 d).take i) (by rw [List.length_take]; omega) hS138.old (at_ Rp.str (someR (setOf (l.take 200)) 3 d) (i : Int))) ?_
      rintro _ w141 ⟨rfl, hF140⟩
      refine ⟨_, rfl, fun a h142 => ?_⟩
      have hsw141 := hF140.size
      have hF_143 := hF_120.new hF140
      have hSl_144 := hSl_121.fr0 hF140
      have hS19_145 := hS19_122.fr0 hF140
      have hO27q_146 := hO27q_123.fr0 hF140
      have hS47_147 := hS47_124.fr0 hF140
      have hO50q_148 := hO50q_125.fr0 hF140
      have hS109_149 := hS109_126.fr0 hF140
      have hE115_150 := hE115_127.fr0 hF140
      have hS138_151 := hS138.fr0 hF140
      refine V.eh trivial ?_
      refine V.pz h142 [] 84 84 [(85, .bool (decide ((at_ Rp.str (someR (setOf (l.take 200)) 3 d) (i : Int)) ∈ ((someR (setOf (l.take 200)) 3 d).take i))))] fun a h152 => k100 _ _ ?_
      refine V.cp h152 ((at_ Rp.str (someR (setOf (l.take 200)) 3 d) (i : Int)) ∈ ((someR (setOf (l.take 200)) 3 d).take i)) (fun ht153 => ?_) (fun ht153 => ?_)
      ·
       refine V.sr h152 [] 1 0 [(6, .bool false)] fun a h156 => ?_
       refine V.ret ?_
       refine V.blk_r ?_
       refine V.then_r ?_
       refine V.then_r ?_
       refine V.blk_r ?_
       refine V.then_r ?_
       refine V.r1 h156 (.bool false) ?_
       exfalso
       first | omega | exact hg129 (some_mem (by omega)) | exact (Decidable.of_not_not hg129) (some_mem (by omega)) | exact some_nd (setOf_inc _) (by omega) (by omega) hg129 | exact some_nd (setOf_inc _) (by omega) (by omega) (Decidable.of_not_not hg129) | exact ht153 (some_mem (by omega)) | exact (Decidable.of_not_not ht153) (some_mem (by omega)) | exact some_nd (setOf_inc _) (by omega) (by omega) ht153 | exact some_nd (setOf_inc _) (by omega) (by omega) (Decidable.of_not_not ht153)
      ·
       refine V.skip ?_
       refine V.blk_n ?_
       refine V.then_n (k98 _ _ ?_)
       refine V.rr h152 [(1, .i ((i : Int) + 1))] 63 64 [(9, .int .i64 ((i : Int) + 1))] fun a h157 => ?_
       refine V.then_n ?_
       refine ⟨i + 1, by omega, ?_⟩
       refine ⟨(h157.eq 9 (v := (.int .i64 ((i : Int) + 1))) (u := (.int .i64 ((i + 1) : Int))) (V.int_eq (by omega))).only _, hF_143, hSl_144, hS19_145, hO27q_146, hS47_147, hO50q_148, (by omega)⟩
    ·
     refine V.exit ?_
     refine V.then_e ?_
     refine V.then_e ?_
     refine V.blk_hit ?_
     refine V.then_n (k77 _ _ ?_)
     refine V.sr h95 [] 1 0 [(6, .bool true)] fun a h160 => ?_
     refine V.ret ?_
     refine V.r1 h160 (.bool true) ?_
     exact ⟨rfl, hF_84⟩
 ·
  have h161 := h39.kf 17 hg40
  refine V.re h161 [] 18 19 [(20, .bool (decide (n > 65536)))] fun a h162 => k38 _ _ ?_
  refine V.cp h162 (n > 65536) (fun ht163 => ?_) (fun ht163 => ?_)
  ·
   refine V.rr h162 [] 1 0 [(1, .int .i64 3)] fun a h164 => ?_
   refine V.then_n (k36 _ _ ?_)
   refine V.sg fun K165 k166 => ?_
   refine V.run h164 [] 3 1 0 [(22, .slice A25 ((setOf (l.take 200)).length) c26), (23, .int .i64 3), (24, .int .u64 ((d : Nat) : Int))] fun a h167 => ?_
   have hS168 := hO27q.is
   refine V.cl h167 (Go.Proofs.enters_of Try.func13 (by kernel_rfl) rfl) (some_any w29 A25 c26 (setOf (l.take 200)) hS168.old 3 (by omega) d (by omega) (by omega)) ?_
   rintro _ w173 ⟨A169, c170, rfl, hO171, hF172⟩
   refine ⟨_, rfl, fun a h174 => ?_⟩
   have hsw173 := hF172.size
   have hF_175 := hF_31.new hF172
   have hSl_176 := hSl_32.fr0 hF172
   have hS19_177 := hS19_33.fr0 hF172
   have hO27q_178 := hO27q.fr0 hF172
   have hS168_179 := hS168.fr0 hF172
   have hO171q := hO171.rebase (base' := w.heap.size) (by omega)
   refine V.re h174 [] 21 27 [(7, .slice A169 ((someR (setOf (l.take 200)) 3 d).length) c170), (8, .int .i64 (someE (setOf (l.take 200)) 3))] fun a h180 => k166 _ _ ?_
   refine V.seq fun K181 k182 => ?_
   refine V.seq fun K183 k184 => ?_
   have hE : someE (setOf (l.take 200)) 3 = 0 := someE_0 (setOf_inc _) (by omega) (by omega)
   have hsl := some_len (d := d) hE
   have hlm := hO171q.cap
   have hlm2 := hO171q.len_le
   have h185 := h180.eq 8 (v := (.int .i64 (someE (setOf (l.take 200)) 3))) (u := .int .i64 0) (V.int_eq hE)
   refine V.rg ?_
   refine V.run h185 [(11, .q (.int .i64 (min 3 (((setOf (l.take 200)).length : Nat) : Int))) V.min_int), (0, .ne (((someR (setOf (l.take 200)) 3 d).length : Nat) : Int) (min 3 (((setOf (l.take 200)).length : Nat) : Int)))] 16 28 42 [(43, .bool (decide (¬ (((someR (setOf (l.take 200)) 3 d).length : Nat) : Int) = (min 3 (((setOf (l.take 200)).length : Nat) : Int)))))] fun a h186 => ?_
   by_cases hg187 : ¬ (((someR (setOf (l.take 200)) 3 d).length : Nat) : Int) = (min 3 (((setOf (l.take 200)).length : Nat) : Int))
   ·
    have h188 := h186.kt 43 hg187
    refine V.re h188 [] 44 57 [(58, .bool true)] fun a h189 => k184 _ _ ?_
    have h190 := h189.only [(0, .slice A25 ((setOf (l.take 200)).length) c26), (1, .int .i64 3), (7, .slice A169 ((someR (setOf (l.take 200)) 3 d).length) c170), (58, .bool true)]
    refine V.ct h190 ?_
    refine V.sr h190 [] 1 0 [(6, .bool false)] fun a h193 => ?_
    refine V.ret ?_
    refine V.then_r ?_
    refine V.r1 h193 (.bool false) ?_
    exfalso
    first | omega
   ·
    have h194 := h186.kf 43 hg187
    refine V.re h194 [] 44 57 [(58, .bool false)] fun a h195 => k184 _ _ ?_
    have h196 := h195.only [(0, .slice A25 ((setOf (l.take 200)).length) c26), (1, .int .i64 3), (7, .slice A169 ((someR (setOf (l.take 200)) 3 d).length) c170), (58, .bool false)]
    refine V.cf h196 ?_
    refine V.skip ?_
    refine V.then_n (k182 _ _ ?_)
    refine V.seq fun K197 k198 => ?_
    refine V.sr h196 [] 1 0 [(9, .int .i64 0)] fun a h201 => ?_
    refine V.block ?_
    refine V.loop1 (fun (i : Nat) a_ w_ => En 86 [] a_ [(0, .slice A25 ((setOf (l.take 200)).length) c26), (1, .int .i64 3), (7, .slice A169 ((someR (setOf (l.take 200)) 3 d).length) c170), (9, .int .i64 (i : Int))] ∧ Fr [] w w_ ∧ SlR Rp.str (fun k => k < w.heap.size) w_ (.slice Al l.length cl) l ∧ SlR Rp.str (fun k => k < w.heap.size) w_ (.slice Al ((l.take 200).length) cl) (l.take 200) ∧ OwR Rp.str NoZ w_ w.heap.size 9 (.slice A25 ((setOf (l.take 200)).length) c26) (setOf (l.take 200)) ∧ SlR Rp.str (fun _ => True) w_ (.slice A25 ((setOf (l.take 200)).length) c26) (setOf (l.take 200)) ∧ OwR Rp.str NoZ w_ w.heap.size 9 (.slice A169 ((someR (setOf (l.take 200)) 3 d).length) c170) (someR (setOf (l.take 200)) 3 d) ∧ (i ≤ (someR (setOf (l.take 200)) 3 d).length)) (fun (i : Nat) => ((someR (setOf (l.take 200)) 3 d).length) - i) 0 ?_ ?_
    ·
     refine ⟨(h201.eq 9 (v := (.int .i64 0)) (u := (.int .i64 (0 : Int))) (V.int_eq (by omega))).only _, hF_175, hSl_176, hS19_177, hO27q_178, hS168_179, hO171q, (by omega)⟩
    ·
     rintro i a202 w203 ⟨h204, hF_205, hSl_206, hS19_207, hO27q_208, hS168_209, hO171q_210, hi⟩
     have hfs211 := hF_205.size
     refine V.seq fun K212 k213 => ?_
     refine V.sr h204 [] 59 61 [(62, .bool (decide ((i : Int) < (((someR (setOf (l.take 200)) 3 d).length : Nat) : Int))))] fun a h216 => ?_
     refine V.cp h216 ((i : Int) < (((someR (setOf (l.take 200)) 3 d).length : Nat) : Int)) (fun ht217 => ?_) (fun ht217 => ?_)
     ·
      refine V.skip ?_
      refine V.then_n (k213 _ _ ?_)
      refine V.seq fun K218 k219 => ?_
      refine V.block ?_
      refine V.seq fun K220 k221 => ?_
      refine V.pl [([0,1,2,3,4],some (5,[])),([6,7,8,9,10,11,12,13,14,15,16,17],some (18,[])),([19,20],none)] fun w222 hF223 hsw222 => ?_
      have hF_224 := hF_205.new hF223
      have hSl_225 := hSl_206.fr0 hF223
      have hS19_226 := hS19_207.fr0 hF223
      have hO27q_227 := hO27q_208.fr0 hF223
      have hS168_228 := hS168_209.fr0 hF223
      have hO171q_229 := hO171q_210.fr0 hF223
      have hS230 := hO171q_229.is
      obtain ⟨g231, o232, hA233, hA233l, hA233z⟩ := hS230.addr (by omega)
      obtain ⟨cs234, hok235, hE236⟩ := hS230.els hA233 (i : Int) (by omega) (by omega)
      obtain rfl : cs234 = [.string (at_ Rp.str (someR (setOf (l.take 200)) 3 d) (i : Int))] := hok235
      refine V.pe h216 [(3, .ix g231 o232 ((someR (setOf (l.take 200)) 3 d).length) c170 .i64 (i : Int) 1 hA233), (0, .l ⟨g231, o232 + (i : Int).toNat * 1, none⟩ (.string (at_ Rp.str (someR (setOf (l.take 200)) 3 d) (i : Int))) (hE236.at 0 rfl))] 66 68 [(65, .slice A25 ((setOf (l.take 200)).length) c26), (69, .string (at_ Rp.str (someR (setOf (l.take 200)) 3 d) (i : Int)))] fun a h237 => ?_
      refine V.cl h237 (Go.Proofs.enters_of Try.func14 (by kernel_rfl) rfl) (in_any w222 A25 c26 (setOf (l.take 200)) hS168_228.old (at_ Rp.str (someR (setOf (l.take 200)) 3 d) (i : Int))) ?_
      rintro _ w239 ⟨rfl, hF238⟩
      refine ⟨_, rfl, fun a h240 => ?_⟩
      have hsw239 := hF238.size
      have hF_241 := hF_224.new hF238
      have hSl_242 := hSl_225.fr0 hF238
      have hS19_243 := hS19_226.fr0 hF238
      have hO27q_244 := hO27q_227.fr0 hF238
      have hS168_245 := hS168_228.fr0 hF238
      have hO171q_246 := hO171q_229.fr0 hF238
      have hS230_247 := hS230.fr0 hF238
      have hE236_248 := hE236.fr0 hF238
      refine V.eh trivial ?_
      refine V.pe0 ?_
      refine V.run h240 [(0, .q (.bool (decide (¬ ((at_ Rp.str (someR (setOf (l.take 200)) 3 d) (i : Int)) ∈ (setOf (l.take 200)))))) V.t_not)] 2 71 71 [(72, .bool (decide (¬ ((at_ Rp.str (someR (setOf (l.take 200)) 3 d) (i : Int)) ∈ (setOf (l.take 200))))))] fun a h249 => ?_
      by_cases hg250 : ¬ ((at_ Rp.str (someR (setOf (l.take 200)) 3 d) (i : Int)) ∈ (setOf (l.take 200)))
      ·
       have h251 := h249.kt 72 hg250
       refine V.se h251 [] 74 81 [(73, undef), (75, undef), (78, undef), (82, undef)] fun a h252 => ?_
       refine V.run h252 [] 1 1 0 [(83, undef)] fun a h253 => ?_
       refine V.eh trivial ?_
       refine V.pz h253 [] 84 84 [(85, .bool true)] fun a h254 => k221 _ _ ?_
       refine V.ct h254 ?_
       refine V.sr h254 [] 1 0 [(6, .bool false)] fun a h257 => ?_
       refine V.ret ?_
       refine V.blk_r ?_
       refine V.then_r ?_
       refine V.then_r ?_
       refine V.blk_r ?_
       refine V.then_r ?_
       refine V.r1 h257 (.bool false) ?_
       exfalso
       first | omega | exact hg250 (some_mem (by omega)) | exact (Decidable.of_not_not hg250) (some_mem (by omega)) | exact some_nd (setOf_inc _) (by omega) (by omega) hg250 | exact some_nd (setOf_inc _) (by omega) (by omega) (Decidable.of_not_not hg250)
      ·
       have h258 := h249.kf 72 hg250
       have hS259 := hS230_247.tk (i := i) (by omega)
       refine V.se h258 [(5, .cut0 A169 ((someR (setOf (l.take 200)) 3 d).length) c170 (i : Int) i 1), (2, .ix g231 o232 ((someR (setOf (l.take 200)) 3 d).length) c170 .i64 (i : Int) 1 hA233), (0, .l ⟨g231, o232 + (i : Int).toNat * 1, none⟩ (.string (at_ Rp.str (someR (setOf (l.take 200)) 3 d) (i : Int))) (hE236_248.at 0 rfl))] 74 81 [(73, .int .i64 3), (75, .bool true), (78, .slice A169 i c170), (82, .string (at_ Rp.str (someR (setOf (l.take 200)) 3 d) (i : Int)))] fun a h260 => ?_
       refine V.clg h260 (Go.Proofs.enters_of Try.func14 (by kernel_rfl) rfl) (in_at' w239 A169 c170 i ((someR (setOf (l.take 200)) 3 d).take i) (by rw [List.length_take]; omega) hS259.old (at_ Rp.str (someR (setOf (l.take 200)) 3 d) (i : Int))) ?_
       rintro _ w262 ⟨rfl, hF261⟩
       refine ⟨_, rfl, fun a h263 => ?_⟩
       have hsw262 := hF261.size
       have hF_264 := hF_241.new hF261
       have hSl_265 := hSl_242.fr0 hF261
       have hS19_266 := hS19_243.fr0 hF261
       have hO27q_267 := hO27q_244.fr0 hF261
       have hS168_268 := hS168_245.fr0 hF261
       have hO171q_269 := hO171q_246.fr0 hF261
       have hS230_270 := hS230_247.fr0 hF261
       have hE236_271 := hE236_248.fr0 hF261
       have hS259_272 := hS259.fr0 hF261
       refine V.eh trivial ?_
       refine V.pz h263 [] 84 84 [(85, .bool (decide ((at_ Rp.str (someR (setOf (l.take 200)) 3 d) (i : Int)) ∈ ((someR (setOf (l.take 200)) 3 d).take i))))] fun a h273 => k221 _ _ ?_
       refine V.cp h273 ((at_ Rp.str (someR (setOf (l.take 200)) 3 d) (i : Int)) ∈ ((someR (setOf (l.take 200)) 3 d).take i)) (fun ht274 => ?_) (fun ht274 => ?_)
       ·
        refine V.sr h273 [] 1 0 [(6, .bool false)] fun a h277 => ?_
        refine V.ret ?_
        refine V.blk_r ?_
        refine V.then_r ?_
        refine V.then_r ?_
        refine V.blk_r ?_
        refine V.then_r ?_
        refine V.r1 h277 (.bool false) ?_
        exfalso
        first | omega | exact hg250 (some_mem (by omega)) | exact (Decidable.of_not_not hg250) (some_mem (by omega)) | exact some_nd (setOf_inc _) (by omega) (by omega) hg250 | exact some_nd (setOf_inc _) (by omega) (by omega) (Decidable.of_not_not hg250) | exact ht274 (some_mem (by omega)) | exact (Decidable.of_not_not ht274) (some_mem (by omega)) | exact some_nd (setOf_inc _) (by omega) (by omega) ht274 | exact some_nd (setOf_inc _) (by omega) (by omega) (Decidable.of_not_not ht274)
       ·
        refine V.skip ?_
        refine V.blk_n ?_
        refine V.then_n (k219 _ _ ?_)
        refine V.rr h273 [(1, .i ((i : Int) + 1))] 63 64 [(9, .int .i64 ((i : Int) + 1))] fun a h278 => ?_
        refine V.then_n ?_
        refine ⟨i + 1, by omega, ?_⟩
        refine ⟨(h278.eq 9 (v := (.int .i64 ((i : Int) + 1))) (u := (.int .i64 ((i + 1) : Int))) (V.int_eq (by omega))).only _, hF_264, hSl_265, hS19_266, hO27q_267, hS168_268, hO171q_269, (by omega)⟩
     ·
      refine V.exit ?_
      refine V.then_e ?_
      refine V.then_e ?_
      refine V.blk_hit ?_
      refine V.then_n (k198 _ _ ?_)
      refine V.sr h216 [] 1 0 [(6, .bool true)] fun a h281 => ?_
      refine V.ret ?_
      refine V.r1 h281 (.bool true) ?_
      exact ⟨rfl, hF_205⟩
  ·
   refine V.skip ?_
   refine V.then_n (k36 _ _ ?_)
   refine V.sg fun K282 k283 => ?_
   refine V.run h162 [] 3 1 0 [(22, .slice A25 ((setOf (l.take 200)).length) c26), (23, .int .i64 n), (24, .int .u64 ((d : Nat) : Int))] fun a h284 => ?_
   have hS285 := hO27q.is
   refine V.cl h284 (Go.Proofs.enters_of Try.func13 (by kernel_rfl) rfl) (some_any w29 A25 c26 (setOf (l.take 200)) hS285.old n (by omega) d (by omega) (by omega)) ?_
   rintro _ w290 ⟨A286, c287, rfl, hO288, hF289⟩
   refine ⟨_, rfl, fun a h291 => ?_⟩
   have hsw290 := hF289.size
   have hF_292 := hF_31.new hF289
   have hSl_293 := hSl_32.fr0 hF289
   have hS19_294 := hS19_33.fr0 hF289
   have hO27q_295 := hO27q.fr0 hF289
   have hS285_296 := hS285.fr0 hF289
   have hO288q := hO288.rebase (base' := w.heap.size) (by omega)
   refine V.re h291 [] 21 27 [(7, .slice A286 ((someR (setOf (l.take 200)) n d).length) c287), (8, .int .i64 (someE (setOf (l.take 200)) n))] fun a h297 => k283 _ _ ?_
   refine V.seq fun K298 k299 => ?_
   refine V.seq fun K300 k301 => ?_
   have hE : someE (setOf (l.take 200)) n = 0 := someE_0 (setOf_inc _) (by omega) (by omega)
   have hsl := some_len (d := d) hE
   have hlm := hO288q.cap
   have hlm2 := hO288q.len_le
   have h302 := h297.eq 8 (v := (.int .i64 (someE (setOf (l.take 200)) n))) (u := .int .i64 0) (V.int_eq hE)
   refine V.rg ?_
   refine V.run h302 [] 6 28 32 [(30, .bool false), (33, .bool (decide (n ≥ 0)))] fun a h303 => ?_
   by_cases hg304 : n ≥ 0
   ·
    have h305 := h303.kt 33 hg304
    refine V.run h305 [(5, .q (.int .i64 (min n (((setOf (l.take 200)).length : Nat) : Int))) V.min_int), (0, .ne (((someR (setOf (l.take 200)) n d).length : Nat) : Int) (min n (((setOf (l.take 200)).length : Nat) : Int)))] 10 34 42 [(43, .bool (decide (¬ (((someR (setOf (l.take 200)) n d).length : Nat) : Int) = (min n (((setOf (l.take 200)).length : Nat) : Int)))))] fun a h306 => ?_
    by_cases hg307 : ¬ (((someR (setOf (l.take 200)) n d).length : Nat) : Int) = (min n (((setOf (l.take 200)).length : Nat) : Int))
    ·
     have h308 := h306.kt 43 hg307
     refine V.re h308 [] 44 57 [(58, .bool true)] fun a h309 => k301 _ _ ?_
     have h310 := h309.only [(0, .slice A25 ((setOf (l.take 200)).length) c26), (1, .int .i64 n), (7, .slice A286 ((someR (setOf (l.take 200)) n d).length) c287), (58, .bool true)]
     refine V.ct h310 ?_
     refine V.sr h310 [] 1 0 [(6, .bool false)] fun a h313 => ?_
     refine V.ret ?_
     refine V.then_r ?_
     refine V.r1 h313 (.bool false) ?_
     exfalso
     first | omega
    ·
     have h314 := h306.kf 43 hg307
     refine V.run h314 [] 3 44 45 [(46, .bool (decide (n < 0)))] fun a h315 => ?_
     by_cases hg316 : n < 0
     ·
      have h317 := h315.kt 46 hg316
      refine V.run h317 [] 5 47 50 [(51, .bool (decide ((((setOf (l.take 200)).length : Nat) : Int) > 0)))] fun a h318 => ?_
      by_cases hg319 : (((setOf (l.take 200)).length : Nat) : Int) > 0
      ·
       have h320 := h318.kt 51 hg319
       refine V.re h320 [(3, .q (.int .i64 (0 - n)) (V.w_i64 (by omega) (by omega))), (0, .ne (((someR (setOf (l.take 200)) n d).length : Nat) : Int) (0 - n))] 52 57 [(58, .bool (decide (¬ (((someR (setOf (l.take 200)) n d).length : Nat) : Int) = (0 - n))))] fun a h321 => k301 _ _ ?_
       have h322 := h321.only [(0, .slice A25 ((setOf (l.take 200)).length) c26), (1, .int .i64 n), (7, .slice A286 ((someR (setOf (l.take 200)) n d).length) c287), (58, .bool (decide (¬ (((someR (setOf (l.take 200)) n d).length : Nat) : Int) = (0 - n))))]
       refine V.cp h322 (¬ (((someR (setOf (l.take 200)) n d).length : Nat) : Int) = (0 - n)) (fun ht323 => ?_) (fun ht323 => ?_)
       ·
        refine V.sr h322 [] 1 0 [(6, .bool false)] fun a h326 => ?_
        refine V.ret ?_
        refine V.then_r ?_
        refine V.r1 h326 (.bool false) ?_
        exfalso
        first | omega
       ·
        refine V.skip ?_
        refine V.then_n (k299 _ _ ?_)
        refine V.seq fun K327 k328 => ?_
        refine V.sr h322 [] 1 0 [(9, .int .i64 0)] fun a h331 => ?_
        refine V.block ?_
        refine V.loop1 (fun (i : Nat) a_ w_ => En 86 [] a_ [(0, .slice A25 ((setOf (l.take 200)).length) c26), (1, .int .i64 n), (7, .slice A286 ((someR (setOf (l.take 200)) n d).length) c287), (9, .int .i64 (i : Int))] ∧ Fr [] w w_ ∧ SlR Rp.str (fun k => k < w.heap.size) w_ (.slice Al l.length cl) l ∧ SlR Rp.str (fun k => k < w.heap.size) w_ (.slice Al ((l.take 200).length) cl) (l.take 200) ∧ OwR Rp.str NoZ w_ w.heap.size 9 (.slice A25 ((setOf (l.take 200)).length) c26) (setOf (l.take 200)) ∧ SlR Rp.str (fun _ => True) w_ (.slice A25 ((setOf (l.take 200)).length) c26) (setOf (l.take 200)) ∧ OwR Rp.str NoZ w_ w.heap.size 9 (.slice A286 ((someR (setOf (l.take 200)) n d).length) c287) (someR (setOf (l.take 200)) n d) ∧ (i ≤ (someR (setOf (l.take 200)) n d).length)) (fun (i : Nat) => ((someR (setOf (l.take 200)) n d).length) - i) 0 ?_ ?_
        ·
         refine ⟨(h331.eq 9 (v := (.int .i64 0)) (u := (.int .i64 (0 : Int))) (V.int_eq (by omega))).only _, hF_292, hSl_293, hS19_294, hO27q_295, hS285_296, hO288q, (by omega)⟩
        ·
         rintro i a332 w333 ⟨h334, hF_335, hSl_336, hS19_337, hO27q_338, hS285_339, hO288q_340, hi⟩
         have hfs341 := hF_335.size
         refine V.seq fun K342 k343 => ?_
         refine V.sr h334 [] 59 61 [(62, .bool (decide ((i : Int) < (((someR (setOf (l.take 200)) n d).length : Nat) : Int))))] fun a h346 => ?_
         refine V.cp h346 ((i : Int) < (((someR (setOf (l.take 200)) n d).length : Nat) : Int)) (fun ht347 => ?_) (fun ht347 => ?_)
         ·
          refine V.skip ?_
          refine V.then_n (k343 _ _ ?_)
          refine V.seq fun K348 k349 => ?_
          refine V.block ?_
          refine V.seq fun K350 k351 => ?_
          refine V.pl [([0,1,2,3,4],some (5,[])),([6,7,8,9,10,11,12,13,14,15,16,17],some (18,[])),([19,20],none)] fun w352 hF353 hsw352 => ?_
          have hF_354 := hF_335.new hF353
          have hSl_355 := hSl_336.fr0 hF353
          have hS19_356 := hS19_337.fr0 hF353
          have hO27q_357 := hO27q_338.fr0 hF353
          have hS285_358 := hS285_339.fr0 hF353
          have hO288q_359 := hO288q_340.fr0 hF353
          have hS360 := hO288q_359.is
          obtain ⟨g361, o362, hA363, hA363l, hA363z⟩ := hS360.addr (by omega)
          obtain ⟨cs364, hok365, hE366⟩ := hS360.els hA363 (i : Int) (by omega) (by omega)
          obtain rfl : cs364 = [.string (at_ Rp.str (someR (setOf (l.take 200)) n d) (i : Int))] := hok365
          refine V.pe h346 [(3, .ix g361 o362 ((someR (setOf (l.take 200)) n d).length) c287 .i64 (i : Int) 1 hA363), (0, .l ⟨g361, o362 + (i : Int).toNat * 1, none⟩ (.string (at_ Rp.str (someR (setOf (l.take 200)) n d) (i : Int))) (hE366.at 0 rfl))] 66 68 [(65, .slice A25 ((setOf (l.take 200)).length) c26), (69, .string (at_ Rp.str (someR (setOf (l.take 200)) n d) (i : Int)))] fun a h367 => ?_
          refine V.cl h367 (Go.Proofs.enters_of Try.func14 (by kernel_rfl) rfl) (in_any w352 A25 c26 (setOf (l.take 200)) hS285_358.old (at_ Rp.str (someR (setOf (l.take 200)) n d) (i : Int))) ?_
          rintro _ w369 ⟨rfl, hF368⟩
          refine ⟨_, rfl, fun a h370 => ?_⟩
          have hsw369 := hF368.size
          have hF_371 := hF_354.new hF368
          have hSl_372 := hSl_355.fr0 hF368
          have hS19_373 := hS19_356.fr0 hF368
          have hO27q_374 := hO27q_357.fr0 hF368
          have hS285_375 := hS285_358.fr0 hF368
          have hO288q_376 := hO288q_359.fr0 hF368
          have hS360_377 := hS360.fr0 hF368
          have hE366_378 := hE366.fr0 hF368
          refine V.eh trivial ?_
          refine V.pe0 ?_
          refine V.run h370 [(0, .q (.bool (decide (¬ ((at_ Rp.str (someR (setOf (l.take 200)) n d) (i : Int)) ∈ (setOf (l.take 200)))))) V.t_not)] 2 71 71 [(72, .bool (decide (¬ ((at_ Rp.str (someR (setOf (l.take 200)) n d) (i : Int)) ∈ (setOf (l.take 200))))))] fun a h379 => ?_
          by_cases hg380 : ¬ ((at_ Rp.str (someR (setOf (l.take 200)) n d) (i : Int)) ∈ (setOf (l.take 200)))
          ·
           have h381 := h379.kt 72 hg380
           refine V.se h381 [] 74 81 [(73, undef), (75, undef), (78, undef), (82, undef)] fun a h382 => ?_
           refine V.run h382 [] 1 1 0 [(83, undef)] fun a h383 => ?_
           refine V.eh trivial ?_
           refine V.pz h383 [] 84 84 [(85, .bool true)] fun a h384 => k351 _ _ ?_
           refine V.ct h384 ?_
           refine V.sr h384 [] 1 0 [(6, .bool false)] fun a h387 => ?_
           refine V.ret ?_
           refine V.blk_r ?_
           refine V.then_r ?_
           refine V.then_r ?_
           refine V.blk_r ?_
           refine V.then_r ?_
           refine V.r1 h387 (.bool false) ?_
           exfalso
           first | omega | exact hg380 (some_mem (by omega)) | exact (Decidable.of_not_not hg380) (some_mem (by omega)) | exact some_nd (setOf_inc _) (by omega) (by omega) hg380 | exact some_nd (setOf_inc _) (by omega) (by omega) (Decidable.of_not_not hg380)
          ·
           have h388 := h379.kf 72 hg380
           refine V.run h388 [] 3 74 74 [(73, .int .i64 n), (75, .bool (decide (n ≥ 0)))] fun a h389 => ?_
           by_cases hg390 : n ≥ 0
           ·
            have h391 := h389.kt 75 hg390
            have hS392 := hS360_377.tk (i := i) (by omega)
            refine V.se h391 [(2, .cut0 A286 ((someR (setOf (l.take 200)) n d).length) c287 (i : Int) i 1), (2, .ix g361 o362 ((someR (setOf (l.take 200)) n d).length) c287 .i64 (i : Int) 1 hA363), (0, .l ⟨g361, o362 + (i : Int).toNat * 1, none⟩ (.string (at_ Rp.str (someR (setOf (l.take 200)) n d) (i : Int))) (hE366_378.at 0 rfl))] 76 81 [(78, .slice A286 i c287), (82, .string (at_ Rp.str (someR (setOf (l.take 200)) n d) (i : Int)))] fun a h393 => ?_
            refine V.clg h393 (Go.Proofs.enters_of Try.func14 (by kernel_rfl) rfl) (in_at' w369 A286 c287 i ((someR (setOf (l.take 200)) n d).take i) (by rw [List.length_take]; omega) hS392.old (at_ Rp.str (someR (setOf (l.take 200)) n d) (i : Int))) ?_
            rintro _ w395 ⟨rfl, hF394⟩
            refine ⟨_, rfl, fun a h396 => ?_⟩
            have hsw395 := hF394.size
            have hF_397 := hF_371.new hF394
            have hSl_398 := hSl_372.fr0 hF394
            have hS19_399 := hS19_373.fr0 hF394
            have hO27q_400 := hO27q_374.fr0 hF394
            have hS285_401 := hS285_375.fr0 hF394
            have hO288q_402 := hO288q_376.fr0 hF394
            have hS360_403 := hS360_377.fr0 hF394
            have hE366_404 := hE366_378.fr0 hF394
            have hS392_405 := hS392.fr0 hF394
            refine V.eh trivial ?_
            refine V.pz h396 [] 84 84 [(85, .bool (decide ((at_ Rp.str (someR (setOf (l.take 200)) n d) (i : Int)) ∈ ((someR (setOf (l.take 200)) n d).take i))))] fun a h406 => k351 _ _ ?_
            refine V.cp h406 ((at_ Rp.str (someR (setOf (l.take 200)) n d) (i : Int)) ∈ ((someR (setOf (l.take 200)) n d).take i)) (fun ht407 => ?_) (fun ht407 => ?_)
            ·
             refine V.sr h406 [] 1 0 [(6, .bool false)] fun a h410 => ?_
             refine V.ret ?_
             refine V.blk_r ?_
             refine V.then_r ?_
             refine V.then_r ?_
             refine V.blk_r ?_
             refine V.then_r ?_
             refine V.r1 h410 (.bool false) ?_
             exfalso
             first | omega | exact hg380 (some_mem (by omega)) | exact (Decidable.of_not_not hg380) (some_mem (by omega)) | exact some_nd (setOf_inc _) (by omega) (by omega) hg380 | exact some_nd (setOf_inc _) (by omega) (by omega) (Decidable.of_not_not hg380) | exact ht407 (some_mem (by omega)) | exact (Decidable.of_not_not ht407) (some_mem (by omega)) | exact some_nd (setOf_inc _) (by omega) (by omega) ht407 | exact some_nd (setOf_inc _) (by omega) (by omega) (Decidable.of_not_not ht407)
            ·
             refine V.skip ?_
             refine V.blk_n ?_
             refine V.then_n (k349 _ _ ?_)
             refine V.rr h406 [(1, .i ((i : Int) + 1))] 63 64 [(9, .int .i64 ((i : Int) + 1))] fun a h411 => ?_
             refine V.then_n ?_
             refine ⟨i + 1, by omega, ?_⟩
             refine ⟨(h411.eq 9 (v := (.int .i64 ((i : Int) + 1))) (u := (.int .i64 ((i + 1) : Int))) (V.int_eq (by omega))).only _, hF_397, hSl_398, hS19_399, hO27q_400, hS285_401, hO288q_402, (by omega)⟩
           ·
            have h412 := h389.kf 75 hg390
            refine V.se h412 [] 76 81 [(78, undef), (82, undef)] fun a h413 => ?_
            refine V.run h413 [] 1 1 0 [(83, undef)] fun a h414 => ?_
            refine V.eh trivial ?_
            refine V.pz h414 [] 84 84 [(85, .bool false)] fun a h415 => k351 _ _ ?_
            refine V.cf h415 ?_
            refine V.skip ?_
            refine V.blk_n ?_
            refine V.then_n (k349 _ _ ?_)
            refine V.rr h415 [(1, .i ((i : Int) + 1))] 63 64 [(9, .int .i64 ((i : Int) + 1))] fun a h416 => ?_
            refine V.then_n ?_
            refine ⟨i + 1, by omega, ?_⟩
            refine ⟨(h416.eq 9 (v := (.int .i64 ((i : Int) + 1))) (u := (.int .i64 ((i + 1) : Int))) (V.int_eq (by omega))).only _, hF_371, hSl_372, hS19_373, hO27q_374, hS285_375, hO288q_376, (by omega)⟩
         ·
          refine V.exit ?_
          refine V.then_e ?_
          refine V.then_e ?_
          refine V.blk_hit ?_
          refine V.then_n (k328 _ _ ?_)
          refine V.sr h346 [] 1 0 [(6, .bool true)] fun a h419 => ?_
          refine V.ret ?_
          refine V.r1 h419 (.bool true) ?_
          exact ⟨rfl, hF_335⟩
      ·
       have h420 := h318.kf 51 hg319
       refine V.re h420 [] 52 57 [(58, .bool false)] fun a h421 => k301 _ _ ?_
       have h422 := h421.only [(0, .slice A25 ((setOf (l.take 200)).length) c26), (1, .int .i64 n), (7, .slice A286 ((someR (setOf (l.take 200)) n d).length) c287), (58, .bool false)]
       refine V.cf h422 ?_
       refine V.skip ?_
       refine V.then_n (k299 _ _ ?_)
       refine V.seq fun K423 k424 => ?_
       refine V.sr h422 [] 1 0 [(9, .int .i64 0)] fun a h427 => ?_
       refine V.block ?_
       refine V.loop1 (fun (i : Nat) a_ w_ => En 86 [] a_ [(0, .slice A25 ((setOf (l.take 200)).length) c26), (1, .int .i64 n), (7, .slice A286 ((someR (setOf (l.take 200)) n d).length) c287), (9, .int .i64 (i : Int))] ∧ Fr [] w w_ ∧ SlR Rp.str (fun k => k < w.heap.size) w_ (.slice Al l.length cl) l ∧ SlR Rp.str (fun k => k < w.heap.size) w_ (.slice Al ((l.take 200).length) cl) (l.take 200) ∧ OwR Rp.str NoZ w_ w.heap.size 9 (.slice A25 ((setOf (l.take 200)).length) c26) (setOf (l.take 200)) ∧ SlR Rp.str (fun _ => True) w_ (.slice A25 ((setOf (l.take 200)).length) c26) (setOf (l.take 200)) ∧ OwR Rp.str NoZ w_ w.heap.size 9 (.slice A286 ((someR (setOf (l.take 200)) n d).length) c287) (someR (setOf (l.take 200)) n d) ∧ (i ≤ (someR (setOf (l.take 200)) n d).length)) (fun (i : Nat) => ((someR (setOf (l.take 200)) n d).length) - i) 0 ?_ ?_
       ·
        refine ⟨(h427.eq 9 (v := (.int .i64 0)) (u := (.int .i64 (0 : Int))) (V.int_eq (by omega))).only _, hF_292, hSl_293, hS19_294, hO27q_295, hS285_296, hO288q, (by omega)⟩
       ·
        rintro i a428 w429 ⟨h430, hF_431, hSl_432, hS19_433, hO27q_434, hS285_435, hO288q_436, hi⟩
        have hfs437 := hF_431.size
        refine V.seq fun K438 k439 => ?_
        refine V.sr h430 [] 59 61 [(62, .bool (decide ((i : Int) < (((someR (setOf (l.take 200)) n d).length : Nat) : Int))))] fun a h442 => ?_
        refine V.cp h442 ((i : Int) < (((someR (setOf (l.take 200)) n d).length : Nat) : Int)) (fun ht443 => ?_) (fun ht443 => ?_)
        ·
         refine V.skip ?_
         refine V.then_n (k439 _ _ ?_)
         refine V.seq fun K444 k445 => ?_
         refine V.block ?_
         refine V.seq fun K446 k447 => ?_
         refine V.pl [([0,1,2,3,4],some (5,[])),([6,7,8,9,10,11,12,13,14,15,16,17],some (18,[])),([19,20],none)] fun w448 hF449 hsw448 => ?_
         have hF_450 := hF_431.new hF449
         have hSl_451 := hSl_432.fr0 hF449
         have hS19_452 := hS19_433.fr0 hF449
         have hO27q_453 := hO27q_434.fr0 hF449
         have hS285_454 := hS285_435.fr0 hF449
         have hO288q_455 := hO288q_436.fr0 hF449
         have hS456 := hO288q_455.is
         obtain ⟨g457, o458, hA459, hA459l, hA459z⟩ := hS456.addr (by omega)
         obtain ⟨cs460, hok461, hE462⟩ := hS456.els hA459 (i : Int) (by omega) (by omega)
         obtain rfl : cs460 = [.string (at_ Rp.str (someR (setOf (l.take 200)) n d) (i : Int))] := hok461
         refine V.pe h442 [(3, .ix g457 o458 ((someR (setOf (l.take 200)) n d).length) c287 .i64 (i : Int) 1 hA459), (0, .l ⟨g457, o458 + (i : Int).toNat * 1, none⟩ (.string (at_ Rp.str (someR (setOf (l.take 200)) n d) (i : Int))) (hE462.at 0 rfl))] 66 68 [(65, .slice A25 ((setOf (l.take 200)).length) c26), (69, .string (at_ Rp.str (someR (setOf (l.take 200)) n d) (i : Int)))] fun a h463 => ?_
         refine V.cl h463 (Go.Proofs.enters_of Try.func14 (by kernel_rfl) rfl) (in_any w448 A25 c26 (setOf (l.take 200)) hS285_454.old (at_ Rp.str (someR (setOf (l.take 200)) n d) (i : Int))) ?_
         rintro _ w465 ⟨rfl, hF464⟩
         refine ⟨_, rfl, fun a h466 => ?_⟩
         have hsw465 := hF464.size
         have hF_467 := hF_450.new hF464
         have hSl_468 := hSl_451.fr0 hF464
         have hS19_469 := hS19_452.fr0 hF464
         have hO27q_470 := hO27q_453.fr0 hF464
         have hS285_471 := hS285_454.fr0 hF464
         have hO288q_472 := hO288q_455.fr0 hF464
         have hS456_473 := hS456.fr0 hF464
         have hE462_474 := hE462.fr0 hF464
         refine V.eh trivial ?_
         refine V.pe0 ?_
         refine V.run h466 [(0, .q (.bool (decide (¬ ((at_ Rp.str (someR (setOf (l.take 200)) n d) (i : Int)) ∈ (setOf (l.take 200)))))) V.t_not)] 2 71 71 [(72, .bool (decide (¬ ((at_ Rp.str (someR (setOf (l.take 200)) n d) (i : Int)) ∈ (setOf (l.take 200))))))] fun a h475 => ?_
         by_cases hg476 : ¬ ((at_ Rp.str (someR (setOf (l.take 200)) n d) (i : Int)) ∈ (setOf (l.take 200)))
         ·
          have h477 := h475.kt 72 hg476
          refine V.se h477 [] 74 81 [(73, undef), (75, undef), (78, undef), (82, undef)] fun a h478 => ?_
          refine V.run h478 [] 1 1 0 [(83, undef)] fun a h479 => ?_
          refine V.eh trivial ?_
          refine V.pz h479 [] 84 84 [(85, .bool true)] fun a h480 => k447 _ _ ?_
          refine V.ct h480 ?_
          refine V.sr h480 [] 1 0 [(6, .bool false)] fun a h483 => ?_
          refine V.ret ?_
          refine V.blk_r ?_
          refine V.then_r ?_
          refine V.then_r ?_
          refine V.blk_r ?_
          refine V.then_r ?_
          refine V.r1 h483 (.bool false) ?_
          exfalso
          first | omega | exact hg476 (some_mem (by omega)) | exact (Decidable.of_not_not hg476) (some_mem (by omega)) | exact some_nd (setOf_inc _) (by omega) (by omega) hg476 | exact some_nd (setOf_inc _) (by omega) (by omega) (Decidable.of_not_not hg476)
         ·
          have h484 := h475.kf 72 hg476
          refine V.run h484 [] 3 74 74 [(73, .int .i64 n), (75, .bool (decide (n ≥ 0)))] fun a h485 => ?_
          by_cases hg486 : n ≥ 0
          ·
           have h487 := h485.kt 75 hg486
           have hS488 := hS456_473.tk (i := i) (by omega)
           refine V.se h487 [(2, .cut0 A286 ((someR (setOf (l.take 200)) n d).length) c287 (i : Int) i 1), (2, .ix g457 o458 ((someR (setOf (l.take 200)) n d).length) c287 .i64 (i : Int) 1 hA459), (0, .l ⟨g457, o458 + (i : Int).toNat * 1, none⟩ (.string (at_ Rp.str (someR (setOf (l.take 200)) n d) (i : Int))) (hE462_474.at 0 rfl))] 76 81 [(78, .slice A286 i c287), (82, .string (at_ Rp.str (someR (setOf (l.take 200)) n d) (i : Int)))] fun a h489 => ?_
           refine V.clg h489 (Go.Proofs.enters_of Try.func14 (by kernel_rfl) rfl) (in_at' w465 A286 c287 i ((someR (setOf (l.take 200)) n d).take i) (by rw [List.length_take]; omega) hS488.old (at_ Rp.str (someR (setOf (l.take 200)) n d) (i : Int))) ?_
           rintro _ w491 ⟨rfl, hF490⟩
           refine ⟨_, rfl, fun a h492 => ?_⟩
           have hsw491 := hF490.size
           have hF_493 := hF_467.new hF490
           have hSl_494 := hSl_468.fr0 hF490
           have hS19_495 := hS19_469.fr0 hF490
           have hO27q_496 := hO27q_470.fr0 hF490
           have hS285_497 := hS285_471.fr0 hF490
           have hO288q_498 := hO288q_472.fr0 hF490
           have hS456_499 := hS456_473.fr0 hF490
           have hE462_500 := hE462_474.fr0 hF490
           have hS488_501 := hS488.fr0 hF490
           refine V.eh trivial ?_
           refine V.pz h492 [] 84 84 [(85, .bool (decide ((at_ Rp.str (someR (setOf (l.take 200)) n d) (i : Int)) ∈ ((someR (setOf (l.take 200)) n d).take i))))] fun a h502 => k447 _ _ ?_
           refine V.cp h502 ((at_ Rp.str (someR (setOf (l.take 200)) n d) (i : Int)) ∈ ((someR (setOf (l.take 200)) n d).take i)) (fun ht503 => ?_) (fun ht503 => ?_)
           ·
            refine V.sr h502 [] 1 0 [(6, .bool false)] fun a h506 => ?_
            refine V.ret ?_
            refine V.blk_r ?_
            refine V.then_r ?_
            refine V.then_r ?_
            refine V.blk_r ?_
            refine V.then_r ?_
            refine V.r1 h506 (.bool false) ?_
            exfalso
            first | omega | exact hg476 (some_mem (by omega)) | exact (Decidable.of_not_not hg476) (some_mem (by omega)) | exact some_nd (setOf_inc _) (by omega) (by omega) hg476 | exact some_nd (setOf_inc _) (by omega) (by omega) (Decidable.of_not_not hg476) | exact ht503 (some_mem (by omega)) | exact (Decidable.of_not_not ht503) (some_mem (by omega)) | exact some_nd (setOf_inc _) (by omega) (by omega) ht503 | exact some_nd (setOf_inc _) (by omega) (by omega) (Decidable.of_not_not ht503)
           ·
            refine V.skip ?_
            refine V.blk_n ?_
            refine V.then_n (k445 _ _ ?_)
            refine V.rr h502 [(1, .i ((i : Int) + 1))] 63 64 [(9, .int .i64 ((i : Int) + 1))] fun a h507 => ?_
            refine V.then_n ?_
            refine ⟨i + 1, by omega, ?_⟩
            refine ⟨(h507.eq 9 (v := (.int .i64 ((i : Int) + 1))) (u := (.int .i64 ((i + 1) : Int))) (V.int_eq (by omega))).only _, hF_493, hSl_494, hS19_495, hO27q_496, hS285_497, hO288q_498, (by omega)⟩
          ·
           have h508 := h485.kf 75 hg486
           refine V.se h508 [] 76 81 [(78, undef), (82, undef)] fun a h509 => ?_
           refine V.run h509 [] 1 1 0 [(83, undef)] fun a h510 => ?_
           refine V.eh trivial ?_
           refine V.pz h510 [] 84 84 [(85, .bool false)] fun a h511 => k447 _ _ ?_
           refine V.cf h511 ?_
           refine V.skip ?_
           refine V.blk_n ?_
           refine V.then_n (k445 _ _ ?_)
           refine V.rr h511 [(1, .i ((i : Int) + 1))] 63 64 [(9, .int .i64 ((i : Int) + 1))] fun a h512 => ?_
           refine V.then_n ?_
           refine ⟨i + 1, by omega, ?_⟩
           refine ⟨(h512.eq 9 (v := (.int .i64 ((i : Int) + 1))) (u := (.int .i64 ((i + 1) : Int))) (V.int_eq (by omega))).only _, hF_467, hSl_468, hS19_469, hO27q_470, hS285_471, hO288q_472, (by omega)⟩
        ·
         refine V.exit ?_
         refine V.then_e ?_
         refine V.then_e ?_
         refine V.blk_hit ?_
         refine V.then_n (k424 _ _ ?_)
         refine V.sr h442 [] 1 0 [(6, .bool true)] fun a h515 => ?_
         refine V.ret ?_
         refine V.r1 h515 (.bool true) ?_
         exact ⟨rfl, hF_431⟩
     ·
      have h516 := h315.kf 46 hg316
      refine V.re h516 [] 47 57 [(58, .bool false)] fun a h517 => k301 _ _ ?_
      have h518 := h517.only [(0, .slice A25 ((setOf (l.take 200)).length) c26), (1, .int .i64 n), (7, .slice A286 ((someR (setOf (l.take 200)) n d).length) c287), (58, .bool false)]
      refine V.cf h518 ?_
      refine V.skip ?_
      refine V.then_n (k299 _ _ ?_)
      refine V.seq fun K519 k520 => ?_
      refine V.sr h518 [] 1 0 [(9, .int .i64 0)] fun a h523 => ?_
      refine V.block ?_
      refine V.loop1 (fun (i : Nat) a_ w_ => En 86 [] a_ [(0, .slice A25 ((setOf (l.take 200)).length) c26), (1, .int .i64 n), (7, .slice A286 ((someR (setOf (l.take 200)) n d).length) c287), (9, .int .i64 (i : Int))] ∧ Fr [] w w_ ∧ SlR Rp.str (fun k => k < w.heap.size) w_ (.slice Al l.length cl) l ∧ SlR Rp.str (fun k => k < w.heap.size) w_ (.slice Al ((l.take 200).length) cl) (l.take 200) ∧ OwR Rp.str NoZ w_ w.heap.size 9 (.slice A25 ((setOf (l.take 200)).length) c26) (setOf (l.take 200)) ∧ SlR Rp.str (fun _ => True) w_ (.slice A25 ((setOf (l.take 200)).length) c26) (setOf (l.take 200)) ∧ OwR Rp.str NoZ w_ w.heap.size 9 (.slice A286 ((someR (setOf (l.take 200)) n d).length) c287) (someR (setOf (l.take 200)) n d) ∧ (i ≤ (someR (setOf (l.take 200)) n d).length)) (fun (i : Nat) => ((someR (setOf (l.take 200)) n d).length) - i) 0 ?_ ?_
      ·
       refine ⟨(h523.eq 9 (v := (.int .i64 0)) (u := (.int .i64 (0 : Int))) (V.int_eq (by omega))).only _, hF_292, hSl_293, hS19_294, hO27q_295, hS285_296, hO288q, (by omega)⟩
      ·
       rintro i a524 w525 ⟨h526, hF_527, hSl_528, hS19_529, hO27q_530, hS285_531, hO288q_532, hi⟩
       have hfs533 := hF_527.size
       refine V.seq fun K534 k535 => ?_
       refine V.sr h526 [] 59 61 [(62, .bool (decide ((i : Int) < (((someR (setOf (l.take 200)) n d).length : Nat) : Int))))] fun a h538 => ?_
       refine V.cp h538 ((i : Int) < (((someR (setOf (l.take 200)) n d).length : Nat) : Int)) (fun ht539 => ?_) (fun ht539 => ?_)
       ·
        refine V.skip ?_
        refine V.then_n (k535 _ _ ?_)
        refine V.seq fun K540 k541 => ?_
        refine V.block ?_
        refine V.seq fun K542 k543 => ?_
        refine V.pl [([0,1,2,3,4],some (5,[])),([6,7,8,9,10,11,12,13,14,15,16,17],some (18,[])),([19,20],none)] fun w544 hF545 hsw544 => ?_
        have hF_546 := hF_527.new hF545
        have hSl_547 := hSl_528.fr0 hF545
        have hS19_548 := hS19_529.fr0 hF545
        have hO27q_549 := hO27q_530.fr0 hF545
        have hS285_550 := hS285_531.fr0 hF545
        have hO288q_551 := hO288q_532.fr0 hF545
        have hS552 := hO288q_551.is
        obtain ⟨g553, o554, hA555, hA555l, hA555z⟩ := hS552.addr (by omega)
        obtain ⟨cs556, hok557, hE558⟩ := hS552.els hA555 (i : Int) (by omega) (by omega)
        obtain rfl : cs556 = [.string (at_ Rp.str (someR (setOf (l.take 200)) n d) (i : Int))] := hok557
        refine V.pe h538 [(3, .ix g553 o554 ((someR (setOf (l.take 200)) n d).length) c287 .i64 (i : Int) 1 hA555), (0, .l ⟨g553, o554 + (i : Int).toNat * 1, none⟩ (.string (at_ Rp.str (someR (setOf (l.take 200)) n d) (i : Int))) (hE558.at 0 rfl))] 66 68 [(65, .slice A25 ((setOf (l.take 200)).length) c26), (69, .string (at_ Rp.str (someR (setOf (l.take 200)) n d) (i : Int)))] fun a h559 => ?_
        refine V.cl h559 (Go.Proofs.enters_of Try.func14 (by kernel_rfl) rfl) (in_any w544 A25 c26 (setOf (l.take 200)) hS285_550.old (at_ Rp.str (someR (setOf (l.take 200)) n d) (i : Int))) ?_
        rintro _ w561 ⟨rfl, hF560⟩
        refine ⟨_, rfl, fun a h562 => ?_⟩
        have hsw561 := hF560.size
        have hF_563 := hF_546.new hF560
        have hSl_564 := hSl_547.fr0 hF560
        have hS19_565 := hS19_548.fr0 hF560
        have hO27q_566 := hO27q_549.fr0 hF560
        have hS285_567 := hS285_550.fr0 hF560
        have hO288q_568 := hO288q_551.fr0 hF560
        have hS552_569 := hS552.fr0 hF560
        have hE558_570 := hE558.fr0 hF560
        refine V.eh trivial ?_
        refine V.pe0 ?_
        refine V.run h562 [(0, .q (.bool (decide (¬ ((at_ Rp.str (someR (setOf (l.take 200)) n d) (i : Int)) ∈ (setOf (l.take 200)))))) V.t_not)] 2 71 71 [(72, .bool (decide (¬ ((at_ Rp.str (someR (setOf (l.take 200)) n d) (i : Int)) ∈ (setOf (l.take 200))))))] fun a h571 => ?_
        by_cases hg572 : ¬ ((at_ Rp.str (someR (setOf (l.take 200)) n d) (i : Int)) ∈ (setOf (l.take 200)))
        ·
         have h573 := h571.kt 72 hg572
         refine V.se h573 [] 74 81 [(73, undef), (75, undef), (78, undef), (82, undef)] fun a h574 => ?_
         refine V.run h574 [] 1 1 0 [(83, undef)] fun a h575 => ?_
         refine V.eh trivial ?_
         refine V.pz h575 [] 84 84 [(85, .bool true)] fun a h576 => k543 _ _ ?_
         refine V.ct h576 ?_
         refine V.sr h576 [] 1 0 [(6, .bool false)] fun a h579 => ?_
         refine V.ret ?_
         refine V.blk_r ?_
         refine V.then_r ?_
         refine V.then_r ?_
         refine V.blk_r ?_
         refine V.then_r ?_
         refine V.r1 h579 (.bool false) ?_
         exfalso
         first | omega | exact hg572 (some_mem (by omega)) | exact (Decidable.of_not_not hg572) (some_mem (by omega)) | exact some_nd (setOf_inc _) (by omega) (by omega) hg572 | exact some_nd (setOf_inc _) (by omega) (by omega) (Decidable.of_not_not hg572)
        ·
         have h580 := h571.kf 72 hg572
         refine V.run h580 [] 3 74 74 [(73, .int .i64 n), (75, .bool (decide (n ≥ 0)))] fun a h581 => ?_
         by_cases hg582 : n ≥ 0
         ·
          have h583 := h581.kt 75 hg582
          have hS584 := hS552_569.tk (i := i) (by omega)
          refine V.se h583 [(2, .cut0 A286 ((someR (setOf (l.take 200)) n d).length) c287 (i : Int) i 1), (2, .ix g553 o554 ((someR (setOf (l.take 200)) n d).length) c287 .i64 (i : Int) 1 hA555), (0, .l ⟨g553, o554 + (i : Int).toNat * 1, none⟩ (.string (at_ Rp.str (someR (setOf (l.take 200)) n d) (i : Int))) (hE558_570.at 0 rfl))] 76 81 [(78, .slice A286 i c287), (82, .string (at_ Rp.str (someR (setOf (l.take 200)) n d) (i : Int)))] fun a h585 => ?_
          refine V.clg h585 (Go.Proofs.enters_of Try.func14 (by kernel_rfl) rfl) (in_at' w561 A286 c287 i ((someR (setOf (l.take 200)) n d).take i) (by rw [List.length_take]; omega) hS584.old (at_ Rp.str (someR (setOf (l.take 200)) n d) (i : Int))) ?_
          rintro _ w587 ⟨rfl, hF586⟩
          refine ⟨_, rfl, fun a h588 => ?_⟩
          have hsw587 := hF586.size
          have hF_589 := hF_563.new hF586
          have hSl_590 := hSl_564.fr0 hF586
          have hS19_591 := hS19_565.fr0 hF586
          have hO27q_592 := hO27q_566.fr0 hF586
          have hS285_593 := hS285_567.fr0 hF586
          have hO288q_594 := hO288q_568.fr0 hF586
          have hS552_595 := hS552_569.fr0 hF586
          have hE558_596 := hE558_570.fr0 hF586
          have hS584_597 := hS584.fr0 hF586
          refine V.eh trivial ?_
          refine V.pz h588 [] 84 84 [(85, .bool (decide ((at_ Rp.str (someR (setOf (l.take 200)) n d) (i : Int)) ∈ ((someR (setOf (l.take 200)) n d).take i))))] fun a h598 => k543 _ _ ?_
          refine V.cp h598 ((at_ Rp.str (someR (setOf (l.take 200)) n d) (i : Int)) ∈ ((someR (setOf (l.take 200)) n d).take i)) (fun ht599 => ?_) (fun ht599 => ?_)
          ·
           refine V.sr h598 [] 1 0 [(6, .bool false)] fun a h602 => ?_
           refine V.ret ?_
           refine V.blk_r ?_
           refine V.then_r ?_
           refine V.then_r ?_
           refine V.blk_r ?_
           refine V.then_r ?_
           refine V.r1 h602 (.bool false) ?_
           exfalso
           first | omega | exact hg572 (some_mem (by omega)) | exact (Decidable.of_not_not hg572) (some_mem (by omega)) | exact some_nd (setOf_inc _) (by omega) (by omega) hg572 | exact some_nd (setOf_inc _) (by omega) (by omega) (Decidable.of_not_not hg572) | exact ht599 (some_mem (by omega)) | exact (Decidable.of_not_not ht599) (some_mem (by omega)) | exact some_nd (setOf_inc _) (by omega) (by omega) ht599 | exact some_nd (setOf_inc _) (by omega) (by omega) (Decidable.of_not_not ht599)
          ·
           refine V.skip ?_
           refine V.blk_n ?_
           refine V.then_n (k541 _ _ ?_)
           refine V.rr h598 [(1, .i ((i : Int) + 1))] 63 64 [(9, .int .i64 ((i : Int) + 1))] fun a h603 => ?_
           refine V.then_n ?_
           refine ⟨i + 1, by omega, ?_⟩
           refine ⟨(h603.eq 9 (v := (.int .i64 ((i : Int) + 1))) (u := (.int .i64 ((i + 1) : Int))) (V.int_eq (by omega))).only _, hF_589, hSl_590, hS19_591, hO27q_592, hS285_593, hO288q_594, (by omega)⟩
         ·
          have h604 := h581.kf 75 hg582
          refine V.se h604 [] 76 81 [(78, undef), (82, undef)] fun a h605 => ?_
          refine V.run h605 [] 1 1 0 [(83, undef)] fun a h606 => ?_
          refine V.eh trivial ?_
          refine V.pz h606 [] 84 84 [(85, .bool false)] fun a h607 => k543 _ _ ?_
          refine V.cf h607 ?_
          refine V.skip ?_
          refine V.blk_n ?_
          refine V.then_n (k541 _ _ ?_)
          refine V.rr h607 [(1, .i ((i : Int) + 1))] 63 64 [(9, .int .i64 ((i : Int) + 1))] fun a h608 => ?_
          refine V.then_n ?_
          refine ⟨i + 1, by omega, ?_⟩
          refine ⟨(h608.eq 9 (v := (.int .i64 ((i : Int) + 1))) (u := (.int .i64 ((i + 1) : Int))) (V.int_eq (by omega))).only _, hF_563, hSl_564, hS19_565, hO27q_566, hS285_567, hO288q_568, (by omega)⟩
       ·
        refine V.exit ?_
        refine V.then_e ?_
        refine V.then_e ?_
        refine V.blk_hit ?_
        refine V.then_n (k520 _ _ ?_)
        refine V.sr h538 [] 1 0 [(6, .bool true)] fun a h611 => ?_
        refine V.ret ?_
        refine V.r1 h611 (.bool true) ?_
        exact ⟨rfl, hF_527⟩
   ·
    have h612 := h303.kf 33 hg304
    refine V.run h612 [] 13 34 45 [(43, .bool false), (46, .bool (decide (n < 0)))] fun a h613 => ?_
    by_cases hg614 : n < 0
    ·
     have h615 := h613.kt 46 hg614
     refine V.run h615 [] 5 47 50 [(51, .bool (decide ((((setOf (l.take 200)).length : Nat) : Int) > 0)))] fun a h616 => ?_
     by_cases hg617 : (((setOf (l.take 200)).length : Nat) : Int) > 0
     ·
      have h618 := h616.kt 51 hg617
      refine V.re h618 [(3, .q (.int .i64 (0 - n)) (V.w_i64 (by omega) (by omega))), (0, .ne (((someR (setOf (l.take 200)) n d).length : Nat) : Int) (0 - n))] 52 57 [(58, .bool (decide (¬ (((someR (setOf (l.take 200)) n d).length : Nat) : Int) = (0 - n))))] fun a h619 => k301 _ _ ?_
      have h620 := h619.only [(0, .slice A25 ((setOf (l.take 200)).length) c26), (1, .int .i64 n), (7, .slice A286 ((someR (setOf (l.take 200)) n d).length) c287), (58, .bool (decide (¬ (((someR (setOf (l.take 200)) n d).length : Nat) : Int) = (0 - n))))]
      refine V.cp h620 (¬ (((someR (setOf (l.take 200)) n d).length : Nat) : Int) = (0 - n)) (fun ht621 => ?_) (fun ht621 => ?_)
      ·
       refine V.sr h620 [] 1 0 [(6, .bool false)] fun a h624 => ?_
       refine V.ret ?_
       refine V.then_r ?_
       refine V.r1 h624 (.bool false) ?_
       exfalso
       first | omega
      ·
       refine V.skip ?_
       refine V.then_n (k299 _ _ ?_)
       refine V.seq fun K625 k626 => ?_
       refine V.sr h620 [] 1 0 [(9, .int .i64 0)] fun a h629 => ?_
       refine V.block ?_
       refine V.loop1 (fun (i : Nat) a_ w_ => En 86 [] a_ [(0, .slice A25 ((setOf (l.take 200)).length) c26), (1, .int .i64 n), (7, .slice A286 ((someR (setOf (l.take 200)) n d).length) c287), (9, .int .i64 (i : Int))] ∧ Fr [] w w_ ∧ SlR Rp.str (fun k => k < w.heap.size) w_ (.slice Al l.length cl) l ∧ SlR Rp.str (fun k => k < w.heap.size) w_ (.slice Al ((l.take 200).length) cl) (l.take 200) ∧ OwR Rp.str NoZ w_ w.heap.size 9 (.slice A25 ((setOf (l.take 200)).length) c26) (setOf (l.take 200)) ∧ SlR Rp.str (fun _ => True) w_ (.slice A25 ((setOf (l.take 200)).length) c26) (setOf (l.take 200)) ∧ OwR Rp.str NoZ w_ w.heap.size 9 (.slice A286 ((someR (setOf (l.take 200)) n d).length) c287) (someR (setOf (l.take 200)) n d) ∧ (i ≤ (someR (setOf (l.take 200)) n d).length)) (fun (i : Nat) => ((someR (setOf (l.take 200)) n d).length) - i) 0 ?_ ?_
       ·
        refine ⟨(h629.eq 9 (v := (.int .i64 0)) (u := (.int .i64 (0 : Int))) (V.int_eq (by omega))).only _, hF_292, hSl_293, hS19_294, hO27q_295, hS285_296, hO288q, (by omega)⟩
       ·
        rintro i a630 w631 ⟨h632, hF_633, hSl_634, hS19_635, hO27q_636, hS285_637, hO288q_638, hi⟩
        have hfs639 := hF_633.size
        refine V.seq fun K640 k641 => ?_
        refine V.sr h632 [] 59 61 [(62, .bool (decide ((i : Int) < (((someR (setOf (l.take 200)) n d).length : Nat) : Int))))] fun a h644 => ?_
        refine V.cp h644 ((i : Int) < (((someR (setOf (l.take 200)) n d).length : Nat) : Int)) (fun ht645 => ?_) (fun ht645 => ?_)
        ·
         refine V.skip ?_
         refine V.then_n (k641 _ _ ?_)
         refine V.seq fun K646 k647 => ?_
         refine V.block ?_
         refine V.seq fun K648 k649 => ?_
         refine V.pl [([0,1,2,3,4],some (5,[])),([6,7,8,9,10,11,12,13,14,15,16,17],some (18,[])),([19,20],none)] fun w650 hF651 hsw650 => ?_
         have hF_652 := hF_633.new hF651
         have hSl_653 := hSl_634.fr0 hF651
         have hS19_654 := hS19_635.fr0 hF651
         have hO27q_655 := hO27q_636.fr0 hF651
         have hS285_656 := hS285_637.fr0 hF651
         have hO288q_657 := hO288q_638.fr0 hF651
         have hS658 := hO288q_657.is
         obtain ⟨g659, o660, hA661, hA661l, hA661z⟩ := hS658.addr (by omega)
         obtain ⟨cs662, hok663, hE664⟩ := hS658.els hA661 (i : Int) (by omega) (by omega)
         obtain rfl : cs662 = [.string (at_ Rp.str (someR (setOf (l.take 200)) n d) (i : Int))] := hok663
         refine V.pe h644 [(3, .ix g659 o660 ((someR (setOf (l.take 200)) n d).length) c287 .i64 (i : Int) 1 hA661), (0, .l ⟨g659, o660 + (i : Int).toNat * 1, none⟩ (.string (at_ Rp.str (someR (setOf (l.take 200)) n d) (i : Int))) (hE664.at 0 rfl))] 66 68 [(65, .slice A25 ((setOf (l.take 200)).length) c26), (69, .string (at_ Rp.str (someR (setOf (l.take 200)) n d) (i : Int)))] fun a h665 => ?_
         refine V.cl h665 (Go.Proofs.enters_of Try.func14 (by kernel_rfl) rfl) (in_any w650 A25 c26 (setOf (l.take 200)) hS285_656.old (at_ Rp.str (someR (setOf (l.take 200)) n d) (i : Int))) ?_
         rintro _ w667 ⟨rfl, hF666⟩
         refine ⟨_, rfl, fun a h668 => ?_⟩
         have hsw667 := hF666.size
         have hF_669 := hF_652.new hF666
         have hSl_670 := hSl_653.fr0 hF666
         have hS19_671 := hS19_654.fr0 hF666
         have hO27q_672 := hO27q_655.fr0 hF666
         have hS285_673 := hS285_656.fr0 hF666
         have hO288q_674 := hO288q_657.fr0 hF666
         have hS658_675 := hS658.fr0 hF666
         have hE664_676 := hE664.fr0 hF666
         refine V.eh trivial ?_
         refine V.pe0 ?_
         refine V.run h668 [(0, .q (.bool (decide (¬ ((at_ Rp.str (someR (setOf (l.take 200)) n d) (i : Int)) ∈ (setOf (l.take 200)))))) V.t_not)] 2 71 71 [(72, .bool (decide (¬ ((at_ Rp.str (someR (setOf (l.take 200)) n d) (i : Int)) ∈ (setOf (l.take 200))))))] fun a h677 => ?_
         by_cases hg678 : ¬ ((at_ Rp.str (someR (setOf (l.take 200)) n d) (i : Int)) ∈ (setOf (l.take 200)))
         ·
          have h679 := h677.kt 72 hg678
          refine V.se h679 [] 74 81 [(73, undef), (75, undef), (78, undef), (82, undef)] fun a h680 => ?_
          refine V.run h680 [] 1 1 0 [(83, undef)] fun a h681 => ?_
          refine V.eh trivial ?_
          refine V.pz h681 [] 84 84 [(85, .bool true)] fun a h682 => k649 _ _ ?_
          refine V.ct h682 ?_
          refine V.sr h682 [] 1 0 [(6, .bool false)] fun a h685 => ?_
          refine V.ret ?_
          refine V.blk_r ?_
          refine V.then_r ?_
          refine V.then_r ?_
          refine V.blk_r ?_
          refine V.then_r ?_
          refine V.r1 h685 (.bool false) ?_
          exfalso
          first | omega | exact hg678 (some_mem (by omega)) | exact (Decidable.of_not_not hg678) (some_mem (by omega)) | exact some_nd (setOf_inc _) (by omega) (by omega) hg678 | exact some_nd (setOf_inc _) (by omega) (by omega) (Decidable.of_not_not hg678)
         ·
          have h686 := h677.kf 72 hg678
          refine V.run h686 [] 3 74 74 [(73, .int .i64 n), (75, .bool (decide (n ≥ 0)))] fun a h687 => ?_
          by_cases hg688 : n ≥ 0
          ·
           have h689 := h687.kt 75 hg688
           have hS690 := hS658_675.tk (i := i) (by omega)
           refine V.se h689 [(2, .cut0 A286 ((someR (setOf (l.take 200)) n d).length) c287 (i : Int) i 1), (2, .ix g659 o660 ((someR (setOf (l.take 200)) n d).length) c287 .i64 (i : Int) 1 hA661), (0, .l ⟨g659, o660 + (i : Int).toNat * 1, none⟩ (.string (at_ Rp.str (someR (setOf (l.take 200)) n d) (i : Int))) (hE664_676.at 0 rfl))] 76 81 [(78, .slice A286 i c287), (82, .string (at_ Rp.str (someR (setOf (l.take 200)) n d) (i : Int)))] fun a h691 => ?_
           refine V.clg h691 (Go.Proofs.enters_of Try.func14 (by kernel_rfl) rfl) (in_at' w667 A286 c287 i ((someR (setOf (l.take 200)) n d).take i) (by rw [List.length_take]; omega) hS690.old (at_ Rp.str (someR (setOf (l.take 200)) n d) (i : Int))) ?_
           rintro _ w693 ⟨rfl, hF692⟩
           refine ⟨_, rfl, fun a h694 => ?_⟩
           have hsw693 := hF692.size
           have hF_695 := hF_669.new hF692
           have hSl_696 := hSl_670.fr0 hF692
           have hS19_697 := hS19_671.fr0 hF692
           have hO27q_698 := hO27q_672.fr0 hF692
           have hS285_699 := hS285_673.fr0 hF692
           have hO288q_700 := hO288q_674.fr0 hF692
           have hS658_701 := hS658_675.fr0 hF692
           have hE664_702 := hE664_676.fr0 hF692
           have hS690_703 := hS690.fr0 hF692
           refine V.eh trivial ?_
           refine V.pz h694 [] 84 84 [(85, .bool (decide ((at_ Rp.str (someR (setOf (l.take 200)) n d) (i : Int)) ∈ ((someR (setOf (l.take 200)) n d).take i))))] fun a h704 => k649 _ _ ?_
           refine V.cp h704 ((at_ Rp.str (someR (setOf (l.take 200)) n d) (i : Int)) ∈ ((someR (setOf (l.take 200)) n d).take i)) (fun ht705 => ?_) (fun ht705 => ?_)
           ·
            refine V.sr h704 [] 1 0 [(6, .bool false)] fun a h708 => ?_
            refine V.ret ?_
            refine V.blk_r ?_
            refine V.then_r ?_
            refine V.then_r ?_
            refine V.blk_r ?_
            refine V.then_r ?_
            refine V.r1 h708 (.bool false) ?_
            exfalso
            first | omega | exact hg678 (some_mem (by omega)) | exact (Decidable.of_not_not hg678) (some_mem (by omega)) | exact some_nd (setOf_inc _) (by omega) (by omega) hg678 | exact some_nd (setOf_inc _) (by omega) (by omega) (Decidable.of_not_not hg678) | exact ht705 (some_mem (by omega)) | exact (Decidable.of_not_not ht705) (some_mem (by omega)) | exact some_nd (setOf_inc _) (by omega) (by omega) ht705 | exact some_nd (setOf_inc _) (by omega) (by omega) (Decidable.of_not_not ht705)
           ·
            refine V.skip ?_
            refine V.blk_n ?_
            refine V.then_n (k647 _ _ ?_)
            refine V.rr h704 [(1, .i ((i : Int) + 1))] 63 64 [(9, .int .i64 ((i : Int) + 1))] fun a h709 => ?_
            refine V.then_n ?_
            refine ⟨i + 1, by omega, ?_⟩
            refine ⟨(h709.eq 9 (v := (.int .i64 ((i : Int) + 1))) (u := (.int .i64 ((i + 1) : Int))) (V.int_eq (by omega))).only _, hF_695, hSl_696, hS19_697, hO27q_698, hS285_699, hO288q_700, (by omega)⟩
          ·
           have h710 := h687.kf 75 hg688
           refine V.se h710 [] 76 81 [(78, undef), (82, undef)] fun a h711 => ?_
           refine V.run h711 [] 1 1 0 [(83, undef)] fun a h712 => ?_
           refine V.eh trivial ?_
           refine V.pz h712 [] 84 84 [(85, .bool false)] fun a h713 => k649 _ _ ?_
           refine V.cf h713 ?_
           refine V.skip ?_
           refine V.blk_n ?_
           refine V.then_n (k647 _ _ ?_)
           refine V.rr h713 [(1, .i ((i : Int) + 1))] 63 64 [(9, .int .i64 ((i : Int) + 1))] fun a h714 => ?_
           refine V.then_n ?_
           refine ⟨i + 1, by omega, ?_⟩
           refine ⟨(h714.eq 9 (v := (.int .i64 ((i : Int) + 1))) (u := (.int .i64 ((i + 1) : Int))) (V.int_eq (by omega))).only _, hF_669, hSl_670, hS19_671, hO27q_672, hS285_673, hO288q_674, (by omega)⟩
        ·
         refine V.exit ?_
         refine V.then_e ?_
         refine V.then_e ?_
         refine V.blk_hit ?_
         refine V.then_n (k626 _ _ ?_)
         refine V.sr h644 [] 1 0 [(6, .bool true)] fun a h717 => ?_
         refine V.ret ?_
         refine V.r1 h717 (.bool true) ?_
         exact ⟨rfl, hF_633⟩
     ·
      have h718 := h616.kf 51 hg617
      refine V.re h718 [] 52 57 [(58, .bool false)] fun a h719 => k301 _ _ ?_
      have h720 := h719.only [(0, .slice A25 ((setOf (l.take 200)).length) c26), (1, .int .i64 n), (7, .slice A286 ((someR (setOf (l.take 200)) n d).length) c287), (58, .bool false)]
      refine V.cf h720 ?_
      refine V.skip ?_
      refine V.then_n (k299 _ _ ?_)
      refine V.seq fun K721 k722 => ?_
      refine V.sr h720 [] 1 0 [(9, .int .i64 0)] fun a h725 => ?_
      refine V.block ?_
      refine V.loop1 (fun (i : Nat) a_ w_ => En 86 [] a_ [(0, .slice A25 ((setOf (l.take 200)).length) c26), (1, .int .i64 n), (7, .slice A286 ((someR (setOf (l.take 200)) n d).length) c287), (9, .int .i64 (i : Int))] ∧ Fr [] w w_ ∧ SlR Rp.str (fun k => k < w.heap.size) w_ (.slice Al l.length cl) l ∧ SlR Rp.str (fun k => k < w.heap.size) w_ (.slice Al ((l.take 200).length) cl) (l.take 200) ∧ OwR Rp.str NoZ w_ w.heap.size 9 (.slice A25 ((setOf (l.take 200)).length) c26) (setOf (l.take 200)) ∧ SlR Rp.str (fun _ => True) w_ (.slice A25 ((setOf (l.take 200)).length) c26) (setOf (l.take 200)) ∧ OwR Rp.str NoZ w_ w.heap.size 9 (.slice A286 ((someR (setOf (l.take 200)) n d).length) c287) (someR (setOf (l.take 200)) n d) ∧ (i ≤ (someR (setOf (l.take 200)) n d).length)) (fun (i : Nat) => ((someR (setOf (l.take 200)) n d).length) - i) 0 ?_ ?_
      ·
       refine ⟨(h725.eq 9 (v := (.int .i64 0)) (u := (.int .i64 (0 : Int))) (V.int_eq (by omega))).only _, hF_292, hSl_293, hS19_294, hO27q_295, hS285_296, hO288q, (by omega)⟩
      ·
       rintro i a726 w727 ⟨h728, hF_729, hSl_730, hS19_731, hO27q_732, hS285_733, hO288q_734, hi⟩
       have hfs735 := hF_729.size
       refine V.seq fun K736 k737 => ?_
       refine V.sr h728 [] 59 61 [(62, .bool (decide ((i : Int) < (((someR (setOf (l.take 200)) n d).length : Nat) : Int))))] fun a h740 => ?_
       refine V.cp h740 ((i : Int) < (((someR (setOf (l.take 200)) n d).length : Nat) : Int)) (fun ht741 => ?_) (fun ht741 => ?_)
       ·
        refine V.skip ?_
        refine V.then_n (k737 _ _ ?_)
        refine V.seq fun K742 k743 => ?_
        refine V.block ?_
        refine V.seq fun K744 k745 => ?_
        refine V.pl [([0,1,2,3,4],some (5,[])),([6,7,8,9,10,11,12,13,14,15,16,17],some (18,[])),([19,20],none)] fun w746 hF747 hsw746 => ?_
        have hF_748 := hF_729.new hF747
        have hSl_749 := hSl_730.fr0 hF747
        have hS19_750 := hS19_731.fr0 hF747
        have hO27q_751 := hO27q_732.fr0 hF747
        have hS285_752 := hS285_733.fr0 hF747
        have hO288q_753 := hO288q_734.fr0 hF747
        have hS754 := hO288q_753.is
        obtain ⟨g755, o756, hA757, hA757l, hA757z⟩ := hS754.addr (by omega)
        obtain ⟨cs758, hok759, hE760⟩ := hS754.els hA757 (i : Int) (by omega) (by omega)
        obtain rfl : cs758 = [.string (at_ Rp.str (someR (setOf (l.take 200)) n d) (i : Int))] := hok759
        refine V.pe h740 [(3, .ix g755 o756 ((someR (setOf (l.take 200)) n d).length) c287 .i64 (i : Int) 1 hA757), (0, .l ⟨g755, o756 + (i : Int).toNat * 1, none⟩ (.string (at_ Rp.str (someR (setOf (l.take 200)) n d) (i : Int))) (hE760.at 0 rfl))] 66 68 [(65, .slice A25 ((setOf (l.take 200)).length) c26), (69, .string (at_ Rp.str (someR (setOf (l.take 200)) n d) (i : Int)))] fun a h761 => ?_
        refine V.cl h761 (Go.Proofs.enters_of Try.func14 (by kernel_rfl) rfl) (in_any w746 A25 c26 (setOf (l.take 200)) hS285_752.old (at_ Rp.str (someR (setOf (l.take 200)) n d) (i : Int))) ?_
        rintro _ w763 ⟨rfl, hF762⟩
        refine ⟨_, rfl, fun a h764 => ?_⟩
        have hsw763 := hF762.size
        have hF_765 := hF_748.new hF762
        have hSl_766 := hSl_749.fr0 hF762
        have hS19_767 := hS19_750.fr0 hF762
        have hO27q_768 := hO27q_751.fr0 hF762
        have hS285_769 := hS285_752.fr0 hF762
        have hO288q_770 := hO288q_753.fr0 hF762
        have hS754_771 := hS754.fr0 hF762
        have hE760_772 := hE760.fr0 hF762
        refine V.eh trivial ?_
        refine V.pe0 ?_
        refine V.run h764 [(0, .q (.bool (decide (¬ ((at_ Rp.str (someR (setOf (l.take 200)) n d) (i : Int)) ∈ (setOf (l.take 200)))))) V.t_not)] 2 71 71 [(72, .bool (decide (¬ ((at_ Rp.str (someR (setOf (l.take 200)) n d) (i : Int)) ∈ (setOf (l.take 200))))))] fun a h773 => ?_
        by_cases hg774 : ¬ ((at_ Rp.str (someR (setOf (l.take 200)) n d) (i : Int)) ∈ (setOf (l.take 200)))
        ·
         have h775 := h773.kt 72 hg774
         refine V.se h775 [] 74 81 [(73, undef), (75, undef), (78, undef), (82, undef)] fun a h776 => ?_
         refine V.run h776 [] 1 1 0 [(83, undef)] fun a h777 => ?_
         refine V.eh trivial ?_
         refine V.pz h777 [] 84 84 [(85, .bool true)] fun a h778 => k745 _ _ ?_
         refine V.ct h778 ?_
         refine V.sr h778 [] 1 0 [(6, .bool false)] fun a h781 => ?_
         refine V.ret ?_
         refine V.blk_r ?_
         refine V.then_r ?_
         refine V.then_r ?_
         refine V.blk_r ?_
         refine V.then_r ?_
         refine V.r1 h781 (.bool false) ?_
         exfalso
         first | omega | exact hg774 (some_mem (by omega)) | exact (Decidable.of_not_not hg774) (some_mem (by omega)) | exact some_nd (setOf_inc _) (by omega) (by omega) hg774 | exact some_nd (setOf_inc _) (by omega) (by omega) (Decidable.of_not_not hg774)
        ·
         have h782 := h773.kf 72 hg774
         refine V.run h782 [] 3 74 74 [(73, .int .i64 n), (75, .bool (decide (n ≥ 0)))] fun a h783 => ?_
         by_cases hg784 : n ≥ 0
         ·
          have h785 := h783.kt 75 hg784
          have hS786 := hS754_771.tk (i := i) (by omega)
          refine V.se h785 [(2, .cut0 A286 ((someR (setOf (l.take 200)) n d).length) c287 (i : Int) i 1), (2, .ix g755 o756 ((someR (setOf (l.take 200)) n d).length) c287 .i64 (i : Int) 1 hA757), (0, .l ⟨g755, o756 + (i : Int).toNat * 1, none⟩ (.string (at_ Rp.str (someR (setOf (l.take 200)) n d) (i : Int))) (hE760_772.at 0 rfl))] 76 81 [(78, .slice A286 i c287), (82, .string (at_ Rp.str (someR (setOf (l.take 200)) n d) (i : Int)))] fun a h787 => ?_
          refine V.clg h787 (Go.Proofs.enters_of Try.func14 (by kernel_rfl) rfl) (in_at' w763 A286 c287 i ((someR (setOf (l.take 200)) n d).take i) (by rw [List.length_take]; omega) hS786.old (at_ Rp.str (someR (setOf (l.take 200)) n d) (i : Int))) ?_
          rintro _ w789 ⟨rfl, hF788⟩
          refine ⟨_, rfl, fun a h790 => ?_⟩
          have hsw789 := hF788.size
          have hF_791 := hF_765.new hF788
          have hSl_792 := hSl_766.fr0 hF788
          have hS19_793 := hS19_767.fr0 hF788
          have hO27q_794 := hO27q_768.fr0 hF788
          have hS285_795 := hS285_769.fr0 hF788
          have hO288q_796 := hO288q_770.fr0 hF788
          have hS754_797 := hS754_771.fr0 hF788
          have hE760_798 := hE760_772.fr0 hF788
          have hS786_799 := hS786.fr0 hF788
          refine V.eh trivial ?_
          refine V.pz h790 [] 84 84 [(85, .bool (decide ((at_ Rp.str (someR (setOf (l.take 200)) n d) (i : Int)) ∈ ((someR (setOf (l.take 200)) n d).take i))))] fun a h800 => k745 _ _ ?_
          refine V.cp h800 ((at_ Rp.str (someR (setOf (l.take 200)) n d) (i : Int)) ∈ ((someR (setOf (l.take 200)) n d).take i)) (fun ht801 => ?_) (fun ht801 => ?_)
          ·
           refine V.sr h800 [] 1 0 [(6, .bool false)] fun a h804 => ?_
           refine V.ret ?_
           refine V.blk_r ?_
           refine V.then_r ?_
           refine V.then_r ?_
           refine V.blk_r ?_
           refine V.then_r ?_
           refine V.r1 h804 (.bool false) ?_
           exfalso
           first | omega | exact hg774 (some_mem (by omega)) | exact (Decidable.of_not_not hg774) (some_mem (by omega)) | exact some_nd (setOf_inc _) (by omega) (by omega) hg774 | exact some_nd (setOf_inc _) (by omega) (by omega) (Decidable.of_not_not hg774) | exact ht801 (some_mem (by omega)) | exact (Decidable.of_not_not ht801) (some_mem (by omega)) | exact some_nd (setOf_inc _) (by omega) (by omega) ht801 | exact some_nd (setOf_inc _) (by omega) (by omega) (Decidable.of_not_not ht801)
          ·
           refine V.skip ?_
           refine V.blk_n ?_
           refine V.then_n (k743 _ _ ?_)
           refine V.rr h800 [(1, .i ((i : Int) + 1))] 63 64 [(9, .int .i64 ((i : Int) + 1))] fun a h805 => ?_
           refine V.then_n ?_
           refine ⟨i + 1, by omega, ?_⟩
           refine ⟨(h805.eq 9 (v := (.int .i64 ((i : Int) + 1))) (u := (.int .i64 ((i + 1) : Int))) (V.int_eq (by omega))).only _, hF_791, hSl_792, hS19_793, hO27q_794, hS285_795, hO288q_796, (by omega)⟩
         ·
          have h806 := h783.kf 75 hg784
          refine V.se h806 [] 76 81 [(78, undef), (82, undef)] fun a h807 => ?_
          refine V.run h807 [] 1 1 0 [(83, undef)] fun a h808 => ?_
          refine V.eh trivial ?_
          refine V.pz h808 [] 84 84 [(85, .bool false)] fun a h809 => k745 _ _ ?_
          refine V.cf h809 ?_
          refine V.skip ?_
          refine V.blk_n ?_
          refine V.then_n (k743 _ _ ?_)
          refine V.rr h809 [(1, .i ((i : Int) + 1))] 63 64 [(9, .int .i64 ((i : Int) + 1))] fun a h810 => ?_
          refine V.then_n ?_
          refine ⟨i + 1, by omega, ?_⟩
          refine ⟨(h810.eq 9 (v := (.int .i64 ((i : Int) + 1))) (u := (.int .i64 ((i + 1) : Int))) (V.int_eq (by omega))).only _, hF_765, hSl_766, hS19_767, hO27q_768, hS285_769, hO288q_770, (by omega)⟩
       ·
        refine V.exit ?_
        refine V.then_e ?_
        refine V.then_e ?_
        refine V.blk_hit ?_
        refine V.then_n (k722 _ _ ?_)
        refine V.sr h740 [] 1 0 [(6, .bool true)] fun a h813 => ?_
        refine V.ret ?_
        refine V.r1 h813 (.bool true) ?_
        exact ⟨rfl, hF_729⟩
    ·
     have h814 := h613.kf 46 hg614
     refine V.re h814 [] 47 57 [(58, .bool false)] fun a h815 => k301 _ _ ?_
     have h816 := h815.only [(0, .slice A25 ((setOf (l.take 200)).length) c26), (1, .int .i64 n), (7, .slice A286 ((someR (setOf (l.take 200)) n d).length) c287), (58, .bool false)]
     refine V.cf h816 ?_
     refine V.skip ?_
     refine V.then_n (k299 _ _ ?_)
     refine V.seq fun K817 k818 => ?_
     refine V.sr h816 [] 1 0 [(9, .int .i64 0)] fun a h821 => ?_
     refine V.block ?_
     refine V.loop1 (fun (i : Nat) a_ w_ => En 86 [] a_ [(0, .slice A25 ((setOf (l.take 200)).length) c26), (1, .int .i64 n), (7, .slice A286 ((someR (setOf (l.take 200)) n d).length) c287), (9, .int .i64 (i : Int))] ∧ Fr [] w w_ ∧ SlR Rp.str (fun k => k < w.heap.size) w_ (.slice Al l.length cl) l ∧ SlR Rp.str (fun k => k < w.heap.size) w_ (.slice Al ((l.take 200).length) cl) (l.take 200) ∧ OwR Rp.str NoZ w_ w.heap.size 9 (.slice A25 ((setOf (l.take 200)).length) c26) (setOf (l.take 200)) ∧ SlR Rp.str (fun _ => True) w_ (.slice A25 ((setOf (l.take 200)).length) c26) (setOf (l.take 200)) ∧ OwR Rp.str NoZ w_ w.heap.size 9 (.slice A286 ((someR (setOf (l.take 200)) n d).length) c287) (someR (setOf (l.take 200)) n d) ∧ (i ≤ (someR (setOf (l.take 200)) n d).length)) (fun (i : Nat) => ((someR (setOf (l.take 200)) n d).length) - i) 0 ?_ ?_
     ·
      refine ⟨(h821.eq 9 (v := (.int .i64 0)) (u := (.int .i64 (0 : Int))) (V.int_eq (by omega))).only _, hF_292, hSl_293, hS19_294, hO27q_295, hS285_296, hO288q, (by omega)⟩
     ·
      rintro i a822 w823 ⟨h824, hF_825, hSl_826, hS19_827, hO27q_828, hS285_829, hO288q_830, hi⟩
      have hfs831 := hF_825.size
      refine V.seq fun K832 k833 => ?_
      refine V.sr h824 [] 59 61 [(62, .bool (decide ((i : Int) < (((someR (setOf (l.take 200)) n d).length : Nat) : Int))))] fun a h836 => ?_
      refine V.cp h836 ((i : Int) < (((someR (setOf (l.take 200)) n d).length : Nat) : Int)) (fun ht837 => ?_) (fun ht837 => ?_)
      ·
       refine V.skip ?_
       refine V.then_n (k833 _ _ ?_)
       refine V.seq fun K838 k839 => ?_
       refine V.block ?_
       refine V.seq fun K840 k841 => ?_
       refine V.pl [([0,1,2,3,4],some (5,[])),([6,7,8,9,10,11,12,13,14,15,16,17],some (18,[])),([19,20],none)] fun w842 hF843 hsw842 => ?_
       have hF_844 := hF_825.new hF843
       have hSl_845 := hSl_826.fr0 hF843
       have hS19_846 := hS19_827.fr0 hF843
       have hO27q_847 := hO27q_828.fr0 hF843
       have hS285_848 := hS285_829.fr0 hF843
       have hO288q_849 := hO288q_830.fr0 hF843
       have hS850 := hO288q_849.is
       obtain ⟨g851, o852, hA853, hA853l, hA853z⟩ := hS850.addr (by omega)
       obtain ⟨cs854, hok855, hE856⟩ := hS850.els hA853 (i : Int) (by omega) (by omega)
       obtain rfl : cs854 = [.string (at_ Rp.str (someR (setOf (l.take 200)) n d) (i : Int))] := hok855
       refine V.pe h836 [(3, .ix g851 o852 ((someR (setOf (l.take 200)) n d).length) c287 .i64 (i : Int) 1 hA853), (0, .l ⟨g851, o852 + (i : Int).toNat * 1, none⟩ (.string (at_ Rp.str (someR (setOf (l.take 200)) n d) (i : Int))) (hE856.at 0 rfl))] 66 68 [(65, .slice A25 ((setOf (l.take 200)).length) c26), (69, .string (at_ Rp.str (someR (setOf (l.take 200)) n d) (i : Int)))] fun a h857 => ?_
       refine V.cl h857 (Go.Proofs.enters_of Try.func14 (by kernel_rfl) rfl) (in_any w842 A25 c26 (setOf (l.take 200)) hS285_848.old (at_ Rp.str (someR (setOf (l.take 200)) n d) (i : Int))) ?_
       rintro _ w859 ⟨rfl, hF858⟩
       refine ⟨_, rfl, fun a h860 => ?_⟩
       have hsw859 := hF858.size
       have hF_861 := hF_844.new hF858
       have hSl_862 := hSl_845.fr0 hF858
       have hS19_863 := hS19_846.fr0 hF858
       have hO27q_864 := hO27q_847.fr0 hF858
       have hS285_865 := hS285_848.fr0 hF858
       have hO288q_866 := hO288q_849.fr0 hF858
       have hS850_867 := hS850.fr0 hF858
       have hE856_868 := hE856.fr0 hF858
       refine V.eh trivial ?_
       refine V.pe0 ?_
       refine V.run h860 [(0, .q (.bool (decide (¬ ((at_ Rp.str (someR (setOf (l.take 200)) n d) (i : Int)) ∈ (setOf (l.take 200)))))) V.t_not)] 2 71 71 [(72, .bool (decide (¬ ((at_ Rp.str (someR (setOf (l.take 200)) n d) (i : Int)) ∈ (setOf (l.take 200))))))] fun a h869 => ?_
       by_cases hg870 : ¬ ((at_ Rp.str (someR (setOf (l.take 200)) n d) (i : Int)) ∈ (setOf (l.take 200)))
       ·
        have h871 := h869.kt 72 hg870
        refine V.se h871 [] 74 81 [(73, undef), (75, undef), (78, undef), (82, undef)] fun a h872 => ?_
        refine V.run h872 [] 1 1 0 [(83, undef)] fun a h873 => ?_
        refine V.eh trivial ?_
        refine V.pz h873 [] 84 84 [(85, .bool true)] fun a h874 => k841 _ _ ?_
        refine V.ct h874 ?_
        refine V.sr h874 [] 1 0 [(6, .bool false)] fun a h877 => ?_
        refine V.ret ?_
        refine V.blk_r ?_
        refine V.then_r ?_
        refine V.then_r ?_
        refine V.blk_r ?_
        refine V.then_r ?_
        refine V.r1 h877 (.bool false) ?_
        exfalso
        first | omega | exact hg870 (some_mem (by omega)) | exact (Decidable.of_not_not hg870) (some_mem (by omega)) | exact some_nd (setOf_inc _) (by omega) (by omega) hg870 | exact some_nd (setOf_inc _) (by omega) (by omega) (Decidable.of_not_not hg870)
       ·
        have h878 := h869.kf 72 hg870
        refine V.run h878 [] 3 74 74 [(73, .int .i64 n), (75, .bool (decide (n ≥ 0)))] fun a h879 => ?_
        by_cases hg880 : n ≥ 0
        ·
         have h881 := h879.kt 75 hg880
         have hS882 := hS850_867.tk (i := i) (by omega)
         refine V.se h881 [(2, .cut0 A286 ((someR (setOf (l.take 200)) n d).length) c287 (i : Int) i 1), (2, .ix g851 o852 ((someR (setOf (l.take 200)) n d).length) c287 .i64 (i : Int) 1 hA853), (0, .l ⟨g851, o852 + (i : Int).toNat * 1, none⟩ (.string (at_ Rp.str (someR (setOf (l.take 200)) n d) (i : Int))) (hE856_868.at 0 rfl))] 76 81 [(78, .slice A286 i c287), (82, .string (at_ Rp.str (someR (setOf (l.take 200)) n d) (i : Int)))] fun a h883 => ?_
         refine V.clg h883 (Go.Proofs.enters_of Try.func14 (by kernel_rfl) rfl) (in_at' w859 A286 c287 i ((someR (setOf (l.take 200)) n d).take i) (by rw [List.length_take]; omega) hS882.old (at_ Rp.str (someR (setOf (l.take 200)) n d) (i : Int))) ?_
         rintro _ w885 ⟨rfl, hF884⟩
         refine ⟨_, rfl, fun a h886 => ?_⟩
         have hsw885 := hF884.size
         have hF_887 := hF_861.new hF884
         have hSl_888 := hSl_862.fr0 hF884
         have hS19_889 := hS19_863.fr0 hF884
         have hO27q_890 := hO27q_864.fr0 hF884
         have hS285_891 := hS285_865.fr0 hF884
         have hO288q_892 := hO288q_866.fr0 hF884
         have hS850_893 := hS850_867.fr0 hF884
         have hE856_894 := hE856_868.fr0 hF884
         have hS882_895 := hS882.fr0 hF884
         refine V.eh trivial ?_
         refine V.pz h886 [] 84 84 [(85, .bool (decide ((at_ Rp.str (someR (setOf (l.take 200)) n d) (i : Int)) ∈ ((someR (setOf (l.take 200)) n d).take i))))] fun a h896 => k841 _ _ ?_
         refine V.cp h896 ((at_ Rp.str (someR (setOf (l.take 200)) n d) (i : Int)) ∈ ((someR (setOf (l.take 200)) n d).take i)) (fun ht897 => ?_) (fun ht897 => ?_)
         ·
          refine V.sr h896 [] 1 0 [(6, .bool false)] fun a h900 => ?_
          refine V.ret ?_
          refine V.blk_r ?_
          refine V.then_r ?_
          refine V.then_r ?_
          refine V.blk_r ?_
          refine V.then_r ?_
          refine V.r1 h900 (.bool false) ?_
          exfalso
          first | omega | exact hg870 (some_mem (by omega)) | exact (Decidable.of_not_not hg870) (some_mem (by omega)) | exact some_nd (setOf_inc _) (by omega) (by omega) hg870 | exact some_nd (setOf_inc _) (by omega) (by omega) (Decidable.of_not_not hg870) | exact ht897 (some_mem (by omega)) | exact (Decidable.of_not_not ht897) (some_mem (by omega)) | exact some_nd (setOf_inc _) (by omega) (by omega) ht897 | exact some_nd (setOf_inc _) (by omega) (by omega) (Decidable.of_not_not ht897)
         ·
          refine V.skip ?_
          refine V.blk_n ?_
          refine V.then_n (k839 _ _ ?_)
          refine V.rr h896 [(1, .i ((i : Int) + 1))] 63 64 [(9, .int .i64 ((i : Int) + 1))] fun a h901 => ?_
          refine V.then_n ?_
          refine ⟨i + 1, by omega, ?_⟩
          refine ⟨(h901.eq 9 (v := (.int .i64 ((i : Int) + 1))) (u := (.int .i64 ((i + 1) : Int))) (V.int_eq (by omega))).only _, hF_887, hSl_888, hS19_889, hO27q_890, hS285_891, hO288q_892, (by omega)⟩
        ·
         have h902 := h879.kf 75 hg880
         refine V.se h902 [] 76 81 [(78, undef), (82, undef)] fun a h903 => ?_
         refine V.run h903 [] 1 1 0 [(83, undef)] fun a h904 => ?_
         refine V.eh trivial ?_
         refine V.pz h904 [] 84 84 [(85, .bool false)] fun a h905 => k841 _ _ ?_
         refine V.cf h905 ?_
         refine V.skip ?_
         refine V.blk_n ?_
         refine V.then_n (k839 _ _ ?_)
         refine V.rr h905 [(1, .i ((i : Int) + 1))] 63 64 [(9, .int .i64 ((i : Int) + 1))] fun a h906 => ?_
         refine V.then_n ?_
         refine ⟨i + 1, by omega, ?_⟩
         refine ⟨(h906.eq 9 (v := (.int .i64 ((i : Int) + 1))) (u := (.int .i64 ((i + 1) : Int))) (V.int_eq (by omega))).only _, hF_861, hSl_862, hS19_863, hO27q_864, hS285_865, hO288q_866, (by omega)⟩
      ·
       refine V.exit ?_
       refine V.then_e ?_
       refine V.then_e ?_
       refine V.blk_hit ?_
       refine V.then_n (k818 _ _ ?_)
       refine V.sr h836 [] 1 0 [(6, .bool true)] fun a h909 => ?_
       refine V.ret ?_
       refine V.r1 h909 (.bool true) ?_
       exact ⟨rfl, hF_825⟩
end Go.Proofs.Ytkepojdmgdgaoaa
