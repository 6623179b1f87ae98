/- Walks: Some. -/
import Derived.Test.YtkepojdmgdgaoaaProg
import Derived.Test.YtkepojdmgdgaoaaMa
namespace Go.Proofs.Ytkepojdmgdgaoaa
open Go.V Go.Base
open Go.RowKit (Below)
attribute [local irreducible] Act.put Act.eval
set_option linter.unusedVariables false
set_option linter.unusedSimpArgs false
set_option maxHeartbeats 4000000 in
set_option maxRecDepth 20000 in
theorem some_any (w : World) (Al : Option Addr) (cl : Nat) (l : List ByteArray) (hSl : SlR Rp.str (fun k => k < w.heap.size) w (.slice Al l.length cl) l) (n : Int) (hn : -9223372036854775808 ≤ n ∧ n ≤ 9223372036854775807) (d : Nat) (hd : d < 18446744073709551616) (hl : l.length ≤ 1099511627776) : Calls Try.prog 13 #[.slice Al l.length cl, .int .i64 n, .int .u64 ((d : Nat) : Int)] w (fun e w' => ∃ A c, e = .returned (.tuple #[.slice A (someR l n d).length c, .int .i64 (someE l n)]) ∧ OwR Rp.str NoZ w' w.heap.size 9 (.slice A (someR l n d).length c) (someR l n d) ∧ Fr [] w w') := by
 have hF := Fr.refl [] w
 refine V.en 90 Try.func13 fun a h1 => ?_
 refine V.sr h1 [] 6 7 [] fun a h4 => ?_
 refine V.seq fun K5 k6 => ?_
 refine V.sg fun K7 k8 => ?_
 refine V.run h4 [] 1 1 0 [(13, .slice Al l.length cl)] fun a h9 => ?_
 refine V.go (V.mk [(13, .slice Al l.length cl)] ⟨h9.e, trivial⟩ (by kernel_rfl) [.slice Al l.length cl] 22 (fun b => .slice (some ⟨b, 0, none⟩) 1 1) (by kernel_rfl) ?_)
 intro w11 b10 heb10 hB12 hF13 hsb10
 have hF_14 := hF.new hF13
 have hSl_15 := hSl.fr0 hF13
 refine V.pt h9 fun a h16 => ?_
 refine V.cl h16 (Go.Proofs.enters_of Try.func38 (by kernel_rfl) rfl) (checks_any w11 _ _ [l] (sl_one hB12 hSl_15).old) ?_
 rintro _ w19 ⟨rfl, hF17⟩
 refine ⟨_, rfl, fun a h20 => ?_⟩
 have hsw19 := hF17.size
 have hF_21 := hF_14.new hF17
 have hSl_22 := hSl_15.fr0 hF17
 have hB12_23 := hB12.fr0 hF17
 have hq18 := chkL_one l
 refine V.re h20 [] 1 0 [(8, .int .i64 (chkL [l]))] fun a h24 => k8 _ _ ?_
 refine V.sr h24 [(1, .ne (chkL [l]) 0)] 16 16 [(17, .bool (decide (¬ (chkL [l]) = 0)))] fun a h27 => ?_
 refine V.cp h27 (¬ (chkL [l]) = 0) (fun ht28 => ?_) (fun ht28 => ?_)
 ·
  refine V.sr h27 [] 18 18 [(6, .slice none 0 0), (7, .int .i64 (chkL [l]))] fun a h31 => ?_
  refine V.ret ?_
  refine V.then_r ?_
  refine V.r2 h31 (.slice none 0 0) (.int .i64 (chkL [l])) ?_
  rcases chkN_cases l with ⟨hz0, hzi⟩ | ⟨hz0, hzi⟩
  ·
   first
    | omega
    | (have hE : someE l n = 80 := by (first | exact someE_80 hzi n | exact someE_1 hzi (by omega) | exact someE_0 hzi (by omega) (by omega))
       have hr : someR l n d = [] := some_err (by first | exact .inr (by omega) | exact .inl (by rw [hE]; decide)) d
       rw [hr, hE]; exact ⟨none, 0, congrArg (fun e => Ending.returned (.tuple #[.slice none 0 0, .int .i64 e])) (by omega), OwR.nil .., hF_21⟩)
  ·
   first
    | omega
    | (have hE : someE l n = 80 := by (first | exact someE_80 hzi n | exact someE_1 hzi (by omega) | exact someE_0 hzi (by omega) (by omega))
       have hr : someR l n d = [] := some_err (by first | exact .inr (by omega) | exact .inl (by rw [hE]; decide)) d
       rw [hr, hE]; exact ⟨none, 0, congrArg (fun e => Ending.returned (.tuple #[.slice none 0 0, .int .i64 e])) (by omega), OwR.nil .., hF_21⟩)
 ·
  refine V.skip ?_
  refine V.then_n (k6 _ _ ?_)
  refine V.seq fun K32 k33 => ?_
  refine V.sg fun K34 k35 => ?_
  refine V.run h27 [] 3 19 20 [(21, .bool (decide (n < (-1024))))] fun a h36 => ?_
  by_cases hg37 : n < (-1024)
  ·
   have h38 := h36.kt 21 hg37
   refine V.re h38 [] 22 23 [(24, .bool true)] fun a h39 => k35 _ _ ?_
   refine V.ct h39 ?_
   refine V.sr h39 [] 1 0 [(6, .slice none 0 0), (7, .int .i64 1)] fun a h42 => ?_
   refine V.ret ?_
   refine V.then_r ?_
   refine V.r2 h42 (.slice none 0 0) (.int .i64 1) ?_
   rcases chkN_cases l with ⟨hz0, hzi⟩ | ⟨hz0, hzi⟩
   ·
    first
     | omega
     | (have hE : someE l n = 1 := by (first | exact someE_80 hzi n | exact someE_1 hzi (by omega) | exact someE_0 hzi (by omega) (by omega))
        have hr : someR l n d = [] := some_err (by first | exact .inr (by omega) | exact .inl (by rw [hE]; decide)) d
        rw [hr, hE]; exact ⟨none, 0, rfl, OwR.nil .., hF_21⟩)
   ·
    first
     | omega
     | (have hE : someE l n = 1 := by (first | exact someE_80 hzi n | exact someE_1 hzi (by omega) | exact someE_0 hzi (by omega) (by omega))
        have hr : someR l n d = [] := some_err (by first | exact .inr (by omega) | exact .inl (by rw [hE]; decide)) d
        rw [hr, hE]; exact ⟨none, 0, rfl, OwR.nil .., hF_21⟩)
  ·
   have h43 := h36.kf 21 hg37
   refine V.re h43 [] 22 23 [(24, .bool (decide (n > 65536)))] fun a h44 => k35 _ _ ?_
   refine V.cp h44 (n > 65536) (fun ht45 => ?_) (fun ht45 => ?_)
   ·
    refine V.sr h44 [] 1 0 [(6, .slice none 0 0), (7, .int .i64 1)] fun a h48 => ?_
    refine V.ret ?_
    refine V.then_r ?_
    refine V.r2 h48 (.slice none 0 0) (.int .i64 1) ?_
    rcases chkN_cases l with ⟨hz0, hzi⟩ | ⟨hz0, hzi⟩
    ·
     first
      | omega
      | (have hE : someE l n = 1 := by (first | exact someE_80 hzi n | exact someE_1 hzi (by omega) | exact someE_0 hzi (by omega) (by omega))
         have hr : someR l n d = [] := some_err (by first | exact .inr (by omega) | exact .inl (by rw [hE]; decide)) d
         rw [hr, hE]; exact ⟨none, 0, rfl, OwR.nil .., hF_21⟩)
    ·
     first
      | omega
      | (have hE : someE l n = 1 := by (first | exact someE_80 hzi n | exact someE_1 hzi (by omega) | exact someE_0 hzi (by omega) (by omega))
         have hr : someR l n d = [] := some_err (by first | exact .inr (by omega) | exact .inl (by rw [hE]; decide)) d
         rw [hr, hE]; exact ⟨none, 0, rfl, OwR.nil .., hF_21⟩)
   ·
    refine V.skip ?_
    refine V.then_n (k33 _ _ ?_)
    refine V.seq fun K49 k50 => ?_
    refine V.sr h44 [(2, .eq ((l.length : Nat) : Int) 0)] 25 26 [(27, .bool (decide (((l.length : Nat) : Int) = 0)))] fun a h53 => ?_
    refine V.cp h53 (((l.length : Nat) : Int) = 0) (fun ht54 => ?_) (fun ht54 => ?_)
    ·
     refine V.sr h53 [] 1 0 [(6, .slice none 0 0), (7, .int .i64 0)] fun a h57 => ?_
     refine V.ret ?_
     refine V.then_r ?_
     refine V.r2 h57 (.slice none 0 0) (.int .i64 0) ?_
     rcases chkN_cases l with ⟨hz0, hzi⟩ | ⟨hz0, hzi⟩
     ·
      first
       | omega
       | (have hE : someE l n = 0 := by (first | exact someE_80 hzi n | exact someE_1 hzi (by omega) | exact someE_0 hzi (by omega) (by omega))
          have hr : someR l n d = [] := some_err (by first | exact .inr (by omega) | exact .inl (by rw [hE]; decide)) d
          rw [hr, hE]; exact ⟨none, 0, rfl, OwR.nil .., hF_21⟩)
     ·
      first
       | omega
       | (have hE : someE l n = 0 := by (first | exact someE_80 hzi n | exact someE_1 hzi (by omega) | exact someE_0 hzi (by omega) (by omega))
          have hr : someR l n d = [] := some_err (by first | exact .inr (by omega) | exact .inl (by rw [hE]; decide)) d
          rw [hr, hE]; exact ⟨none, 0, rfl, OwR.nil .., hF_21⟩)
    ·
     refine V.skip ?_
     refine V.then_n (k50 _ _ ?_)
     refine V.sr h53 [] 1 0 [(9, .slice none 0 0)] fun a h60 => ?_
     refine V.seq fun K61 k62 => ?_
     refine V.sr h60 [] 28 28 [(29, .bool (decide (n < 0)))] fun a h65 => ?_
     refine V.cp h65 (n < 0) (fun ht66 => ?_) (fun ht66 => ?_)
     ·
      refine V.seq fun K67 k68 => ?_
      refine V.sr h65 [(1, .q (.int .i64 (0 - n)) (V.w_i64 (by omega) (by omega)))] 30 30 [(31, .int .i64 (0 - n)), (32, .int .i64 0)] fun a h71 => ?_
      refine V.block ?_
      refine V.loop3 (fun (i : Nat) (A2 : Option Addr) (c2 : Nat) a_ w_ => En 90 [] a_ [(0, .slice Al l.length cl), (1, .int .i64 n), (2, .int .u64 ((nxtN i d : Nat) : Int)), (9, .slice A2 i c2), (31, .int .i64 (0 - n)), (32, .int .i64 (i : Int))] ∧ OwR Rp.str NoZ w_ w.heap.size 9 (.slice A2 i c2) (negL l d i) ∧ Fr [] w w_ ∧ SlR Rp.str (fun k => k < w.heap.size) w_ (.slice Al l.length cl) l ∧ ((i : Int) ≤ -n ∨ i = 0) ∧ (i = 0 → A2 = none ∧ c2 = 0)) (fun (i : Nat) (A2 : Option Addr) (c2 : Nat) => (-n).toNat - i) 0 none 0 ?_ ?_
      ·
       refine ⟨((h71.eq 2 (v := (.int .u64 ((d : Nat) : Int))) (u := (.int .u64 ((nxtN 0 d : Nat) : Int))) (rfl)).eq 32 (v := (.int .i64 0)) (u := (.int .i64 (0 : Int))) (V.int_eq (by omega))).only _, (OwR.nil ..), hF_21, hSl_22, (by omega), (fun _ => ⟨rfl, rfl⟩)⟩
      ·
       rintro i A2 c2 a72 w73 ⟨h74, hO_75, hF_76, hSl_77, hi, hnil⟩
       have hfs78 := hF_76.size
       have hnl := negL_len l d i
       refine V.sr h74 [] 1 0 [(33, .bool (decide ((i : Int) < (0 - n))))] fun a h81 => ?_
       refine V.seq fun K82 k83 => ?_
       refine V.cp h81 ((i : Int) < (0 - n)) (fun ht84 => ?_) (fun ht84 => ?_)
       ·
        refine V.skip ?_
        refine V.then_n (k83 _ _ ?_)
        refine V.seq fun K85 k86 => ?_
        refine V.block ?_
        refine V.seq fun K87 k88 => ?_
        have hmm := Nat.mod_lt (nxtN i d) (show 0 < l.length by omega)
        obtain ⟨g89, o90, hA91, hA91l, hA91z⟩ := hSl_77.addr (by omega)
        obtain ⟨cs92, hok93, hE94⟩ := hSl_77.els hA91 ((nxtN i d % l.length : Nat) : Int) (by omega) (by omega)
        obtain rfl : cs92 = [.string (at_ Rp.str l ((nxtN i d % l.length : Nat) : Int))] := hok93
        refine V.rg ?_
        refine V.run h81 [(5, .q (.int .u64 ((l.length : Nat) : Int)) (V.w_u64 (by omega) (by omega))), (0, .remN .u64 (nxtN i d) l.length), (0, .ix g89 o90 l.length cl .u64 ((nxtN i d % l.length : Nat) : Int) 1 hA91), (0, .l ⟨g89, o90 + ((nxtN i d % l.length : Nat) : Int).toNat * 1, none⟩ (.string (at_ Rp.str l ((nxtN i d % l.length : Nat) : Int))) (hE94.at 0 rfl))] 9 35 41 [(34, .slice A2 i c2), (42, .string (at_ Rp.str l ((nxtN i d % l.length : Nat) : Int)))] fun a h95 => ?_
        refine V.go (V.mk [(42, .string (at_ Rp.str l ((nxtN i d % l.length : Nat) : Int)))] ⟨h95.e, trivial⟩ (by kernel_rfl) [.string (at_ Rp.str l ((nxtN i d % l.length : Nat) : Int))] 9 (fun b => .slice (some ⟨b, 0, none⟩) 1 1) (by kernel_rfl) ?_)
        intro w97 b96 heb96 hB98 hF99 hsb96
        have hO_100 := hO_75.fr0 hF99
        have hF_101 := hF_76.new hF99
        have hSl_102 := hSl_77.fr0 hF99
        have hE94_103 := hE94.fr0 hF99
        refine V.pt h95 fun a h104 => ?_
        refine V.go (V.app (R := Rp.str) (ys := ([(at_ Rp.str l ((nxtN i d % l.length : Nat) : Int))])) (news := [.string (at_ Rp.str l ((nxtN i d % l.length : Nat) : Int))]) (h104.e (v := (.slice A2 i c2))) ⟨b96, 0, none⟩ 1 1 (h104.e (v := (.slice (some ⟨b96, 0, none⟩) 1 1))) (by kernel_rfl) (info9) (by kernel_rfl) (by decide) hO_100 rfl ⟨_, [], rfl, rfl, rfl⟩ (blk_cells hB98 0 _ rfl) (by first | omega | (simp; omega)) (by decide) (by omega) ?_)
        intro A105 c106 w107 hO108z hF109 hatw107
        have hsw107 := hF109.size
        have hF_110 := hF_101.own hF109 (own_ge hO_100 (by omega))
        have hSl_111 := hSl_102.fr hF109 (by intro b hb hz; have := own_ge hO_100 (Nat.le_refl _) b hb; (try dsimp only at hz); omega)
        have hE94_112 := hE94_103.fr hF109 (by first | exact own_notin hO_100 (by omega) | exact own_notin2 hO_75 (by omega))
        have hO108 := hO108z.zone (Z' := NoZ) (fun _ _ q => q.1) (fun _ _ q => q)
        refine V.pt h104 fun a h113 => ?_
        refine V.re h113 [] 1 0 [(9, .slice A105 (((negL l d i).length) + 1) c106)] fun a h114 => k88 _ _ ?_
        refine V.rg ?_
        refine V.run h114 [] 1 1 0 [(45, .int .u64 ((nxtN i d : Nat) : Int))] fun a h115 => ?_
        refine V.cl h115 (Go.Proofs.enters_of Try.func39 (by kernel_rfl) rfl) (next_any w107 (nxtN i d)) ?_
        rintro _ w117 ⟨rfl, hF116⟩
        refine ⟨_, rfl, fun a h118 => ?_⟩
        have hsw117 := hF116.size
        have hF_119 := hF_110.new hF116
        have hSl_120 := hSl_111.fr0 hF116
        have hE94_121 := hE94_112.fr0 hF116
        have hO108_122 := hO108.fr0 hF116
        have hnx116 := nxt_lt (nxtN i d)
        refine V.re h118 [] 1 0 [(2, .int .u64 ((nxt (nxtN i d) : Nat) : Int))] fun a h123 => ?_
        refine V.blk_n ?_
        refine V.then_n (k86 _ _ ?_)
        refine V.rr h123 [(0, .i ((i : Int) + 1))] 47 47 [(32, .int .i64 ((i : Int) + 1))] fun a h124 => ?_
        refine V.then_n ?_
        refine ⟨i + 1, A105, c106, by omega, ?_⟩
        refine ⟨(((h124.eq 2 (v := (.int .u64 ((nxt (nxtN i d) : Nat) : Int))) (u := (.int .u64 ((nxtN (i + 1) d : Nat) : Int))) (rfl)).eq 9 (v := (.slice A105 (((negL l d i).length) + 1) c106)) (u := (.slice A105 (i + 1) c106)) (V.sl_eq (by rw [negL_len]))).eq 32 (v := (.int .i64 ((i : Int) + 1))) (u := (.int .i64 ((i + 1) : Int))) (V.int_eq (by omega))).only _, (by rw [negL_succ]; have h := hO108_122; rw [negL_len] at h; exact h), hF_119, hSl_120, (by omega), (fun h => by omega)⟩
       ·
        refine V.exit ?_
        refine V.then_e ?_
        refine V.then_e ?_
        refine V.blk_hit ?_
        refine V.then_n (k68 _ _ ?_)
        refine V.sr h81 [] 48 48 [(6, .slice A2 i c2), (7, .int .i64 0)] fun a h127 => ?_
        refine V.ret ?_
        refine V.then_r ?_
        refine V.r2 h127 (.slice A2 i c2) (.int .i64 0) ?_
        have hzi : Inc l := by (rcases chkN_cases l with h | h; exact h.2; omega)
        have hE : someE l n = 0 := someE_0 hzi (by omega) (by omega)
        have hr : someR l n d = negL l d i := some_neg hE (by omega) (by omega) (by omega)
        have hq := hO_75
        rw [← negL_len l d i] at hq
        rw [hr, hE]
        exact ⟨_, _, congrArg (fun k => Ending.returned (.tuple #[.slice A2 k c2, .int .i64 0])) (negL_len l d i).symm, by rw [negL_len] at hq ⊢; exact hO_75, hF_76⟩
     ·
      refine V.skip ?_
      refine V.then_n (k62 _ _ ?_)
      refine V.sg fun K128 k129 => ?_
      refine V.run h65 [] 1 1 0 [(49, .slice Al l.length cl)] fun a h130 => ?_
      refine V.cl h130 (Go.Proofs.enters_of Try.func35 (by kernel_rfl) rfl) (clone_any w19 (fun k => k < w.heap.size) Al cl l hSl_22 (by omega)) ?_
      rintro _ w135 ⟨A131, c132, rfl, hO133, hF134⟩
      refine ⟨_, rfl, fun a h136 => ?_⟩
      have hsw135 := hF134.size
      have hF_137 := hF_21.new hF134
      have hSl_138 := hSl_22.fr0 hF134
      have hB12_139 := hB12_23.fr0 hF134
      have hO133q := hO133.rebase (base' := w.heap.size) (by omega)
      refine V.re h136 [] 1 0 [(10, .slice A131 l.length c132)] fun a h140 => k129 _ _ ?_
      refine V.seq fun K141 k142 => ?_
      obtain ⟨g143, rfl⟩ : ∃ g, A131 = some ⟨g, 0, none⟩ := by (rcases own_cases hO133q with ⟨_, _, hz⟩ | h <;> first | exact h | (exfalso; (try simp only [List.length_append, List.length_nil] at hz); omega))
      have hltg143 := (hO133q.lt g143 rfl)
      refine V.rr h140 [(3, .q (.int .i64 (min n ((l.length : Nat) : Int))) V.min_int)] 51 54 [(1, .int .i64 (min n ((l.length : Nat) : Int)))] fun a h144 => ?_
      refine V.then_n (k142 _ _ ?_)
      refine V.seq fun K145 k146 => ?_
      refine V.seq fun K147 k148 => ?_
      obtain ⟨m, hm⟩ : ∃ m : Nat, (m : Int) = min n ((l.length : Nat) : Int) := ⟨(min n ((l.length : Nat) : Int)).toNat, by omega⟩
      have h149 := h144.eq 1 (v := (.int .i64 (min n ((l.length : Nat) : Int)))) (u := .int .i64 (m : Int)) (V.int_eq (by omega))
      refine V.rr h149 [] 1 0 [(55, .int .i64 (m : Int)), (56, .int .i64 0)] fun a h150 => ?_
      refine V.then_n (k148 _ _ ?_)
      refine V.block ?_
      refine V.loop1 (fun (k : Nat) a_ w_ => En 90 [] a_ [(1, .int .i64 (m : Int)), (2, .int .u64 ((nxtN k d : Nat) : Int)), (10, .slice (some ⟨g143, 0, none⟩) l.length c132), (55, .int .i64 (m : Int)), (56, .int .i64 (k : Int))] ∧ OwR Rp.str NoZ w_ w.heap.size 9 (.slice (some ⟨g143, 0, none⟩) l.length c132) (rowT l d k) ∧ Fr [] w w_ ∧ SlR Rp.str (fun k => k < w.heap.size) w_ (.slice Al l.length cl) l ∧ (k ≤ m ∧ m ≤ l.length)) (fun (k : Nat) => m - k) 0 ?_ ?_
      ·
       refine ⟨((h150.eq 2 (v := (.int .u64 ((d : Nat) : Int))) (u := (.int .u64 ((nxtN 0 d : Nat) : Int))) (rfl)).eq 56 (v := (.int .i64 0)) (u := (.int .i64 (0 : Int))) (V.int_eq (by omega))).only _, hO133q, hF_137, hSl_138, (by omega)⟩
      ·
       rintro k a151 w152 ⟨h153, hO_154, hF_155, hSl_156, hk⟩
       have hfs157 := hF_155.size
       have hrl := rowT_len l d k
       refine V.sr h153 [] 1 0 [(57, .bool (decide ((k : Int) < (m : Int))))] fun a h160 => ?_
       refine V.seq fun K161 k162 => ?_
       refine V.cp h160 ((k : Int) < (m : Int)) (fun ht163 => ?_) (fun ht163 => ?_)
       ·
        refine V.skip ?_
        refine V.then_n (k162 _ _ ?_)
        refine V.seq fun K164 k165 => ?_
        refine V.block ?_
        refine V.sr h160 [] 58 58 [(11, .int .i64 (k : Int))] fun a h168 => ?_
        refine V.seq fun K169 k170 => ?_
        have hmm := Nat.mod_lt (nxtN k d) (show 0 < l.length - k by omega)
        have hdr := drw_lt (n := l.length) (d := d) (k := k) (by omega)
        refine V.rr h168 [(5, .i (((l.length : Nat) : Int) - (k : Int))), (0, .q (.int .u64 ((l.length - k : Nat) : Int)) (w_subN (by omega) (by omega))), (0, .remN .u64 (nxtN k d) (l.length - k)), (0, .q (.int .i64 ((nxtN k d % (l.length - k) : Nat) : Int)) (w_remI (by omega) (by omega))), (0, .q (.int .i64 ((drw l.length k d : Nat) : Int)) (w_drw0 (by omega) (by omega)))] 59 68 [(12, .int .i64 ((drw l.length k d : Nat) : Int))] fun a h171 => ?_
        refine V.then_n (k170 _ _ ?_)
        refine V.seq fun K172 k173 => ?_
        refine V.pl [([0,1,2,3,4,5,6,7,8,9,10,11,12],some (13,[])),([14],some (15,[])),([],none)] fun w174 hF175 hsw174 => ?_
        have hO_176 := hO_154.fr0 hF175
        have hF_177 := hF_155.new hF175
        have hSl_178 := hSl_156.fr0 hF175
        have hS182 := hO_176.is
        obtain ⟨cs179, hok180, hE181⟩ := hS182.els rfl ((drw l.length k d : Nat) : Int) (by omega) (by omega)
        obtain rfl : cs179 = [.string (at_ Rp.str (rowT l d k) ((drw l.length k d : Nat) : Int))] := hok180
        obtain ⟨cs183, hok184, hE185⟩ := hS182.els rfl (k : Int) (by omega) (by omega)
        obtain rfl : cs183 = [.string (at_ Rp.str (rowT l d k) (k : Int))] := hok184
        refine V.pe h171 [(6, .ix g143 0 l.length c132 .i64 ((drw l.length k d : Nat) : Int) 1 rfl), (0, .l ⟨g143, 0 + ((drw l.length k d : Nat) : Int).toNat * 1, none⟩ (.string (at_ Rp.str (rowT l d k) ((drw l.length k d : Nat) : Int))) (hE181.at 0 rfl)), (2, .ix g143 0 l.length c132 .i64 (k : Int) 1 rfl), (0, .l ⟨g143, 0 + (k : Int).toNat * 1, none⟩ (.string (at_ Rp.str (rowT l d k) (k : Int))) (hE185.at 0 rfl)), (0, .ix g143 0 l.length c132 .i64 (k : Int) 1 rfl)] 69 79 [(71, .slice (some ⟨g143, 0, none⟩) l.length c132), (72, .int .i64 ((drw l.length k d : Nat) : Int)), (76, .string (at_ Rp.str (rowT l d k) ((drw l.length k d : Nat) : Int))), (80, .string (at_ Rp.str (rowT l d k) (k : Int))), (81, .pointer (some ⟨g143, 0 + (k : Int).toNat * 1, none⟩))] fun a h186 => ?_
        refine V.go (V.sto ((k : Int).toNat) (at_ Rp.str (rowT l d k) ((drw l.length k d : Nat) : Int)) hO_176 (h186.e (v := (.pointer (some ⟨g143, 0 + (k : Int).toNat * 1, none⟩)))) (h186.e (v := (.string (at_ Rp.str (rowT l d k) ((drw l.length k d : Nat) : Int))))) (by kernel_rfl) (by (try simp only [List.length_set]); omega) ?_)
        intro w187 hO188 hF189 hsw187
        have hF_190 := hF_177.own hF189 (by simp <;> omega)
        have hSl_191 := hSl_178.fr hF189 (by simp <;> omega)
        refine V.eh trivial ?_
        refine V.pe h186 [(0, .ix g143 0 l.length c132 .i64 ((drw l.length k d : Nat) : Int) 1 rfl)] 1 0 [(82, .pointer (some ⟨g143, 0 + ((drw l.length k d : Nat) : Int).toNat * 1, none⟩))] fun a h192 => ?_
        refine V.go (V.sto (((drw l.length k d : Nat) : Int).toNat) (at_ Rp.str (rowT l d k) (k : Int)) hO188 (h192.e (v := (.pointer (some ⟨g143, 0 + ((drw l.length k d : Nat) : Int).toNat * 1, none⟩)))) (h192.e (v := (.string (at_ Rp.str (rowT l d k) (k : Int))))) (by kernel_rfl) (by (try simp only [List.length_set]); omega) ?_)
        intro w193 hO194 hF195 hsw193
        have hF_196 := hF_190.own hF195 (by simp <;> omega)
        have hSl_197 := hSl_191.fr hF195 (by simp <;> omega)
        refine V.eh trivial ?_
        refine V.pz h192 [] 1 0 [] fun a h198 => k173 _ _ ?_
        refine V.rg ?_
        refine V.run h198 [] 1 1 0 [(83, .int .u64 ((nxtN k d : Nat) : Int))] fun a h199 => ?_
        refine V.cl h199 (Go.Proofs.enters_of Try.func39 (by kernel_rfl) rfl) (next_any w193 (nxtN k d)) ?_
        rintro _ w201 ⟨rfl, hF200⟩
        refine ⟨_, rfl, fun a h202 => ?_⟩
        have hsw201 := hF200.size
        have hF_203 := hF_196.new hF200
        have hSl_204 := hSl_197.fr0 hF200
        have hO194_205 := hO194.fr0 hF200
        have hnx200 := nxt_lt (nxtN k d)
        refine V.re h202 [] 1 0 [(2, .int .u64 ((nxt (nxtN k d) : Nat) : Int))] fun a h206 => ?_
        refine V.blk_n ?_
        refine V.then_n (k165 _ _ ?_)
        refine V.rr h206 [(0, .i ((k : Int) + 1))] 85 85 [(56, .int .i64 ((k : Int) + 1))] fun a h207 => ?_
        refine V.then_n ?_
        refine ⟨k + 1, by omega, ?_⟩
        refine ⟨((h207.eq 2 (v := (.int .u64 ((nxt (nxtN k d) : Nat) : Int))) (u := (.int .u64 ((nxtN (k + 1) d : Nat) : Int))) (rfl)).eq 56 (v := (.int .i64 ((k : Int) + 1))) (u := (.int .i64 ((k + 1) : Int))) (V.int_eq (by omega))).only _, hO194_205, hF_203, hSl_204, (by omega)⟩
       ·
        refine V.exit ?_
        refine V.then_e ?_
        refine V.then_e ?_
        refine V.blk_hit ?_
        refine V.then_n (k146 _ _ ?_)
        refine V.seq fun K208 k209 => ?_
        have hcp := hO_154.is.cp
        have hS210 := hO_154.is
        have hS211 := hS210.tk (i := m) (by omega)
        refine V.rg ?_
        refine V.run h160 [(2, .cut0 (some ⟨g143, 0, none⟩) l.length c132 (m : Int) m 1)] 3 86 87 [(88, .slice (some ⟨g143, 0, none⟩) m c132)] fun a h212 => ?_
        refine V.cl (av := #[.slice (some ⟨g143, 0, none⟩) m c132]) h212 (Go.Proofs.enters_of Try.func35 (by kernel_rfl) rfl) (by (have hcz := clone_any w152 (fun _ => True) (some ⟨g143, 0, none⟩) c132 ((rowT l d k).take m) (by rw [← (hS211.cp).1]; exact hS211) (by rw [← (hS211.cp).1]; omega); rw [← (hS211.cp).1] at hcz; exact hcz)) ?_
        rintro _ w217 ⟨A213, c214, rfl, hO215, hF216⟩
        refine ⟨_, rfl, fun a h218 => ?_⟩
        have hsw217 := hF216.size
        have hO_219 := hO_154.fr0 hF216
        have hF_220 := hF_155.new hF216
        have hSl_221 := hSl_156.fr0 hF216
        have hS210_222 := hS210.fr0 hF216
        have hS211_223 := hS211.fr0 hF216
        have hO215q := hO215.rebase (base' := w.heap.size) (by omega)
        refine V.re h218 [] 1 0 [(6, .slice A213 m c214), (7, .int .i64 0)] fun a h224 => k209 _ _ ?_
        refine V.ret ?_
        refine V.r2 h224 (.slice A213 m c214) (.int .i64 0) ?_
        have hzi : Inc l := by (rcases chkN_cases l with h | h; exact h.2; omega)
        have hE : someE l n = 0 := someE_0 hzi (by omega) (by omega)
        have hkm : k = m := by omega
        have hr : someR l n d = (rowT l d k).take m := by (rw [hkm]; exact some_pos hE (by omega) (by omega) hm)
        have hll : m = ((rowT l d k).take m).length := by (rw [List.length_take, rowT_len]; omega)
        rw [hr, hE, ← hll]
        exact ⟨_, _, rfl, hO215q, hF_220⟩
end Go.Proofs.Ytkepojdmgdgaoaa
