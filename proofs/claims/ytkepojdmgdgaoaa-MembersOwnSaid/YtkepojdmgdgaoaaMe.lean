/- Walks: the reference: Some. -/
import Derived.Test.YtkepojdmgdgaoaaProg
import Derived.Test.YtkepojdmgdgaoaaMa
import Derived.Test.YtkepojdmgdgaoaaUnr
namespace Go.Proofs.Ytkepojdmgdgaoaa
open Go.V Go.Base
open Go.RowKit (Below)
attribute [local irreducible] Act.put Act.eval
set_option linter.unusedVariables false
set_option linter.unusedSimpArgs false
set_option maxHeartbeats 4000000 in
set_option maxRecDepth 20000 in
theorem rsome_any (w : World) (Al : Option Addr) (cl : Nat) (l : List ByteArray) (hSl : SlR Rp.str (fun k => k < w.heap.size) w (.slice Al l.length cl) l) (n : Int) (hn : -9223372036854775808 ≤ n ∧ n ≤ 9223372036854775807) (d : Nat) (hd : d < 18446744073709551616) (hl : l.length ≤ 1099511627776) : Calls Try.prog 17 #[.slice Al l.length cl, .int .i64 n, .int .u64 ((d : Nat) : Int)] w (fun e w' => ∃ A c, e = .returned (.tuple #[.slice A (someR l n d).length c, .int .i64 (someE l n)]) ∧ OwR Rp.str NoZ w' w.heap.size 9 (.slice A (someR l n d).length c) (someR l n d) ∧ Fr [] w w') := by
 have hF := Fr.refl [] w
 refine V.en 90 Try.func17 fun a h1 => ?_
 refine V.sr h1 [] 6 7 [] fun a h4 => ?_
 refine V.seq fun K5 k6 => ?_
 refine V.sg fun K7 k8 => ?_
 refine V.run h4 [] 1 1 0 [(12, .slice Al l.length cl)] fun a h9 => ?_
 refine V.cl h9 (Go.Proofs.enters_of Try.func23 (by kernel_rfl) rfl) (rcheck_any w Al cl l hSl.old ) ?_
 rintro _ w11 ⟨rfl, hF10⟩
 refine ⟨_, rfl, fun a h12 => ?_⟩
 have hsw11 := hF10.size
 have hF_13 := hF.new hF10
 have hSl_14 := hSl.fr0 hF10
 have hq10 := chkN_cases l
 refine V.re h12 [(0, .ne (chkN l) 0)] 1 0 [(14, .bool (decide (¬ (chkN l) = 0)))] fun a h15 => k8 _ _ ?_
 refine V.cp h15 (¬ (chkN l) = 0) (fun ht16 => ?_) (fun ht16 => ?_)
 ·
  refine V.sr h15 [] 1 0 [(6, .slice none 0 0), (7, .int .i64 80)] fun a h19 => ?_
  refine V.ret ?_
  refine V.then_r ?_
  refine V.r2 h19 (.slice none 0 0) (.int .i64 80) ?_
  rcases chkN_cases l with ⟨hz0, hzi⟩ | ⟨hz0, hzi⟩
  ·
   first
    | omega
    | (have hE : someE l n = 80 := by (first | exact someE_80 hzi n | exact someE_1 hzi (by omega) | exact someE_0 hzi (by omega) (by omega))
       have hr : someR l n d = [] := some_err (by first | exact .inr (by omega) | exact .inl (by rw [hE]; decide)) d
       rw [hr, hE]; exact ⟨none, 0, congrArg (fun e => Ending.returned (.tuple #[.slice none 0 0, .int .i64 e])) (by omega), OwR.nil .., hF_13⟩)
  ·
   first
    | omega
    | (have hE : someE l n = 80 := by (first | exact someE_80 hzi n | exact someE_1 hzi (by omega) | exact someE_0 hzi (by omega) (by omega))
       have hr : someR l n d = [] := some_err (by first | exact .inr (by omega) | exact .inl (by rw [hE]; decide)) d
       rw [hr, hE]; exact ⟨none, 0, congrArg (fun e => Ending.returned (.tuple #[.slice none 0 0, .int .i64 e])) (by omega), OwR.nil .., hF_13⟩)
 ·
  refine V.skip ?_
  refine V.then_n (k6 _ _ ?_)
  refine V.seq fun K20 k21 => ?_
  refine V.sg fun K22 k23 => ?_
  refine V.run h15 [] 3 15 16 [(17, .bool (decide (n < (-1024))))] fun a h24 => ?_
  by_cases hg25 : n < (-1024)
  ·
   have h26 := h24.kt 17 hg25
   refine V.re h26 [] 18 19 [(20, .bool true)] fun a h27 => k23 _ _ ?_
   refine V.ct h27 ?_
   refine V.sr h27 [] 1 0 [(6, .slice none 0 0), (7, .int .i64 1)] fun a h30 => ?_
   refine V.ret ?_
   refine V.then_r ?_
   refine V.r2 h30 (.slice none 0 0) (.int .i64 1) ?_
   rcases chkN_cases l with ⟨hz0, hzi⟩ | ⟨hz0, hzi⟩
   ·
    first
     | omega
     | (have hE : someE l n = 1 := by (first | exact someE_80 hzi n | exact someE_1 hzi (by omega) | exact someE_0 hzi (by omega) (by omega))
        have hr : someR l n d = [] := some_err (by first | exact .inr (by omega) | exact .inl (by rw [hE]; decide)) d
        rw [hr, hE]; exact ⟨none, 0, rfl, OwR.nil .., hF_13⟩)
   ·
    first
     | omega
     | (have hE : someE l n = 1 := by (first | exact someE_80 hzi n | exact someE_1 hzi (by omega) | exact someE_0 hzi (by omega) (by omega))
        have hr : someR l n d = [] := some_err (by first | exact .inr (by omega) | exact .inl (by rw [hE]; decide)) d
        rw [hr, hE]; exact ⟨none, 0, rfl, OwR.nil .., hF_13⟩)
  ·
   have h31 := h24.kf 17 hg25
   refine V.re h31 [] 18 19 [(20, .bool (decide (n > 65536)))] fun a h32 => k23 _ _ ?_
   refine V.cp h32 (n > 65536) (fun ht33 => ?_) (fun ht33 => ?_)
   ·
    refine V.sr h32 [] 1 0 [(6, .slice none 0 0), (7, .int .i64 1)] fun a h36 => ?_
    refine V.ret ?_
    refine V.then_r ?_
    refine V.r2 h36 (.slice none 0 0) (.int .i64 1) ?_
    rcases chkN_cases l with ⟨hz0, hzi⟩ | ⟨hz0, hzi⟩
    ·
     first
      | omega
      | (have hE : someE l n = 1 := by (first | exact someE_80 hzi n | exact someE_1 hzi (by omega) | exact someE_0 hzi (by omega) (by omega))
         have hr : someR l n d = [] := some_err (by first | exact .inr (by omega) | exact .inl (by rw [hE]; decide)) d
         rw [hr, hE]; exact ⟨none, 0, rfl, OwR.nil .., hF_13⟩)
    ·
     first
      | omega
      | (have hE : someE l n = 1 := by (first | exact someE_80 hzi n | exact someE_1 hzi (by omega) | exact someE_0 hzi (by omega) (by omega))
         have hr : someR l n d = [] := some_err (by first | exact .inr (by omega) | exact .inl (by rw [hE]; decide)) d
         rw [hr, hE]; exact ⟨none, 0, rfl, OwR.nil .., hF_13⟩)
   ·
    refine V.skip ?_
    refine V.then_n (k21 _ _ ?_)
    refine V.seq fun K37 k38 => ?_
    refine V.sr h32 [(2, .eq ((l.length : Nat) : Int) 0)] 21 22 [(23, .bool (decide (((l.length : Nat) : Int) = 0)))] fun a h41 => ?_
    refine V.cp h41 (((l.length : Nat) : Int) = 0) (fun ht42 => ?_) (fun ht42 => ?_)
    ·
     refine V.sr h41 [] 1 0 [(6, .slice none 0 0), (7, .int .i64 0)] fun a h45 => ?_
     refine V.ret ?_
     refine V.then_r ?_
     refine V.r2 h45 (.slice none 0 0) (.int .i64 0) ?_
     rcases chkN_cases l with ⟨hz0, hzi⟩ | ⟨hz0, hzi⟩
     ·
      first
       | omega
       | (have hE : someE l n = 0 := by (first | exact someE_80 hzi n | exact someE_1 hzi (by omega) | exact someE_0 hzi (by omega) (by omega))
          have hr : someR l n d = [] := some_err (by first | exact .inr (by omega) | exact .inl (by rw [hE]; decide)) d
          rw [hr, hE]; exact ⟨none, 0, rfl, OwR.nil .., hF_13⟩)
     ·
      first
       | omega
       | (have hE : someE l n = 0 := by (first | exact someE_80 hzi n | exact someE_1 hzi (by omega) | exact someE_0 hzi (by omega) (by omega))
          have hr : someR l n d = [] := some_err (by first | exact .inr (by omega) | exact .inl (by rw [hE]; decide)) d
          rw [hr, hE]; exact ⟨none, 0, rfl, OwR.nil .., hF_13⟩)
    ·
     refine V.skip ?_
     refine V.then_n (k38 _ _ ?_)
     refine V.sr h41 [] 1 0 [(8, .slice none 0 0)] fun a h48 => ?_
     refine V.seq fun K49 k50 => ?_
     refine V.block ?_
     refine V.loop3 (fun (i : Nat) (A2 : Option Addr) (c2 : Nat) a_ w_ => En 90 [] a_ [(0, .slice Al l.length cl), (1, .int .i64 (n + (i : Int))), (2, .int .u64 ((nxtN i d : Nat) : Int)), (8, .slice A2 i c2)] ∧ OwR Rp.str NoZ w_ w.heap.size 9 (.slice A2 i c2) (negL l d i) ∧ Fr [] w w_ ∧ SlR Rp.str (fun k => k < w.heap.size) w_ (.slice Al l.length cl) l ∧ ((i : Int) ≤ -n ∨ i = 0) ∧ (i = 0 → A2 = none ∧ c2 = 0)) (fun (i : Nat) (A2 : Option Addr) (c2 : Nat) => (-n).toNat - i) 0 none 0 ?_ ?_
     ·
      refine ⟨((h48.eq 1 (v := (.int .i64 n)) (u := (.int .i64 (n + (0 : Int)))) (V.int_eq (by omega))).eq 2 (v := (.int .u64 ((d : Nat) : Int))) (u := (.int .u64 ((nxtN 0 d : Nat) : Int))) (rfl)).only _, (OwR.nil ..), hF_13, hSl_14, (by omega), (fun _ => ⟨rfl, rfl⟩)⟩
     ·
      rintro i A2 c2 a51 w52 ⟨h53, hO_54, hF_55, hSl_56, hi, hnil⟩
      have hfs57 := hF_55.size
      have hnl := negL_len l d i
      refine V.seq fun K58 k59 => ?_
      refine V.sr h53 [] 24 24 [(25, .bool (decide ((n + (i : Int)) < 0)))] fun a h62 => ?_
      refine V.cp h62 ((n + (i : Int)) < 0) (fun ht63 => ?_) (fun ht63 => ?_)
      ·
       refine V.skip ?_
       refine V.then_n (k59 _ _ ?_)
       refine V.seq fun K64 k65 => ?_
       refine V.block ?_
       refine V.seq fun K66 k67 => ?_
       have hmm := Nat.mod_lt (nxtN i d) (show 0 < l.length by omega)
       obtain ⟨g68, o69, hA70, hA70l, hA70z⟩ := hSl_56.addr (by omega)
       obtain ⟨cs71, hok72, hE73⟩ := hSl_56.els hA70 ((nxtN i d % l.length : Nat) : Int) (by omega) (by omega)
       obtain rfl : cs71 = [.string (at_ Rp.str l ((nxtN i d % l.length : Nat) : Int))] := hok72
       refine V.rg ?_
       refine V.run h62 [(5, .q (.int .u64 ((l.length : Nat) : Int)) (V.w_u64 (by omega) (by omega))), (0, .remN .u64 (nxtN i d) l.length), (0, .q (.int .i64 ((nxtN i d % l.length : Nat) : Int)) (w_remI (by omega) (by omega))), (0, .ix g68 o69 l.length cl .i64 ((nxtN i d % l.length : Nat) : Int) 1 hA70), (0, .l ⟨g68, o69 + ((nxtN i d % l.length : Nat) : Int).toNat * 1, none⟩ (.string (at_ Rp.str l ((nxtN i d % l.length : Nat) : Int))) (hE73.at 0 rfl))] 10 29 36 [(28, .slice A2 i c2), (37, .string (at_ Rp.str l ((nxtN i d % l.length : Nat) : Int)))] fun a h74 => ?_
       refine V.go (V.mk [(37, .string (at_ Rp.str l ((nxtN i d % l.length : Nat) : Int)))] ⟨h74.e, trivial⟩ (by kernel_rfl) [.string (at_ Rp.str l ((nxtN i d % l.length : Nat) : Int))] 9 (fun b => .slice (some ⟨b, 0, none⟩) 1 1) (by kernel_rfl) ?_)
       intro w76 b75 heb75 hB77 hF78 hsb75
       have hO_79 := hO_54.fr0 hF78
       have hF_80 := hF_55.new hF78
       have hSl_81 := hSl_56.fr0 hF78
       have hE73_82 := hE73.fr0 hF78
       refine V.pt h74 fun a h83 => ?_
       refine V.go (V.app (R := Rp.str) (ys := ([(at_ Rp.str l ((nxtN i d % l.length : Nat) : Int))])) (news := [.string (at_ Rp.str l ((nxtN i d % l.length : Nat) : Int))]) (h83.e (v := (.slice A2 i c2))) ⟨b75, 0, none⟩ 1 1 (h83.e (v := (.slice (some ⟨b75, 0, none⟩) 1 1))) (by kernel_rfl) (info9) (by kernel_rfl) (by decide) hO_79 rfl ⟨_, [], rfl, rfl, rfl⟩ (blk_cells hB77 0 _ rfl) (by first | omega | (simp; omega)) (by decide) (by omega) ?_)
       intro A84 c85 w86 hO87z hF88 hatw86
       have hsw86 := hF88.size
       have hF_89 := hF_80.own hF88 (own_ge hO_79 (by omega))
       have hSl_90 := hSl_81.fr hF88 (by intro b hb hz; have := own_ge hO_79 (Nat.le_refl _) b hb; (try dsimp only at hz); omega)
       have hE73_91 := hE73_82.fr hF88 (by first | exact own_notin hO_79 (by omega) | exact own_notin2 hO_54 (by omega))
       have hO87 := hO87z.zone (Z' := NoZ) (fun _ _ q => q.1) (fun _ _ q => q)
       refine V.pt h83 fun a h92 => ?_
       refine V.re h92 [] 1 0 [(8, .slice A84 (((negL l d i).length) + 1) c85)] fun a h93 => k67 _ _ ?_
       refine V.rg ?_
       refine V.run h93 [] 1 1 0 [(40, .int .u64 ((nxtN i d : Nat) : Int))] fun a h94 => ?_
       refine V.cl h94 (Go.Proofs.enters_of Try.func40 (by kernel_rfl) rfl) (rnext_any w86 (nxtN i d)) ?_
       rintro _ w96 ⟨rfl, hF95⟩
       refine ⟨_, rfl, fun a h97 => ?_⟩
       have hsw96 := hF95.size
       have hF_98 := hF_89.new hF95
       have hSl_99 := hSl_90.fr0 hF95
       have hE73_100 := hE73_91.fr0 hF95
       have hO87_101 := hO87.fr0 hF95
       have hnx95 := nxt_lt (nxtN i d)
       refine V.re h97 [] 1 0 [(2, .int .u64 ((nxt (nxtN i d) : Nat) : Int))] fun a h102 => ?_
       refine V.blk_n ?_
       refine V.then_n (k65 _ _ ?_)
       refine V.rr h102 [(1, .i ((n + (i : Int)) + 1))] 26 27 [(1, .int .i64 ((n + (i : Int)) + 1))] fun a h103 => ?_
       refine V.then_n ?_
       refine ⟨i + 1, A84, c85, by omega, ?_⟩
       refine ⟨(((h103.eq 1 (v := (.int .i64 ((n + (i : Int)) + 1))) (u := (.int .i64 (n + ((i + 1) : Int)))) (V.int_eq (by omega))).eq 2 (v := (.int .u64 ((nxt (nxtN i d) : Nat) : Int))) (u := (.int .u64 ((nxtN (i + 1) d : Nat) : Int))) (rfl)).eq 8 (v := (.slice A84 (((negL l d i).length) + 1) c85)) (u := (.slice A84 (i + 1) c85)) (V.sl_eq (by rw [negL_len]))).only _, (by rw [negL_succ]; have h := hO87_101; rw [negL_len] at h; exact h), hF_98, hSl_99, (by omega), (fun h => by omega)⟩
      ·
       refine V.exit ?_
       refine V.then_e ?_
       refine V.then_e ?_
       refine V.blk_hit ?_
       refine V.then_n (k50 _ _ ?_)
       refine V.seq fun K104 k105 => ?_
       by_cases hneg : n < 0
       all_goals have hnl := negL_len l d i
       ·
        have h106 := h62.eq 1 (v := (.int .i64 (n + (i : Int)))) (u := .int .i64 0) (V.int_eq (by omega))
        refine V.rg ?_
        refine V.go (V.mk [] trivial (by kernel_rfl) [] 9 (fun b => .slice (some ⟨b, 0, none⟩) 0 0) (by kernel_rfl) ?_)
        intro w108 b107 heb107 hB109 hF110 hsb107
        have hO_111 := hO_54.fr0 hF110
        have hF_112 := hF_55.new hF110
        have hSl_113 := hSl_56.fr0 hF110
        refine V.pt h106 fun a h114 => ?_
        have hO115 := OwR.empty (R := Rp.str) (base := b107) hB109 (Nat.le_refl _)
        refine V.run h114 [] 1 1 0 [(43, .slice Al l.length cl)] fun a h121 => ?_
        refine V.go (V.appS (R := Rp.str) (h121.e (v := (.slice (some ⟨b107, 0, none⟩) 0 0))) (h121.e (v := (.slice Al l.length cl))) (by kernel_rfl) info9 (by kernel_rfl) (by decide) hO115 hSl_113 (fun _ _ h => h) (by simp only [List.length_nil]; omega) (by decide) (by omega) ?_)
        intro A116 c117 w118 hO119 hF120
        have hsw118 := hF120.size
        have hO_122 := hO_111.fr hF120 (fun _ _ h => h) (fun b hb hm => by have hb1 := (hO_54.lt b hb).2; have hb2 := own_ge hO115 (Nat.le_refl _) b hm; omega)
        have hF_123 := hF_112.own hF120 (own_ge hO115 (by omega))
        have hSl_124 := hSl_113.fr hF120 (by intro b hb hz; have := own_ge hO115 (Nat.le_refl _) b hb; (try dsimp only at hz); omega)
        refine V.pt h121 fun a h125 => ?_
        refine V.re h125 [] 1 0 [(9, .slice A116 ((([] : List ByteArray)).length + (l).length) c117)] fun a h126 => k105 _ _ ?_
        refine V.seq fun K127 k128 => ?_
        refine V.seq fun K129 k130 => ?_
        refine V.rr h126 [] 1 0 [(10, .int .i64 0)] fun a h131 => ?_
        refine V.then_n (k130 _ _ ?_)
        refine V.block ?_
        refine V.loopR 2 ?_
        refine V.rnd ?_
        refine V.seq fun K132 k133 => ?_
        refine V.sr h131 [] 45 52 [(53, .bool false)] fun a h136 => ?_
        refine V.cf h136 ?_
        refine V.exit ?_
        refine V.then_e ?_
        refine V.then_e ?_
        refine V.blk_hit ?_
        refine V.then_n (k128 _ _ ?_)
        refine V.sr h136 [] 89 89 [(6, .slice A2 i c2), (7, .int .i64 0)] fun a h139 => ?_
        refine V.ret ?_
        refine V.r2 h139 (.slice A2 i c2) (.int .i64 0) ?_
        have hzi : Inc l := by (rcases chkN_cases l with h | h; exact h.2; omega)
        have hE : someE l n = 0 := someE_0 hzi (by omega) (by omega)
        have hr : someR l n d = negL l d i := some_neg hE (by omega) (by omega) (by omega)
        have hq := hO_122
        rw [← negL_len l d i] at hq
        rw [hr, hE]
        exact ⟨_, _, congrArg (fun k => Ending.returned (.tuple #[.slice A2 k c2, .int .i64 0])) (negL_len l d i).symm, by rw [negL_len] at hq ⊢; exact hO_122, hF_123⟩
       ·
        have hi0 : i = 0 := by omega
        obtain ⟨rfl, rfl⟩ := hnil hi0
        have h140 := h62.eq 1 (v := (.int .i64 (n + (i : Int)))) (u := .int .i64 n) (V.int_eq (by omega))
        refine V.rg ?_
        refine V.go (V.mk [] trivial (by kernel_rfl) [] 9 (fun b => .slice (some ⟨b, 0, none⟩) 0 0) (by kernel_rfl) ?_)
        intro w142 b141 heb141 hB143 hF144 hsb141
        have hF_145 := hF_55.new hF144
        have hSl_146 := hSl_56.fr0 hF144
        refine V.pt h140 fun a h147 => ?_
        have hO148 := OwR.empty (R := Rp.str) (base := b141) hB143 (Nat.le_refl _)
        refine V.run h147 [] 1 1 0 [(43, .slice Al l.length cl)] fun a h154 => ?_
        refine V.go (V.appS (R := Rp.str) (h154.e (v := (.slice (some ⟨b141, 0, none⟩) 0 0))) (h154.e (v := (.slice Al l.length cl))) (by kernel_rfl) info9 (by kernel_rfl) (by decide) hO148 hSl_146 (fun _ _ h => h) (by simp only [List.length_nil]; omega) (by decide) (by omega) ?_)
        intro A149 c150 w151 hO152 hF153
        have hsw151 := hF153.size
        have hF_155 := hF_145.own hF153 (own_ge hO148 (by omega))
        have hSl_156 := hSl_146.fr hF153 (by intro b hb hz; have := own_ge hO148 (Nat.le_refl _) b hb; (try dsimp only at hz); omega)
        refine V.pt h154 fun a h157 => ?_
        refine V.re h157 [] 1 0 [(9, .slice A149 ((([] : List ByteArray)).length + (l).length) c150)] fun a h158 => k105 _ _ ?_
        refine V.seq fun K159 k160 => ?_
        refine V.seq fun K161 k162 => ?_
        obtain ⟨g163, rfl⟩ : ∃ g, A149 = some ⟨g, 0, none⟩ := by (rcases own_cases hO152 with ⟨_, _, hz⟩ | h <;> first | exact h | (exfalso; (try simp only [List.length_append, List.length_nil] at hz); omega))
        have hltg163 := (hO152.lt g163 rfl)
        have h164 := h158.eq 9 (v := (.slice (some ⟨g163, 0, none⟩) ((([] : List ByteArray)).length + (l).length) c150)) (u := (.slice (some ⟨g163, 0, none⟩) l.length c150)) (V.sl_eq (by simp))
        have hO165 : OwR Rp.str NoZ w151 b141 9 (.slice (some ⟨g163, 0, none⟩) l.length c150) l := by simpa using hO152
        refine V.rr h164 [] 1 0 [(10, .int .i64 0)] fun a h166 => ?_
        refine V.then_n (k162 _ _ ?_)
        refine V.block ?_
        refine V.loop3 (fun (k : Nat) (A3 : Option Addr) (c3 : Nat) a_ w_ => En 90 [] a_ [(1, .int .i64 n), (2, .int .u64 ((nxtN (i + k) d : Nat) : Int)), (8, .slice A3 k c3), (9, .slice (some ⟨g163, 0, none⟩) l.length c150), (10, .int .i64 (k : Int))] ∧ OwR Rp.str NoZ w_ b141 9 (.slice (some ⟨g163, 0, none⟩) l.length c150) (rowT l d k) ∧ OwR Rp.str NoZ w_ (g163 + 1) 9 (.slice A3 k c3) (outL l d k) ∧ Fr [] w w_ ∧ SlR Rp.str (fun k => k < w.heap.size) w_ (.slice Al l.length cl) l ∧ (k ≤ l.length ∧ (k : Int) ≤ n)) (fun (k : Nat) (A3 : Option Addr) (c3 : Nat) => l.length - k) 0 none 0 ?_ ?_
        ·
         refine ⟨(((h166.eq 2 (v := (.int .u64 ((nxtN i d : Nat) : Int))) (u := (.int .u64 ((nxtN (i + 0) d : Nat) : Int))) (rfl)).eq 8 (v := (.slice none i 0)) (u := (.slice none 0 0)) (V.sl_eq hi0)).eq 10 (v := (.int .i64 0)) (u := (.int .i64 (0 : Int))) (V.int_eq (by omega))).only _, hO165, (OwR.nil ..), hF_155, hSl_156, (by omega)⟩
        ·
         rintro k A3 c3 a167 w168 ⟨h169, hO_170, hO3_171, hF_172, hSl_173, hk⟩
         have hfs174 := hF_172.size
         have hrl := rowT_len l d k
         have hol := outL_len (s := l) (d := d) (i := k) (by omega)
         have hltr := hO_170.lt g163 rfl
         refine V.seq fun K175 k176 => ?_
         refine V.sg fun K177 k178 => ?_
         refine V.run h169 [] 4 45 47 [(48, .bool (decide ((k : Int) < n)))] fun a h179 => ?_
         by_cases hg180 : (k : Int) < n
         ·
          have h181 := h179.kt 48 hg180
          refine V.re h181 [] 49 52 [(53, .bool (decide ((k : Int) < ((l.length : Nat) : Int))))] fun a h182 => k178 _ _ ?_
          refine V.cp h182 ((k : Int) < ((l.length : Nat) : Int)) (fun ht183 => ?_) (fun ht183 => ?_)
          ·
           refine V.skip ?_
           refine V.then_n (k176 _ _ ?_)
           refine V.seq fun K184 k185 => ?_
           refine V.block ?_
           refine V.seq fun K186 k187 => ?_
           have hmm := Nat.mod_lt (nxtN (i + k) d) (show 0 < l.length - k by omega)
           have hdr := drw_lt (n := l.length) (d := d) (k := k) (by omega)
           refine V.rr h182 [(5, .i (((l.length : Nat) : Int) - (k : Int))), (0, .q (.int .u64 ((l.length - k : Nat) : Int)) (w_subN (by omega) (by omega))), (0, .remN .u64 (nxtN (i + k) d) (l.length - k)), (0, .q (.int .i64 ((nxtN (i + k) d % (l.length - k) : Nat) : Int)) (w_remI (by omega) (by omega))), (0, .q (.int .i64 ((drw l.length k d : Nat) : Int)) (w_drw i hi0 (by omega) (by omega)))] 56 65 [(11, .int .i64 ((drw l.length k d : Nat) : Int))] fun a h188 => ?_
           refine V.then_n (k187 _ _ ?_)
           refine V.seq fun K189 k190 => ?_
           refine V.pl [([0,1,2,3,4,5,6,7,8,9,10,11,12],some (13,[])),([14],some (15,[])),([],none)] fun w191 hF192 hsw191 => ?_
           have hO_193 := hO_170.fr0 hF192
           have hO3_194 := hO3_171.fr0 hF192
           have hF_195 := hF_172.new hF192
           have hSl_196 := hSl_173.fr0 hF192
           have hS200 := hO_193.is
           obtain ⟨cs197, hok198, hE199⟩ := hS200.els rfl ((drw l.length k d : Nat) : Int) (by omega) (by omega)
           obtain rfl : cs197 = [.string (at_ Rp.str (rowT l d k) ((drw l.length k d : Nat) : Int))] := hok198
           obtain ⟨cs201, hok202, hE203⟩ := hS200.els rfl (k : Int) (by omega) (by omega)
           obtain rfl : cs201 = [.string (at_ Rp.str (rowT l d k) (k : Int))] := hok202
           refine V.pe h188 [(6, .ix g163 0 l.length c150 .i64 ((drw l.length k d : Nat) : Int) 1 rfl), (0, .l ⟨g163, 0 + ((drw l.length k d : Nat) : Int).toNat * 1, none⟩ (.string (at_ Rp.str (rowT l d k) ((drw l.length k d : Nat) : Int))) (hE199.at 0 rfl)), (2, .ix g163 0 l.length c150 .i64 (k : Int) 1 rfl), (0, .l ⟨g163, 0 + (k : Int).toNat * 1, none⟩ (.string (at_ Rp.str (rowT l d k) (k : Int))) (hE203.at 0 rfl)), (0, .ix g163 0 l.length c150 .i64 (k : Int) 1 rfl)] 66 76 [(68, .slice (some ⟨g163, 0, none⟩) l.length c150), (69, .int .i64 ((drw l.length k d : Nat) : Int)), (73, .string (at_ Rp.str (rowT l d k) ((drw l.length k d : Nat) : Int))), (77, .string (at_ Rp.str (rowT l d k) (k : Int))), (78, .pointer (some ⟨g163, 0 + (k : Int).toNat * 1, none⟩))] fun a h204 => ?_
           refine V.go (V.sto ((k : Int).toNat) (at_ Rp.str (rowT l d k) ((drw l.length k d : Nat) : Int)) hO_193 (h204.e (v := (.pointer (some ⟨g163, 0 + (k : Int).toNat * 1, none⟩)))) (h204.e (v := (.string (at_ Rp.str (rowT l d k) ((drw l.length k d : Nat) : Int))))) (by kernel_rfl) (by (try simp only [List.length_set]); omega) ?_)
           intro w205 hO206 hF207 hsw205
           have hO3_208 := hO3_194.frn hF207 (fun h => h) (by first | exact own_ne hO3_194 (by omega) | exact own_ne2 hO3_171 (by omega))
           have hF_209 := hF_195.own hF207 (by simp <;> omega)
           have hSl_210 := hSl_196.fr hF207 (by simp <;> omega)
           refine V.eh trivial ?_
           refine V.pe h204 [(0, .ix g163 0 l.length c150 .i64 ((drw l.length k d : Nat) : Int) 1 rfl)] 1 0 [(79, .pointer (some ⟨g163, 0 + ((drw l.length k d : Nat) : Int).toNat * 1, none⟩))] fun a h211 => ?_
           refine V.go (V.sto (((drw l.length k d : Nat) : Int).toNat) (at_ Rp.str (rowT l d k) (k : Int)) hO206 (h211.e (v := (.pointer (some ⟨g163, 0 + ((drw l.length k d : Nat) : Int).toNat * 1, none⟩)))) (h211.e (v := (.string (at_ Rp.str (rowT l d k) (k : Int))))) (by kernel_rfl) (by (try simp only [List.length_set]); omega) ?_)
           intro w212 hO213 hF214 hsw212
           have hO3_215 := hO3_208.frn hF214 (fun h => h) (by first | exact own_ne hO3_208 (by omega) | exact own_ne2 hO3_171 (by omega))
           have hF_216 := hF_209.own hF214 (by simp <;> omega)
           have hSl_217 := hSl_210.fr hF214 (by simp <;> omega)
           refine V.eh trivial ?_
           refine V.pz h211 [] 1 0 [] fun a h218 => k190 _ _ ?_
           refine V.seq fun K219 k220 => ?_
           have hO221 : OwR Rp.str NoZ w212 b141 9 (.slice (some ⟨g163, 0, none⟩) l.length c150) (rowT l d (k + 1)) := hO213
           have hrl1 := rowT_len l d (k + 1)
           have hS225 := hO221.is
           obtain ⟨cs222, hok223, hE224⟩ := hS225.els rfl (k : Int) (by omega) (by omega)
           obtain rfl : cs222 = [.string (at_ Rp.str (rowT l d (k + 1)) (k : Int))] := hok223
           refine V.rg ?_
           refine V.run h218 [(3, .ix g163 0 l.length c150 .i64 (k : Int) 1 rfl), (0, .l ⟨g163, 0 + (k : Int).toNat * 1, none⟩ (.string (at_ Rp.str (rowT l d (k + 1)) (k : Int))) (hE224.at 0 rfl))] 5 81 83 [(80, .slice A3 k c3), (84, .string (at_ Rp.str (rowT l d (k + 1)) (k : Int)))] fun a h226 => ?_
           refine V.go (V.mk [(84, .string (at_ Rp.str (rowT l d (k + 1)) (k : Int)))] ⟨h226.e, trivial⟩ (by kernel_rfl) [.string (at_ Rp.str (rowT l d (k + 1)) (k : Int))] 9 (fun b => .slice (some ⟨b, 0, none⟩) 1 1) (by kernel_rfl) ?_)
           intro w228 b227 heb227 hB229 hF230 hsb227
           have hO3_231 := hO3_215.fr0 hF230
           have hF_232 := hF_216.new hF230
           have hSl_233 := hSl_217.fr0 hF230
           have hO221_234 := hO221.fr0 hF230
           have hS225_235 := hS225.fr0 hF230
           have hE224_236 := hE224.fr0 hF230
           refine V.pt h226 fun a h237 => ?_
           refine V.go (V.app (R := Rp.str) (ys := ([(at_ Rp.str (rowT l d (k + 1)) (k : Int))])) (news := [.string (at_ Rp.str (rowT l d (k + 1)) (k : Int))]) (h237.e (v := (.slice A3 k c3))) ⟨b227, 0, none⟩ 1 1 (h237.e (v := (.slice (some ⟨b227, 0, none⟩) 1 1))) (by kernel_rfl) (info9) (by kernel_rfl) (by decide) hO3_231 rfl ⟨_, [], rfl, rfl, rfl⟩ (blk_cells hB229 0 _ rfl) (by first | omega | (simp; omega)) (by decide) (by omega) ?_)
           intro A238 c239 w240 hO241z hF242 hatw240
           have hsw240 := hF242.size
           have hF_243 := hF_232.own hF242 (own_ge hO3_231 (by omega))
           have hSl_244 := hSl_233.fr hF242 (by intro b hb hz; have := own_ge hO3_231 (Nat.le_refl _) b hb; (try dsimp only at hz); omega)
           have hO221_245 := hO221_234.fr hF242 (fun _ _ h => h) (fun b hb hm => by have hb1 : g163 = b := (by simpa [Value.ownBlock] using hb); have hb2 := own_ge hO3_231 (Nat.le_refl _) b hm; omega)
           have hE224_246 := hE224_236.fr hF242 (by first | exact own_notin hO3_231 (by omega) | exact own_notin2 hO3_171 (by omega))
           have hO241 := hO241z.zone (Z' := NoZ) (fun _ _ q => q.1) (fun _ _ q => q)
           refine V.pt h237 fun a h247 => ?_
           refine V.re h247 [] 1 0 [(8, .slice A238 (((outL l d k).length) + 1) c239)] fun a h248 => k220 _ _ ?_
           have h249 := h248.only [(1, .int .i64 n), (2, .int .u64 ((nxtN (i + k) d : Nat) : Int)), (8, .slice A238 (((outL l d k).length) + 1) c239), (9, .slice (some ⟨g163, 0, none⟩) l.length c150), (10, .int .i64 (k : Int))]
           refine V.rg ?_
           refine V.run h249 [] 1 1 0 [(87, .int .u64 ((nxtN (i + k) d : Nat) : Int))] fun a h250 => ?_
           refine V.cl h250 (Go.Proofs.enters_of Try.func40 (by kernel_rfl) rfl) (rnext_any w240 (nxtN (i + k) d)) ?_
           rintro _ w252 ⟨rfl, hF251⟩
           refine ⟨_, rfl, fun a h253 => ?_⟩
           have hsw252 := hF251.size
           have hF_254 := hF_243.new hF251
           have hSl_255 := hSl_244.fr0 hF251
           have hO221_256 := hO221_245.fr0 hF251
           have hE224_257 := hE224_246.fr0 hF251
           have hO241_258 := hO241.fr0 hF251
           have hnx251 := nxt_lt (nxtN (i + k) d)
           refine V.re h253 [] 1 0 [(2, .int .u64 ((nxt (nxtN (i + k) d) : Nat) : Int))] fun a h259 => ?_
           refine V.blk_n ?_
           refine V.then_n (k185 _ _ ?_)
           refine V.rr h259 [(1, .i ((k : Int) + 1))] 54 55 [(10, .int .i64 ((k : Int) + 1))] fun a h260 => ?_
           refine V.then_n ?_
           refine ⟨k + 1, A238, c239, by omega, ?_⟩
           refine ⟨(((h260.eq 2 (v := (.int .u64 ((nxt (nxtN (i + k) d) : Nat) : Int))) (u := (.int .u64 ((nxtN (i + (k + 1)) d : Nat) : Int))) (rfl)).eq 8 (v := (.slice A238 (((outL l d k).length) + 1) c239)) (u := (.slice A238 (k + 1) c239)) (V.sl_eq (by rw [outL_len (by omega)]))).eq 10 (v := (.int .i64 ((k : Int) + 1))) (u := (.int .i64 ((k + 1) : Int))) (V.int_eq (by omega))).only _, hO221_256, (by rw [outL_succ (by omega)]; have h := hO241_258; rw [outL_len (by omega)] at h; exact h), hF_254, hSl_255, (by omega)⟩
          ·
           refine V.exit ?_
           refine V.then_e ?_
           refine V.then_e ?_
           refine V.blk_hit ?_
           refine V.then_n (k160 _ _ ?_)
           refine V.sr h182 [] 89 89 [(6, .slice A3 k c3), (7, .int .i64 0)] fun a h263 => ?_
           refine V.ret ?_
           refine V.r2 h263 (.slice A3 k c3) (.int .i64 0) ?_
           have hzi : Inc l := by (rcases chkN_cases l with h | h; exact h.2; omega)
           have hE : someE l n = 0 := someE_0 hzi (by omega) (by omega)
           have hr : someR l n d = outL l d k := some_pos hE (by omega) (by omega) (by omega)
           have hq := hO3_171.rebase (base' := w.heap.size) (by omega)
           rw [hr, hE, hol]
           exact ⟨_, _, rfl, hq, hF_172⟩
         ·
          have h264 := h179.kf 48 hg180
          refine V.re h264 [] 49 52 [(53, .bool false)] fun a h265 => k178 _ _ ?_
          refine V.cf h265 ?_
          refine V.exit ?_
          refine V.then_e ?_
          refine V.then_e ?_
          refine V.blk_hit ?_
          refine V.then_n (k160 _ _ ?_)
          refine V.sr h265 [] 89 89 [(6, .slice A3 k c3), (7, .int .i64 0)] fun a h268 => ?_
          refine V.ret ?_
          refine V.r2 h268 (.slice A3 k c3) (.int .i64 0) ?_
          have hzi : Inc l := by (rcases chkN_cases l with h | h; exact h.2; omega)
          have hE : someE l n = 0 := someE_0 hzi (by omega) (by omega)
          have hr : someR l n d = outL l d k := some_pos hE (by omega) (by omega) (by omega)
          have hq := hO3_171.rebase (base' := w.heap.size) (by omega)
          rw [hr, hE, hol]
          exact ⟨_, _, rfl, hq, hF_172⟩
end Go.Proofs.Ytkepojdmgdgaoaa
