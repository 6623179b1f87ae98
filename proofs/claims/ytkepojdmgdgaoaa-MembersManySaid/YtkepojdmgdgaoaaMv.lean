/- Walks: the reference: Meet, Less. -/
import Derived.Test.YtkepojdmgdgaoaaProg
import Derived.Test.YtkepojdmgdgaoaaMu
namespace Go.Proofs.Ytkepojdmgdgaoaa
open Go.V Go.Base
open Go.RowKit (Below)
attribute [local irreducible] Act.put Act.eval
set_option linter.unusedVariables false
set_option linter.unusedSimpArgs false
set_option maxHeartbeats 4000000 in
set_option maxRecDepth 20000 in
theorem rmeet_any (w : World) (A : Option Addr) (c : Nat) (ls : List (List ByteArray)) (hL : SlR (Rp.slice Rp.str) (fun k => k < w.heap.size) w (.slice A ls.length c) ls) (hf : ls.flatten.length ≤ 1048576) : Calls Try.prog 32 #[.slice A ls.length c] w (fun e w' => ∃ A' c', e = .returned (.tuple #[.slice A' (meS ls).length c', .int .i64 (chkL ls)]) ∧ OwR Rp.str NoZ w' w.heap.size 9 (.slice A' (meS ls).length c') (meS ls) ∧ Fr [] w w') := by
 have hF := Fr.refl [] w
 have hlen0 := hL.len_le
 refine V.en 55 Try.func32 fun a h1 => ?_
 refine V.sr h1 [] 2 3 [] fun a h4 => ?_
 refine V.seq fun K5 k6 => ?_
 refine V.sg fun K7 k8 => ?_
 refine V.run h4 [] 1 1 0 [(8, .slice A ls.length c)] fun a h9 => ?_
 refine V.cl h9 (Go.Proofs.enters_of Try.func46 (by kernel_rfl) rfl) (rsets_any w _ _ ls hL.old) ?_
 rintro _ w11 ⟨rfl, hF10⟩
 refine ⟨_, rfl, fun a h12 => ?_⟩
 have hsw11 := hF10.size
 have hF_13 := hF.new hF10
 have hL_14 := hL.fr0 hF10
 refine V.re h12 [(0, .q (.bool (decide (¬ (∀ l ∈ ls, Inc l)))) V.t_not)] 1 0 [(10, .bool (decide (¬ (∀ l ∈ ls, Inc l))))] fun a h15 => k8 _ _ ?_
 refine V.cp h15 (¬ (∀ l ∈ ls, Inc l)) (fun ht16 => ?_) (fun ht16 => ?_)
 ·
  refine V.sr h15 [] 1 0 [(2, .slice none 0 0), (3, .int .i64 80)] fun a h19 => ?_
  refine V.ret ?_
  refine V.then_r ?_
  refine V.r2 h19 (.slice none 0 0) (.int .i64 80) ?_
  rcases chkL_cases ls with ⟨hz0, hzi⟩ | ⟨hz0, hzi⟩
  · exact absurd hzi ht16
  · rw [show meS ls = [] from if_neg hzi, hz0]; exact ⟨none, 0, rfl, OwR.nil .., hF_13⟩
 ·
  refine V.skip ?_
  refine V.then_n (k6 _ _ ?_)
  refine V.seq fun K20 k21 => ?_
  have hall0 : ∀ l ∈ ls, Inc l := (Decidable.of_not_not ht16)
  refine V.rr h15 [] 1 0 [(4, .slice none 0 0)] fun a h22 => ?_
  refine V.then_n (k21 _ _ ?_)
  refine V.seq fun K23 k24 => ?_
  refine V.sr h22 [] 1 0 [(5, .int .i64 0)] fun a h27 => ?_
  refine V.block ?_
  refine V.loop3 (fun (k : Nat) (A2 : Option Addr) (c2 : Nat) a_ w_ => En 55 [] a_ [(0, .slice A ls.length c), (4, .slice A2 ((((at_ (Rp.slice Rp.str) ls 0).take k).filter fun x => allB ls x ls.length).length) c2), (5, .int .i64 (k : Int))] ∧ OwR Rp.str NoZ w_ w.heap.size 9 (.slice A2 ((((at_ (Rp.slice Rp.str) ls 0).take k).filter fun x => allB ls x ls.length).length) c2) (((at_ (Rp.slice Rp.str) ls 0).take k).filter fun x => allB ls x ls.length) ∧ Fr [] w w_ ∧ SlR (Rp.slice Rp.str) (fun k => k < w.heap.size) w_ (.slice A ls.length c) ls ∧ (k ≤ (at_ (Rp.slice Rp.str) ls 0).length)) (fun (k : Nat) (A2 : Option Addr) (c2 : Nat) => (at_ (Rp.slice Rp.str) ls 0).length - k) 0 none 0 ?_ ?_
  ·
   refine ⟨((h27.eq 4 (v := (.slice none 0 0)) (u := (.slice none ((((at_ (Rp.slice Rp.str) ls 0).take 0).filter fun x => allB ls x ls.length).length) 0)) (rfl)).eq 5 (v := (.int .i64 0)) (u := (.int .i64 (0 : Int))) (V.int_eq (by omega))).only _, (OwR.nil ..), hF_13, hL_14, (by omega)⟩
  ·
   rintro k A2 c2 a28 w29 ⟨h30, hO_31, hF_32, hL_33, hk⟩
   have hfs34 := hF_32.size
   have hfl := List.length_filter_le (fun x => allB ls x ls.length) ((at_ (Rp.slice Rp.str) ls 0).take k)
   have htl := List.length_take_le k (at_ (Rp.slice Rp.str) ls 0)
   have hhl := hd_le ls
   have hhl : (at_ (Rp.slice Rp.str) ls 0).length ≤ _ := hhl
   refine V.seq fun K35 k36 => ?_
   refine V.sg fun K37 k38 => ?_
   refine V.run h30 [] 4 11 13 [(14, .bool (decide (((ls.length : Nat) : Int) > 0)))] fun a h39 => ?_
   by_cases hg40 : ((ls.length : Nat) : Int) > 0
   ·
    have h41 := h39.kt 14 hg40
    obtain ⟨g42, o43, hA44, hA44l, hA44z⟩ := hL_33.addr (by omega)
    obtain ⟨cs45, hok46, hE47⟩ := hL_33.els hA44 (0 : Int) (by omega) (by omega)
    obtain ⟨A48, c49, rfl, hS50⟩ := slice_open hok46
    refine V.re h41 [(2, .ix g42 o43 ls.length c .i64 0 1 hA44), (0, .l ⟨g42, o43 + (0 : Int).toNat * 1, none⟩ (.slice A48 ((at_ (Rp.slice Rp.str) ls (0 : Int)).length) c49) (hE47.at 0 rfl))] 15 20 [(21, .bool (decide ((k : Int) < (((at_ (Rp.slice Rp.str) ls (0 : Int)).length : Nat) : Int))))] fun a h51 => k38 _ _ ?_
    refine V.cp h51 ((k : Int) < (((at_ (Rp.slice Rp.str) ls (0 : Int)).length : Nat) : Int)) (fun ht52 => ?_) (fun ht52 => ?_)
    ·
     refine V.skip ?_
     refine V.then_n (k36 _ _ ?_)
     refine V.seq fun K53 k54 => ?_
     refine V.block ?_
     refine V.sr h51 [] 1 0 [(6, .bool true)] fun a h57 => ?_
     refine V.seq fun K58 k59 => ?_
     refine V.sr h57 [] 1 0 [(7, .int .i64 1)] fun a h62 => ?_
     refine V.block ?_
     refine V.loop1 (fun (j : Nat) a_ w_ => En 55 [] a_ [(0, .slice A ls.length c), (4, .slice A2 ((((at_ (Rp.slice Rp.str) ls 0).take k).filter fun x => allB ls x ls.length).length) c2), (5, .int .i64 (k : Int)), (6, .bool (allB ls (at_ Rp.str (at_ (Rp.slice Rp.str) ls 0) (k : Int)) j)), (7, .int .i64 (j : Int))] ∧ OwR Rp.str NoZ w_ w.heap.size 9 (.slice A2 ((((at_ (Rp.slice Rp.str) ls 0).take k).filter fun x => allB ls x ls.length).length) c2) (((at_ (Rp.slice Rp.str) ls 0).take k).filter fun x => allB ls x ls.length) ∧ Fr [] w w_ ∧ SlR (Rp.slice Rp.str) (fun k => k < w.heap.size) w_ (.slice A ls.length c) ls ∧ SlR Rp.str (fun k => k < w.heap.size) w_ (.slice A48 ((at_ (Rp.slice Rp.str) ls (0 : Int)).length) c49) (at_ (Rp.slice Rp.str) ls (0 : Int)) ∧ (1 ≤ j ∧ j ≤ ls.length)) (fun (j : Nat) => ls.length - j) 1 ?_ ?_
     ·
      refine ⟨((h62.eq 6 (v := (.bool true)) (u := (.bool (allB ls (at_ Rp.str (at_ (Rp.slice Rp.str) ls 0) (k : Int)) 1))) (congrArg Value.bool (allB_1 ls (at_ Rp.str (at_ (Rp.slice Rp.str) ls 0) (k : Int))))).eq 7 (v := (.int .i64 1)) (u := (.int .i64 (1 : Int))) (V.int_eq (by omega))).only _, hO_31, hF_32, hL_33, hS50, (by omega)⟩
     ·
      rintro j a63 w64 ⟨h65, hO_66, hF_67, hL_68, hS50_69, hj⟩
      have hfs70 := hF_67.size
      refine V.seq fun K71 k72 => ?_
      refine V.sr h65 [] 24 26 [(27, .bool (decide ((j : Int) < ((ls.length : Nat) : Int))))] fun a h75 => ?_
      refine V.cp h75 ((j : Int) < ((ls.length : Nat) : Int)) (fun ht76 => ?_) (fun ht76 => ?_)
      ·
       refine V.skip ?_
       refine V.then_n (k72 _ _ ?_)
       refine V.seq fun K77 k78 => ?_
       refine V.block ?_
       refine V.pl [([0,1,2,3,4,5,6,7,8,9,10,11],some (12,[])),([13,14],none)] fun w79 hF80 hsw79 => ?_
       have hO_81 := hO_66.fr0 hF80
       have hF_82 := hF_67.new hF80
       have hL_83 := hL_68.fr0 hF80
       have hS50_84 := hS50_69.fr0 hF80
       refine V.pe0 ?_
       refine V.run h75 [] 2 30 30 [(31, .bool (allB ls (at_ Rp.str (at_ (Rp.slice Rp.str) ls 0) (k : Int)) j))] fun a h85 => ?_
       by_cases hg86 : (allB ls (at_ Rp.str (at_ (Rp.slice Rp.str) ls 0) (k : Int)) j) = true
       ·
        have h87 := h85.kbt 6 hg86
        have h88 := h87.kbt 31 hg86
        obtain ⟨g89, o90, hA91, hA91l, hA91z⟩ := hL_83.addr (by omega)
        obtain ⟨cs92, hok93, hE94⟩ := hL_83.els hA91 (j : Int) (by omega) (by omega)
        obtain ⟨A95, c96, rfl, hS97⟩ := slice_open hok93
        obtain ⟨cs98, hok99, hE100⟩ := hL_83.els hA91 (0 : Int) (by omega) (by omega)
        obtain ⟨A101, c102, rfl, hS103⟩ := slice_open hok99
        obtain ⟨g104, o105, hA106, hA106l, hA106z⟩ := hS103.addr (by omega)
        obtain ⟨cs107, hok108, hE109⟩ := hS103.els hA106 (k : Int) (by omega) (by omega)
        obtain rfl : cs107 = [.string (at_ Rp.str (at_ (Rp.slice Rp.str) ls (0 : Int)) (k : Int))] := hok108
        refine V.se h88 [(2, .ix g89 o90 ls.length c .i64 (j : Int) 1 hA91), (0, .l ⟨g89, o90 + (j : Int).toNat * 1, none⟩ (.slice A95 ((at_ (Rp.slice Rp.str) ls (j : Int)).length) c96) (hE94.at 0 rfl)), (1, .ix g89 o90 ls.length c .i64 0 1 hA91), (0, .l ⟨g89, o90 + (0 : Int).toNat * 1, none⟩ (.slice A101 ((at_ (Rp.slice Rp.str) ls (0 : Int)).length) c102) (hE100.at 0 rfl)), (1, .ix g104 o105 ((at_ (Rp.slice Rp.str) ls (0 : Int)).length) c102 .i64 (k : Int) 1 hA106), (0, .l ⟨g104, o105 + (k : Int).toNat * 1, none⟩ (.string (at_ Rp.str (at_ (Rp.slice Rp.str) ls (0 : Int)) (k : Int))) (hE109.at 0 rfl))] 32 40 [(35, .slice A95 ((at_ (Rp.slice Rp.str) ls (j : Int)).length) c96), (41, .string (at_ Rp.str (at_ (Rp.slice Rp.str) ls (0 : Int)) (k : Int)))] fun a h110 => ?_
        refine V.clg h110 (Go.Proofs.enters_of Try.func14 (by kernel_rfl) rfl) (in_any w79 A95 c96 (at_ (Rp.slice Rp.str) ls (j : Int)) hS97.old (at_ Rp.str (at_ (Rp.slice Rp.str) ls (0 : Int)) (k : Int))) ?_
        rintro _ w112 ⟨rfl, hF111⟩
        refine ⟨_, rfl, fun a h113 => ?_⟩
        have hsw112 := hF111.size
        have hO_114 := hO_81.fr0 hF111
        have hF_115 := hF_82.new hF111
        have hL_116 := hL_83.fr0 hF111
        have hS50_117 := hS50_84.fr0 hF111
        have hS97_118 := hS97.fr0 hF111
        have hE94_119 := hE94.fr0 hF111
        have hS103_120 := hS103.fr0 hF111
        have hE100_121 := hE100.fr0 hF111
        have hE109_122 := hE109.fr0 hF111
        refine V.eh trivial ?_
        refine V.pz h113 [] 43 43 [(6, .bool (decide ((at_ Rp.str (at_ (Rp.slice Rp.str) ls (0 : Int)) (k : Int)) ∈ (at_ (Rp.slice Rp.str) ls (j : Int)))))] fun a h123 => ?_
        refine V.blk_n ?_
        refine V.then_n (k78 _ _ ?_)
        refine V.rr h123 [(1, .i ((j : Int) + 1))] 28 29 [(7, .int .i64 ((j : Int) + 1))] fun a h124 => ?_
        refine V.then_n ?_
        refine ⟨j + 1, by omega, ?_⟩
        refine ⟨((h124.eq 6 (v := (.bool (decide ((at_ Rp.str (at_ (Rp.slice Rp.str) ls (0 : Int)) (k : Int)) ∈ (at_ (Rp.slice Rp.str) ls (j : Int)))))) (u := (.bool (allB ls (at_ Rp.str (at_ (Rp.slice Rp.str) ls 0) (k : Int)) (j + 1)))) (congrArg Value.bool (allB_yes (by omega) (by omega) hg86))).eq 7 (v := (.int .i64 ((j : Int) + 1))) (u := (.int .i64 ((j + 1) : Int))) (V.int_eq (by omega))).only _, hO_114, hF_115, hL_116, hS50_117, (by omega)⟩
       ·
        have h125 := h85.kbf 6 hg86
        have h126 := h125.kbf 31 hg86
        refine V.se h126 [] 32 40 [(35, undef), (41, undef)] fun a h127 => ?_
        refine V.run h127 [] 1 1 0 [(42, undef)] fun a h128 => ?_
        refine V.eh trivial ?_
        refine V.pz h128 [] 43 43 [(6, .bool false)] fun a h129 => ?_
        refine V.blk_n ?_
        refine V.then_n (k78 _ _ ?_)
        refine V.rr h129 [(1, .i ((j : Int) + 1))] 28 29 [(7, .int .i64 ((j : Int) + 1))] fun a h130 => ?_
        refine V.then_n ?_
        refine ⟨j + 1, by omega, ?_⟩
        refine ⟨((h130.eq 6 (v := (.bool false)) (u := (.bool (allB ls (at_ Rp.str (at_ (Rp.slice Rp.str) ls 0) (k : Int)) (j + 1)))) (congrArg Value.bool (allB_no (by omega) (by omega) hg86))).eq 7 (v := (.int .i64 ((j : Int) + 1))) (u := (.int .i64 ((j + 1) : Int))) (V.int_eq (by omega))).only _, hO_81, hF_82, hL_83, hS50_84, (by omega)⟩
      ·
       refine V.exit ?_
       refine V.then_e ?_
       refine V.then_e ?_
       refine V.blk_hit ?_
       refine V.then_n (k59 _ _ ?_)
       refine V.sr h75 [] 1 0 [(44, .bool (allB ls (at_ Rp.str (at_ (Rp.slice Rp.str) ls 0) (k : Int)) j))] fun a h133 => ?_
       refine V.cb h133 (allB ls (at_ Rp.str (at_ (Rp.slice Rp.str) ls 0) (k : Int)) j) (fun ht134 => ?_) (fun ht134 => ?_)
       ·
        obtain ⟨g135, o136, hA137, hA137l, hA137z⟩ := hL_68.addr (by omega)
        obtain ⟨cs138, hok139, hE140⟩ := hL_68.els hA137 (0 : Int) (by omega) (by omega)
        obtain ⟨A141, c142, rfl, hS143⟩ := slice_open hok139
        obtain ⟨g144, o145, hA146, hA146l, hA146z⟩ := hS143.addr (by omega)
        obtain ⟨cs147, hok148, hE149⟩ := hS143.els hA146 (k : Int) (by omega) (by omega)
        obtain rfl : cs147 = [.string (at_ Rp.str (at_ (Rp.slice Rp.str) ls (0 : Int)) (k : Int))] := hok148
        refine V.rg ?_
        refine V.run h133 [(2, .ix g135 o136 ls.length c .i64 0 1 hA137), (0, .l ⟨g135, o136 + (0 : Int).toNat * 1, none⟩ (.slice A141 ((at_ (Rp.slice Rp.str) ls (0 : Int)).length) c142) (hE140.at 0 rfl)), (1, .ix g144 o145 ((at_ (Rp.slice Rp.str) ls (0 : Int)).length) c142 .i64 (k : Int) 1 hA146), (0, .l ⟨g144, o145 + (k : Int).toNat * 1, none⟩ (.string (at_ Rp.str (at_ (Rp.slice Rp.str) ls (0 : Int)) (k : Int))) (hE149.at 0 rfl))] 7 46 50 [(45, .slice A2 ((((at_ (Rp.slice Rp.str) ls 0).take k).filter fun x => allB ls x ls.length).length) c2), (51, .string (at_ Rp.str (at_ (Rp.slice Rp.str) ls (0 : Int)) (k : Int)))] fun a h150 => ?_
        refine V.go (V.mk [(51, .string (at_ Rp.str (at_ (Rp.slice Rp.str) ls (0 : Int)) (k : Int)))] ⟨h150.e, trivial⟩ (by kernel_rfl) [.string (at_ Rp.str (at_ (Rp.slice Rp.str) ls (0 : Int)) (k : Int))] 9 (fun b => .slice (some ⟨b, 0, none⟩) 1 1) (by kernel_rfl) ?_)
        intro w152 b151 heb151 hB153 hF154 hsb151
        have hO_155 := hO_66.fr0 hF154
        have hF_156 := hF_67.new hF154
        have hL_157 := hL_68.fr0 hF154
        have hS50_158 := hS50_69.fr0 hF154
        have hS143_159 := hS143.fr0 hF154
        have hE140_160 := hE140.fr0 hF154
        have hE149_161 := hE149.fr0 hF154
        refine V.pt h150 fun a h162 => ?_
        refine V.go (V.app (R := Rp.str) (ys := ([(at_ Rp.str (at_ (Rp.slice Rp.str) ls (0 : Int)) (k : Int))])) (news := [.string (at_ Rp.str (at_ (Rp.slice Rp.str) ls (0 : Int)) (k : Int))]) (h162.e (v := (.slice A2 ((((at_ (Rp.slice Rp.str) ls 0).take k).filter fun x => allB ls x ls.length).length) c2))) ⟨b151, 0, none⟩ 1 1 (h162.e (v := (.slice (some ⟨b151, 0, none⟩) 1 1))) (by kernel_rfl) (info9) (by kernel_rfl) (by decide) hO_155 rfl ⟨_, [], rfl, rfl, rfl⟩ (blk_cells hB153 0 _ rfl) (by first | omega | (simp; omega)) (by decide) (by omega) ?_)
        intro A163 c164 w165 hO166z hF167 hatw165
        have hsw165 := hF167.size
        have hF_168 := hF_156.own hF167 (own_ge hO_155 (by omega))
        have hL_169 := hL_157.fr hF167 (by intro b hb hz; have := own_ge hO_155 (Nat.le_refl _) b hb; (try dsimp only at hz); omega)
        have hS50_170 := hS50_158.fr hF167 (by intro b hb hz; have := own_ge hO_155 (Nat.le_refl _) b hb; (try dsimp only at hz); omega)
        have hS143_171 := hS143_159.fr hF167 (by intro b hb hz; have := own_ge hO_155 (Nat.le_refl _) b hb; (try dsimp only at hz); omega)
        have hE140_172 := hE140_160.fr hF167 (by first | exact own_notin hO_155 (by omega) | exact own_notin2 hO_66 (by omega))
        have hE149_173 := hE149_161.fr hF167 (by first | exact own_notin hO_155 (by omega) | exact own_notin2 hO_66 (by omega))
        have hO166 := hO166z.zone (Z' := NoZ) (fun _ _ q => q.1) (fun _ _ q => q)
        refine V.pt h162 fun a h174 => ?_
        refine V.re h174 [] 1 0 [(4, .slice A163 (((((at_ (Rp.slice Rp.str) ls 0).take k).filter fun x => allB ls x ls.length).length) + 1) c164)] fun a h175 => ?_
        refine V.blk_n ?_
        refine V.then_n (k54 _ _ ?_)
        refine V.rr h175 [(1, .i ((k : Int) + 1))] 22 23 [(5, .int .i64 ((k : Int) + 1))] fun a h176 => ?_
        refine V.then_n ?_
        have hbl := B_len (ls := ls) (x := (at_ Rp.str (at_ (Rp.slice Rp.str) ls 0) (k : Int))) (j := j) (by omega)
        have hqs : (((at_ (Rp.slice Rp.str) ls 0).take (k + 1)).filter fun x => allB ls x ls.length) = (((at_ (Rp.slice Rp.str) ls 0).take k).filter fun x => allB ls x ls.length) ++ [(at_ Rp.str (at_ (Rp.slice Rp.str) ls (0 : Int)) (k : Int))] := by
          rw [take_one (by omega), List.filter_append]
          have hkk := ht134
          rw [hbl.1] at hkk
          (try simp at hkk)
          simp [hkk]
        refine ⟨k + 1, A163, c164, by omega, ?_⟩
        refine ⟨((h176.eq 4 (v := (.slice A163 (((((at_ (Rp.slice Rp.str) ls 0).take k).filter fun x => allB ls x ls.length).length) + 1) c164)) (u := (.slice A163 ((((at_ (Rp.slice Rp.str) ls 0).take (k + 1)).filter fun x => allB ls x ls.length).length) c164)) (V.sl_eq (by rw [hqs]; simp))).eq 5 (v := (.int .i64 ((k : Int) + 1))) (u := (.int .i64 ((k + 1) : Int))) (V.int_eq (by omega))).only _, (by rw [hqs]; simpa using hO166), hF_168, hL_169, (by omega)⟩
       ·
        refine V.skip ?_
        refine V.blk_n ?_
        refine V.then_n (k54 _ _ ?_)
        refine V.rr h133 [(1, .i ((k : Int) + 1))] 22 23 [(5, .int .i64 ((k : Int) + 1))] fun a h177 => ?_
        refine V.then_n ?_
        have hbl := B_len (ls := ls) (x := (at_ Rp.str (at_ (Rp.slice Rp.str) ls 0) (k : Int))) (j := j) (by omega)
        have hqs : (((at_ (Rp.slice Rp.str) ls 0).take (k + 1)).filter fun x => allB ls x ls.length) = (((at_ (Rp.slice Rp.str) ls 0).take k).filter fun x => allB ls x ls.length) := by
          rw [take_one (by omega), List.filter_append]
          have hkk := ht134
          rw [hbl.1] at hkk
          (try simp at hkk)
          simp [hkk]
        refine ⟨k + 1, A2, c2, by omega, ?_⟩
        refine ⟨((h177.eq 4 (v := (.slice A2 ((((at_ (Rp.slice Rp.str) ls 0).take k).filter fun x => allB ls x ls.length).length) c2)) (u := (.slice A2 ((((at_ (Rp.slice Rp.str) ls 0).take (k + 1)).filter fun x => allB ls x ls.length).length) c2)) (V.sl_eq (by rw [hqs]))).eq 5 (v := (.int .i64 ((k : Int) + 1))) (u := (.int .i64 ((k + 1) : Int))) (V.int_eq (by omega))).only _, (by rw [hqs]; exact hO_66), hF_67, hL_68, (by omega)⟩
    ·
     refine V.exit ?_
     refine V.then_e ?_
     refine V.then_e ?_
     refine V.blk_hit ?_
     refine V.then_n (k24 _ _ ?_)
     refine V.sr h51 [] 54 54 [(2, .slice A2 ((((at_ (Rp.slice Rp.str) ls 0).take k).filter fun x => allB ls x ls.length).length) c2), (3, .int .i64 0)] fun a h180 => ?_
     refine V.ret ?_
     refine V.r2 h180 (.slice A2 ((((at_ (Rp.slice Rp.str) ls 0).take k).filter fun x => allB ls x ls.length).length) c2) (.int .i64 0) ?_
     rcases chkL_cases ls with ⟨hz0, hzi⟩ | ⟨hz0, hzi⟩
     · have hkH : (at_ (Rp.slice Rp.str) ls 0).length ≤ k := by first | omega | (have hl0 : ls.length = 0 := (by omega); have hl2 : (at_ (Rp.slice Rp.str) ls 0).length = 0 := congrArg List.length (hdR_nil hl0); omega)
       rw [List.take_of_length_le hkH] at hO_31 ⊢
       rw [show meS ls = _ from if_pos hzi, hz0]; exact ⟨_, _, rfl, hO_31, hF_32⟩
     · exact absurd hall0 hzi
   ·
    have h181 := h39.kf 14 hg40
    refine V.re h181 [] 15 20 [(21, .bool false)] fun a h182 => k38 _ _ ?_
    refine V.cf h182 ?_
    refine V.exit ?_
    refine V.then_e ?_
    refine V.then_e ?_
    refine V.blk_hit ?_
    refine V.then_n (k24 _ _ ?_)
    refine V.sr h182 [] 54 54 [(2, .slice A2 ((((at_ (Rp.slice Rp.str) ls 0).take k).filter fun x => allB ls x ls.length).length) c2), (3, .int .i64 0)] fun a h185 => ?_
    refine V.ret ?_
    refine V.r2 h185 (.slice A2 ((((at_ (Rp.slice Rp.str) ls 0).take k).filter fun x => allB ls x ls.length).length) c2) (.int .i64 0) ?_
    rcases chkL_cases ls with ⟨hz0, hzi⟩ | ⟨hz0, hzi⟩
    · have hkH : (at_ (Rp.slice Rp.str) ls 0).length ≤ k := by first | omega | (have hl0 : ls.length = 0 := (by omega); have hl2 : (at_ (Rp.slice Rp.str) ls 0).length = 0 := congrArg List.length (hdR_nil hl0); omega)
      rw [List.take_of_length_le hkH] at hO_31 ⊢
      rw [show meS ls = _ from if_pos hzi, hz0]; exact ⟨_, _, rfl, hO_31, hF_32⟩
    · exact absurd hall0 hzi
set_option maxHeartbeats 4000000 in
set_option maxRecDepth 20000 in
theorem rless_any (w : World) (A : Option Addr) (c : Nat) (ls : List (List ByteArray)) (hL : SlR (Rp.slice Rp.str) (fun k => k < w.heap.size) w (.slice A ls.length c) ls) (hf : ls.flatten.length ≤ 1048576) : Calls Try.prog 34 #[.slice A ls.length c] w (fun e w' => ∃ A' c', e = .returned (.tuple #[.slice A' (leS ls).length c', .int .i64 (chkL ls)]) ∧ OwR Rp.str NoZ w' w.heap.size 9 (.slice A' (leS ls).length c') (leS ls) ∧ Fr [] w w') := by
 have hF := Fr.refl [] w
 have hlen0 := hL.len_le
 refine V.en 56 Try.func34 fun a h1 => ?_
 refine V.sr h1 [] 2 3 [] fun a h4 => ?_
 refine V.seq fun K5 k6 => ?_
 refine V.sg fun K7 k8 => ?_
 refine V.run h4 [] 1 1 0 [(8, .slice A ls.length c)] fun a h9 => ?_
 refine V.cl h9 (Go.Proofs.enters_of Try.func46 (by kernel_rfl) rfl) (rsets_any w _ _ ls hL.old) ?_
 rintro _ w11 ⟨rfl, hF10⟩
 refine ⟨_, rfl, fun a h12 => ?_⟩
 have hsw11 := hF10.size
 have hF_13 := hF.new hF10
 have hL_14 := hL.fr0 hF10
 refine V.re h12 [(0, .q (.bool (decide (¬ (∀ l ∈ ls, Inc l)))) V.t_not)] 1 0 [(10, .bool (decide (¬ (∀ l ∈ ls, Inc l))))] fun a h15 => k8 _ _ ?_
 refine V.cp h15 (¬ (∀ l ∈ ls, Inc l)) (fun ht16 => ?_) (fun ht16 => ?_)
 ·
  refine V.sr h15 [] 1 0 [(2, .slice none 0 0), (3, .int .i64 80)] fun a h19 => ?_
  refine V.ret ?_
  refine V.then_r ?_
  refine V.r2 h19 (.slice none 0 0) (.int .i64 80) ?_
  rcases chkL_cases ls with ⟨hz0, hzi⟩ | ⟨hz0, hzi⟩
  · exact absurd hzi ht16
  · rw [show leS ls = [] from if_neg hzi, hz0]; exact ⟨none, 0, rfl, OwR.nil .., hF_13⟩
 ·
  refine V.skip ?_
  refine V.then_n (k6 _ _ ?_)
  refine V.seq fun K20 k21 => ?_
  have hall0 : ∀ l ∈ ls, Inc l := (Decidable.of_not_not ht16)
  refine V.rr h15 [] 1 0 [(4, .slice none 0 0)] fun a h22 => ?_
  refine V.then_n (k21 _ _ ?_)
  refine V.seq fun K23 k24 => ?_
  refine V.sr h22 [] 1 0 [(5, .int .i64 0)] fun a h27 => ?_
  refine V.block ?_
  refine V.loop3 (fun (k : Nat) (A2 : Option Addr) (c2 : Nat) a_ w_ => En 56 [] a_ [(0, .slice A ls.length c), (4, .slice A2 ((((at_ (Rp.slice Rp.str) ls 0).take k).filter fun x => !anyB ls x ls.length).length) c2), (5, .int .i64 (k : Int))] ∧ OwR Rp.str NoZ w_ w.heap.size 9 (.slice A2 ((((at_ (Rp.slice Rp.str) ls 0).take k).filter fun x => !anyB ls x ls.length).length) c2) (((at_ (Rp.slice Rp.str) ls 0).take k).filter fun x => !anyB ls x ls.length) ∧ Fr [] w w_ ∧ SlR (Rp.slice Rp.str) (fun k => k < w.heap.size) w_ (.slice A ls.length c) ls ∧ (k ≤ (at_ (Rp.slice Rp.str) ls 0).length)) (fun (k : Nat) (A2 : Option Addr) (c2 : Nat) => (at_ (Rp.slice Rp.str) ls 0).length - k) 0 none 0 ?_ ?_
  ·
   refine ⟨((h27.eq 4 (v := (.slice none 0 0)) (u := (.slice none ((((at_ (Rp.slice Rp.str) ls 0).take 0).filter fun x => !anyB ls x ls.length).length) 0)) (rfl)).eq 5 (v := (.int .i64 0)) (u := (.int .i64 (0 : Int))) (V.int_eq (by omega))).only _, (OwR.nil ..), hF_13, hL_14, (by omega)⟩
  ·
   rintro k A2 c2 a28 w29 ⟨h30, hO_31, hF_32, hL_33, hk⟩
   have hfs34 := hF_32.size
   have hfl := List.length_filter_le (fun x => !anyB ls x ls.length) ((at_ (Rp.slice Rp.str) ls 0).take k)
   have htl := List.length_take_le k (at_ (Rp.slice Rp.str) ls 0)
   have hhl := hd_le ls
   have hhl : (at_ (Rp.slice Rp.str) ls 0).length ≤ _ := hhl
   refine V.seq fun K35 k36 => ?_
   refine V.sg fun K37 k38 => ?_
   refine V.run h30 [] 4 11 13 [(14, .bool (decide (((ls.length : Nat) : Int) > 0)))] fun a h39 => ?_
   by_cases hg40 : ((ls.length : Nat) : Int) > 0
   ·
    have h41 := h39.kt 14 hg40
    obtain ⟨g42, o43, hA44, hA44l, hA44z⟩ := hL_33.addr (by omega)
    obtain ⟨cs45, hok46, hE47⟩ := hL_33.els hA44 (0 : Int) (by omega) (by omega)
    obtain ⟨A48, c49, rfl, hS50⟩ := slice_open hok46
    refine V.re h41 [(2, .ix g42 o43 ls.length c .i64 0 1 hA44), (0, .l ⟨g42, o43 + (0 : Int).toNat * 1, none⟩ (.slice A48 ((at_ (Rp.slice Rp.str) ls (0 : Int)).length) c49) (hE47.at 0 rfl))] 15 20 [(21, .bool (decide ((k : Int) < (((at_ (Rp.slice Rp.str) ls (0 : Int)).length : Nat) : Int))))] fun a h51 => k38 _ _ ?_
    refine V.cp h51 ((k : Int) < (((at_ (Rp.slice Rp.str) ls (0 : Int)).length : Nat) : Int)) (fun ht52 => ?_) (fun ht52 => ?_)
    ·
     refine V.skip ?_
     refine V.then_n (k36 _ _ ?_)
     refine V.seq fun K53 k54 => ?_
     refine V.block ?_
     refine V.sr h51 [] 1 0 [(6, .bool false)] fun a h57 => ?_
     refine V.seq fun K58 k59 => ?_
     refine V.sr h57 [] 1 0 [(7, .int .i64 1)] fun a h62 => ?_
     refine V.block ?_
     refine V.loop1 (fun (j : Nat) a_ w_ => En 56 [] a_ [(0, .slice A ls.length c), (4, .slice A2 ((((at_ (Rp.slice Rp.str) ls 0).take k).filter fun x => !anyB ls x ls.length).length) c2), (5, .int .i64 (k : Int)), (6, .bool (anyB ls (at_ Rp.str (at_ (Rp.slice Rp.str) ls 0) (k : Int)) j)), (7, .int .i64 (j : Int))] ∧ OwR Rp.str NoZ w_ w.heap.size 9 (.slice A2 ((((at_ (Rp.slice Rp.str) ls 0).take k).filter fun x => !anyB ls x ls.length).length) c2) (((at_ (Rp.slice Rp.str) ls 0).take k).filter fun x => !anyB ls x ls.length) ∧ Fr [] w w_ ∧ SlR (Rp.slice Rp.str) (fun k => k < w.heap.size) w_ (.slice A ls.length c) ls ∧ SlR Rp.str (fun k => k < w.heap.size) w_ (.slice A48 ((at_ (Rp.slice Rp.str) ls (0 : Int)).length) c49) (at_ (Rp.slice Rp.str) ls (0 : Int)) ∧ (1 ≤ j ∧ j ≤ ls.length)) (fun (j : Nat) => ls.length - j) 1 ?_ ?_
     ·
      refine ⟨((h62.eq 6 (v := (.bool false)) (u := (.bool (anyB ls (at_ Rp.str (at_ (Rp.slice Rp.str) ls 0) (k : Int)) 1))) (congrArg Value.bool (anyB_1 ls (at_ Rp.str (at_ (Rp.slice Rp.str) ls 0) (k : Int))))).eq 7 (v := (.int .i64 1)) (u := (.int .i64 (1 : Int))) (V.int_eq (by omega))).only _, hO_31, hF_32, hL_33, hS50, (by omega)⟩
     ·
      rintro j a63 w64 ⟨h65, hO_66, hF_67, hL_68, hS50_69, hj⟩
      have hfs70 := hF_67.size
      refine V.seq fun K71 k72 => ?_
      refine V.sr h65 [] 24 26 [(27, .bool (decide ((j : Int) < ((ls.length : Nat) : Int))))] fun a h75 => ?_
      refine V.cp h75 ((j : Int) < ((ls.length : Nat) : Int)) (fun ht76 => ?_) (fun ht76 => ?_)
      ·
       refine V.skip ?_
       refine V.then_n (k72 _ _ ?_)
       refine V.seq fun K77 k78 => ?_
       refine V.block ?_
       refine V.pl [([0,1,2,3,4,5,6,7,8,9,10,11],some (12,[])),([13,14],none)] fun w79 hF80 hsw79 => ?_
       have hO_81 := hO_66.fr0 hF80
       have hF_82 := hF_67.new hF80
       have hL_83 := hL_68.fr0 hF80
       have hS50_84 := hS50_69.fr0 hF80
       refine V.pe0 ?_
       refine V.run h75 [] 2 30 30 [(31, .bool (anyB ls (at_ Rp.str (at_ (Rp.slice Rp.str) ls 0) (k : Int)) j))] fun a h85 => ?_
       by_cases hg86 : (anyB ls (at_ Rp.str (at_ (Rp.slice Rp.str) ls 0) (k : Int)) j) = true
       ·
        have h87 := h85.kbt 6 hg86
        have h88 := h87.kbt 31 hg86
        refine V.se h88 [] 32 40 [(35, undef), (41, undef)] fun a h89 => ?_
        refine V.run h89 [] 1 1 0 [(42, undef)] fun a h90 => ?_
        refine V.eh trivial ?_
        refine V.pz h90 [] 43 43 [(6, .bool true)] fun a h91 => ?_
        refine V.blk_n ?_
        refine V.then_n (k78 _ _ ?_)
        refine V.rr h91 [(1, .i ((j : Int) + 1))] 28 29 [(7, .int .i64 ((j : Int) + 1))] fun a h92 => ?_
        refine V.then_n ?_
        refine ⟨j + 1, by omega, ?_⟩
        refine ⟨((h92.eq 6 (v := (.bool true)) (u := (.bool (anyB ls (at_ Rp.str (at_ (Rp.slice Rp.str) ls 0) (k : Int)) (j + 1)))) (congrArg Value.bool (anyB_yes (by omega) (by omega) hg86))).eq 7 (v := (.int .i64 ((j : Int) + 1))) (u := (.int .i64 ((j + 1) : Int))) (V.int_eq (by omega))).only _, hO_81, hF_82, hL_83, hS50_84, (by omega)⟩
       ·
        have h93 := h85.kbf 6 hg86
        have h94 := h93.kbf 31 hg86
        obtain ⟨g95, o96, hA97, hA97l, hA97z⟩ := hL_83.addr (by omega)
        obtain ⟨cs98, hok99, hE100⟩ := hL_83.els hA97 (j : Int) (by omega) (by omega)
        obtain ⟨A101, c102, rfl, hS103⟩ := slice_open hok99
        obtain ⟨cs104, hok105, hE106⟩ := hL_83.els hA97 (0 : Int) (by omega) (by omega)
        obtain ⟨A107, c108, rfl, hS109⟩ := slice_open hok105
        obtain ⟨g110, o111, hA112, hA112l, hA112z⟩ := hS109.addr (by omega)
        obtain ⟨cs113, hok114, hE115⟩ := hS109.els hA112 (k : Int) (by omega) (by omega)
        obtain rfl : cs113 = [.string (at_ Rp.str (at_ (Rp.slice Rp.str) ls (0 : Int)) (k : Int))] := hok114
        refine V.se h94 [(2, .ix g95 o96 ls.length c .i64 (j : Int) 1 hA97), (0, .l ⟨g95, o96 + (j : Int).toNat * 1, none⟩ (.slice A101 ((at_ (Rp.slice Rp.str) ls (j : Int)).length) c102) (hE100.at 0 rfl)), (1, .ix g95 o96 ls.length c .i64 0 1 hA97), (0, .l ⟨g95, o96 + (0 : Int).toNat * 1, none⟩ (.slice A107 ((at_ (Rp.slice Rp.str) ls (0 : Int)).length) c108) (hE106.at 0 rfl)), (1, .ix g110 o111 ((at_ (Rp.slice Rp.str) ls (0 : Int)).length) c108 .i64 (k : Int) 1 hA112), (0, .l ⟨g110, o111 + (k : Int).toNat * 1, none⟩ (.string (at_ Rp.str (at_ (Rp.slice Rp.str) ls (0 : Int)) (k : Int))) (hE115.at 0 rfl))] 32 40 [(35, .slice A101 ((at_ (Rp.slice Rp.str) ls (j : Int)).length) c102), (41, .string (at_ Rp.str (at_ (Rp.slice Rp.str) ls (0 : Int)) (k : Int)))] fun a h116 => ?_
        refine V.clg h116 (Go.Proofs.enters_of Try.func14 (by kernel_rfl) rfl) (in_any w79 A101 c102 (at_ (Rp.slice Rp.str) ls (j : Int)) hS103.old (at_ Rp.str (at_ (Rp.slice Rp.str) ls (0 : Int)) (k : Int))) ?_
        rintro _ w118 ⟨rfl, hF117⟩
        refine ⟨_, rfl, fun a h119 => ?_⟩
        have hsw118 := hF117.size
        have hO_120 := hO_81.fr0 hF117
        have hF_121 := hF_82.new hF117
        have hL_122 := hL_83.fr0 hF117
        have hS50_123 := hS50_84.fr0 hF117
        have hS103_124 := hS103.fr0 hF117
        have hE100_125 := hE100.fr0 hF117
        have hS109_126 := hS109.fr0 hF117
        have hE106_127 := hE106.fr0 hF117
        have hE115_128 := hE115.fr0 hF117
        refine V.eh trivial ?_
        refine V.pz h119 [] 43 43 [(6, .bool (decide ((at_ Rp.str (at_ (Rp.slice Rp.str) ls (0 : Int)) (k : Int)) ∈ (at_ (Rp.slice Rp.str) ls (j : Int)))))] fun a h129 => ?_
        refine V.blk_n ?_
        refine V.then_n (k78 _ _ ?_)
        refine V.rr h129 [(1, .i ((j : Int) + 1))] 28 29 [(7, .int .i64 ((j : Int) + 1))] fun a h130 => ?_
        refine V.then_n ?_
        refine ⟨j + 1, by omega, ?_⟩
        refine ⟨((h130.eq 6 (v := (.bool (decide ((at_ Rp.str (at_ (Rp.slice Rp.str) ls (0 : Int)) (k : Int)) ∈ (at_ (Rp.slice Rp.str) ls (j : Int)))))) (u := (.bool (anyB ls (at_ Rp.str (at_ (Rp.slice Rp.str) ls 0) (k : Int)) (j + 1)))) (congrArg Value.bool (anyB_no (by omega) (by omega) hg86))).eq 7 (v := (.int .i64 ((j : Int) + 1))) (u := (.int .i64 ((j + 1) : Int))) (V.int_eq (by omega))).only _, hO_120, hF_121, hL_122, hS50_123, (by omega)⟩
      ·
       refine V.exit ?_
       refine V.then_e ?_
       refine V.then_e ?_
       refine V.blk_hit ?_
       refine V.then_n (k59 _ _ ?_)
       refine V.sr h75 [] 44 44 [(45, .bool (!(anyB ls (at_ Rp.str (at_ (Rp.slice Rp.str) ls 0) (k : Int)) j)))] fun a h133 => ?_
       refine V.cb h133 (!(anyB ls (at_ Rp.str (at_ (Rp.slice Rp.str) ls 0) (k : Int)) j)) (fun ht134 => ?_) (fun ht134 => ?_)
       ·
        obtain ⟨g135, o136, hA137, hA137l, hA137z⟩ := hL_68.addr (by omega)
        obtain ⟨cs138, hok139, hE140⟩ := hL_68.els hA137 (0 : Int) (by omega) (by omega)
        obtain ⟨A141, c142, rfl, hS143⟩ := slice_open hok139
        obtain ⟨g144, o145, hA146, hA146l, hA146z⟩ := hS143.addr (by omega)
        obtain ⟨cs147, hok148, hE149⟩ := hS143.els hA146 (k : Int) (by omega) (by omega)
        obtain rfl : cs147 = [.string (at_ Rp.str (at_ (Rp.slice Rp.str) ls (0 : Int)) (k : Int))] := hok148
        refine V.rg ?_
        refine V.run h133 [(2, .ix g135 o136 ls.length c .i64 0 1 hA137), (0, .l ⟨g135, o136 + (0 : Int).toNat * 1, none⟩ (.slice A141 ((at_ (Rp.slice Rp.str) ls (0 : Int)).length) c142) (hE140.at 0 rfl)), (1, .ix g144 o145 ((at_ (Rp.slice Rp.str) ls (0 : Int)).length) c142 .i64 (k : Int) 1 hA146), (0, .l ⟨g144, o145 + (k : Int).toNat * 1, none⟩ (.string (at_ Rp.str (at_ (Rp.slice Rp.str) ls (0 : Int)) (k : Int))) (hE149.at 0 rfl))] 7 47 51 [(46, .slice A2 ((((at_ (Rp.slice Rp.str) ls 0).take k).filter fun x => !anyB ls x ls.length).length) c2), (52, .string (at_ Rp.str (at_ (Rp.slice Rp.str) ls (0 : Int)) (k : Int)))] fun a h150 => ?_
        refine V.go (V.mk [(52, .string (at_ Rp.str (at_ (Rp.slice Rp.str) ls (0 : Int)) (k : Int)))] ⟨h150.e, trivial⟩ (by kernel_rfl) [.string (at_ Rp.str (at_ (Rp.slice Rp.str) ls (0 : Int)) (k : Int))] 9 (fun b => .slice (some ⟨b, 0, none⟩) 1 1) (by kernel_rfl) ?_)
        intro w152 b151 heb151 hB153 hF154 hsb151
        have hO_155 := hO_66.fr0 hF154
        have hF_156 := hF_67.new hF154
        have hL_157 := hL_68.fr0 hF154
        have hS50_158 := hS50_69.fr0 hF154
        have hS143_159 := hS143.fr0 hF154
        have hE140_160 := hE140.fr0 hF154
        have hE149_161 := hE149.fr0 hF154
        refine V.pt h150 fun a h162 => ?_
        refine V.go (V.app (R := Rp.str) (ys := ([(at_ Rp.str (at_ (Rp.slice Rp.str) ls (0 : Int)) (k : Int))])) (news := [.string (at_ Rp.str (at_ (Rp.slice Rp.str) ls (0 : Int)) (k : Int))]) (h162.e (v := (.slice A2 ((((at_ (Rp.slice Rp.str) ls 0).take k).filter fun x => !anyB ls x ls.length).length) c2))) ⟨b151, 0, none⟩ 1 1 (h162.e (v := (.slice (some ⟨b151, 0, none⟩) 1 1))) (by kernel_rfl) (info9) (by kernel_rfl) (by decide) hO_155 rfl ⟨_, [], rfl, rfl, rfl⟩ (blk_cells hB153 0 _ rfl) (by first | omega | (simp; omega)) (by decide) (by omega) ?_)
        intro A163 c164 w165 hO166z hF167 hatw165
        have hsw165 := hF167.size
        have hF_168 := hF_156.own hF167 (own_ge hO_155 (by omega))
        have hL_169 := hL_157.fr hF167 (by intro b hb hz; have := own_ge hO_155 (Nat.le_refl _) b hb; (try dsimp only at hz); omega)
        have hS50_170 := hS50_158.fr hF167 (by intro b hb hz; have := own_ge hO_155 (Nat.le_refl _) b hb; (try dsimp only at hz); omega)
        have hS143_171 := hS143_159.fr hF167 (by intro b hb hz; have := own_ge hO_155 (Nat.le_refl _) b hb; (try dsimp only at hz); omega)
        have hE140_172 := hE140_160.fr hF167 (by first | exact own_notin hO_155 (by omega) | exact own_notin2 hO_66 (by omega))
        have hE149_173 := hE149_161.fr hF167 (by first | exact own_notin hO_155 (by omega) | exact own_notin2 hO_66 (by omega))
        have hO166 := hO166z.zone (Z' := NoZ) (fun _ _ q => q.1) (fun _ _ q => q)
        refine V.pt h162 fun a h174 => ?_
        refine V.re h174 [] 1 0 [(4, .slice A163 (((((at_ (Rp.slice Rp.str) ls 0).take k).filter fun x => !anyB ls x ls.length).length) + 1) c164)] fun a h175 => ?_
        refine V.blk_n ?_
        refine V.then_n (k54 _ _ ?_)
        refine V.rr h175 [(1, .i ((k : Int) + 1))] 22 23 [(5, .int .i64 ((k : Int) + 1))] fun a h176 => ?_
        refine V.then_n ?_
        have hbl := B_len (ls := ls) (x := (at_ Rp.str (at_ (Rp.slice Rp.str) ls 0) (k : Int))) (j := j) (by omega)
        have hqs : (((at_ (Rp.slice Rp.str) ls 0).take (k + 1)).filter fun x => !anyB ls x ls.length) = (((at_ (Rp.slice Rp.str) ls 0).take k).filter fun x => !anyB ls x ls.length) ++ [(at_ Rp.str (at_ (Rp.slice Rp.str) ls (0 : Int)) (k : Int))] := by
          rw [take_one (by omega), List.filter_append]
          have hkk := ht134
          rw [hbl.2] at hkk
          (try simp at hkk)
          simp [hkk]
        refine ⟨k + 1, A163, c164, by omega, ?_⟩
        refine ⟨((h176.eq 4 (v := (.slice A163 (((((at_ (Rp.slice Rp.str) ls 0).take k).filter fun x => !anyB ls x ls.length).length) + 1) c164)) (u := (.slice A163 ((((at_ (Rp.slice Rp.str) ls 0).take (k + 1)).filter fun x => !anyB ls x ls.length).length) c164)) (V.sl_eq (by rw [hqs]; simp))).eq 5 (v := (.int .i64 ((k : Int) + 1))) (u := (.int .i64 ((k + 1) : Int))) (V.int_eq (by omega))).only _, (by rw [hqs]; simpa using hO166), hF_168, hL_169, (by omega)⟩
       ·
        refine V.skip ?_
        refine V.blk_n ?_
        refine V.then_n (k54 _ _ ?_)
        refine V.rr h133 [(1, .i ((k : Int) + 1))] 22 23 [(5, .int .i64 ((k : Int) + 1))] fun a h177 => ?_
        refine V.then_n ?_
        have hbl := B_len (ls := ls) (x := (at_ Rp.str (at_ (Rp.slice Rp.str) ls 0) (k : Int))) (j := j) (by omega)
        have hqs : (((at_ (Rp.slice Rp.str) ls 0).take (k + 1)).filter fun x => !anyB ls x ls.length) = (((at_ (Rp.slice Rp.str) ls 0).take k).filter fun x => !anyB ls x ls.length) := by
          rw [take_one (by omega), List.filter_append]
          have hkk := ht134
          rw [hbl.2] at hkk
          (try simp at hkk)
          simp [hkk]
        refine ⟨k + 1, A2, c2, by omega, ?_⟩
        refine ⟨((h177.eq 4 (v := (.slice A2 ((((at_ (Rp.slice Rp.str) ls 0).take k).filter fun x => !anyB ls x ls.length).length) c2)) (u := (.slice A2 ((((at_ (Rp.slice Rp.str) ls 0).take (k + 1)).filter fun x => !anyB ls x ls.length).length) c2)) (V.sl_eq (by rw [hqs]))).eq 5 (v := (.int .i64 ((k : Int) + 1))) (u := (.int .i64 ((k + 1) : Int))) (V.int_eq (by omega))).only _, (by rw [hqs]; exact hO_66), hF_67, hL_68, (by omega)⟩
    ·
     refine V.exit ?_
     refine V.then_e ?_
     refine V.then_e ?_
     refine V.blk_hit ?_
     refine V.then_n (k24 _ _ ?_)
     refine V.sr h51 [] 55 55 [(2, .slice A2 ((((at_ (Rp.slice Rp.str) ls 0).take k).filter fun x => !anyB ls x ls.length).length) c2), (3, .int .i64 0)] fun a h180 => ?_
     refine V.ret ?_
     refine V.r2 h180 (.slice A2 ((((at_ (Rp.slice Rp.str) ls 0).take k).filter fun x => !anyB ls x ls.length).length) c2) (.int .i64 0) ?_
     rcases chkL_cases ls with ⟨hz0, hzi⟩ | ⟨hz0, hzi⟩
     · have hkH : (at_ (Rp.slice Rp.str) ls 0).length ≤ k := by first | omega | (have hl0 : ls.length = 0 := (by omega); have hl2 : (at_ (Rp.slice Rp.str) ls 0).length = 0 := congrArg List.length (hdR_nil hl0); omega)
       rw [List.take_of_length_le hkH] at hO_31 ⊢
       rw [show leS ls = _ from if_pos hzi, hz0]; exact ⟨_, _, rfl, hO_31, hF_32⟩
     · exact absurd hall0 hzi
   ·
    have h181 := h39.kf 14 hg40
    refine V.re h181 [] 15 20 [(21, .bool false)] fun a h182 => k38 _ _ ?_
    refine V.cf h182 ?_
    refine V.exit ?_
    refine V.then_e ?_
    refine V.then_e ?_
    refine V.blk_hit ?_
    refine V.then_n (k24 _ _ ?_)
    refine V.sr h182 [] 55 55 [(2, .slice A2 ((((at_ (Rp.slice Rp.str) ls 0).take k).filter fun x => !anyB ls x ls.length).length) c2), (3, .int .i64 0)] fun a h185 => ?_
    refine V.ret ?_
    refine V.r2 h185 (.slice A2 ((((at_ (Rp.slice Rp.str) ls 0).take k).filter fun x => !anyB ls x ls.length).length) c2) (.int .i64 0) ?_
    rcases chkL_cases ls with ⟨hz0, hzi⟩ | ⟨hz0, hzi⟩
    · have hkH : (at_ (Rp.slice Rp.str) ls 0).length ≤ k := by first | omega | (have hl0 : ls.length = 0 := (by omega); have hl2 : (at_ (Rp.slice Rp.str) ls 0).length = 0 := congrArg List.length (hdR_nil hl0); omega)
      rw [List.take_of_length_le hkH] at hO_31 ⊢
      rw [show leS ls = _ from if_pos hzi, hz0]; exact ⟨_, _, rfl, hO_31, hF_32⟩
    · exact absurd hall0 hzi
end Go.Proofs.Ytkepojdmgdgaoaa
