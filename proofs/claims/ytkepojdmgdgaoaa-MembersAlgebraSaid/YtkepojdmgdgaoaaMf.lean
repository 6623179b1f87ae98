/- Walks: Grow, Concat, Add. -/
import Derived.Test.YtkepojdmgdgaoaaProg
import Derived.Test.YtkepojdmgdgaoaaMb
import Derived.Test.YtkepojdmgdgaoaaAppZ
namespace Go.Proofs.Ytkepojdmgdgaoaa
open Go.V Go.Base
open Go.RowKit (Below)
attribute [local irreducible] Act.put Act.eval
set_option linter.unusedVariables false
set_option linter.unusedSimpArgs false
set_option maxHeartbeats 4000000 in
set_option maxRecDepth 20000 in
theorem grow_any (w : World) (n : Nat) (hn : n ≤ 1099511627776) : Calls Try.prog 55 #[.slice none 0 0, .int .i64 (n : Int)] w (fun e w' => ∃ A c, e = .returned (.slice A 0 c) ∧ OwR Rp.str NoZ w' w.heap.size 9 (.slice A 0 c) [] ∧ Fr [] w w') := by
 have hF := Fr.refl [] w
 refine V.en 27 Try.func55 fun a h1 => ?_
 refine V.sr h1 [] 4 4 [] fun a h4 => ?_
 refine V.seq fun K5 k6 => ?_
 refine V.sr h4 [] 5 5 [(6, .bool (decide ((n : Int) < 0)))] fun a h9 => ?_
 refine V.cp h9 ((n : Int) < 0) (fun ht10 => ?_) (fun ht10 => ?_)
 · exact absurd ht10 (by omega)
 ·
  refine V.skip ?_
  refine V.then_n (k6 _ _ ?_)
  refine V.seq fun K11 k12 => ?_
  refine V.sr h9 [(5, .i (0 - 0)), (0, .i ((n : Int) - (0 - 0)))] 8 14 [(1, .int .i64 ((n : Int) - (0 - 0)))] fun a h15 => ?_
  refine V.sr h15 [] 15 15 [(16, .bool (decide (((n : Int) - (0 - 0)) > 0)))] fun a h18 => ?_
  refine V.cp h18 (((n : Int) - (0 - 0)) > 0) (fun ht19 => ?_) (fun ht19 => ?_)
  ·
   refine V.rg ?_
   refine V.run h18 [] 5 17 19 [(20, .slice none 0 0), (21, .int .i64 ((n : Int) - (0 - 0)))] fun a h25 => ?_
   refine V.go (V.appZ (R := Rp.str) (kn := .i64) (n := n) (h25.e (v := (.slice none 0 0))) ((h25.e (v := (.int .i64 ((n : Int) - (0 - 0))))).trans (V.int_eq (by omega))) (by kernel_rfl) (by kernel_rfl) info9 (by kernel_rfl) (by decide) (by omega) (by decide) (by omega) ?_)
   intro g20 c21 w22 hO23 hF24
   have hsw22 := hF24.size
   have hF_26 := hF.new hF24
   refine V.pt h25 fun a h27 => ?_
   refine V.re h27 [(2, .cut0 (some ⟨g20, 0, none⟩) n c21 0 0 1)] 23 25 [(0, .slice (some ⟨g20, 0, none⟩) 0 c21)] fun a h28 => k12 _ _ ?_
   refine V.sr h28 [] 26 26 [(4, .slice (some ⟨g20, 0, none⟩) 0 c21)] fun a h31 => ?_
   refine V.ret ?_
   refine V.r1 h31 (.slice (some ⟨g20, 0, none⟩) 0 c21) ?_
   exact ⟨_, _, rfl, hO23, hF_26⟩
  ·
   refine V.skip ?_
   refine V.then_n (k12 _ _ ?_)
   refine V.sr h18 [] 26 26 [(4, .slice none 0 0)] fun a h34 => ?_
   refine V.ret ?_
   refine V.r1 h34 (.slice none 0 0) ?_
   exact ⟨_, _, rfl, OwR.nil .., hF⟩
set_option maxHeartbeats 4000000 in
set_option maxRecDepth 20000 in
theorem concat_any (w : World) (A : Option Addr) (c : Nat) (ls : List (List ByteArray)) (hL : SlR (Rp.slice Rp.str) (fun k => k < w.heap.size) w (.slice A ls.length c) ls) (hf : ls.flatten.length ≤ 1099511627776) : Calls Try.prog 43 #[.slice A ls.length c] w (fun e w' => ∃ A' c', e = .returned (.slice A' ls.flatten.length c') ∧ OwR Rp.str NoZ w' w.heap.size 9 (.slice A' ls.flatten.length c') ls.flatten ∧ Fr [] w w') := by
 have hF := Fr.refl [] w
 have hlen0 := hL.len_le
 refine V.en 36 Try.func43 fun a h1 => ?_
 refine V.sr h1 [] 2 2 [] fun a h4 => ?_
 refine V.sr h4 [] 1 0 [(3, .int .i64 0)] fun a h7 => ?_
 refine V.seq fun K8 k9 => ?_
 refine V.sr h7 [] 1 0 [(9, .slice A ls.length c), (10, .int .i64 ((ls.length : Nat) : Int)), (11, .int .i64 0)] fun a h12 => ?_
 refine V.block ?_
 refine V.loop1 (fun (i : Nat) a_ w_ => En 36 [] a_ [(0, .slice A ls.length c), (3, .int .i64 (((ls.take i).flatten.length : Nat) : Int)), (9, .slice A ls.length c), (10, .int .i64 ((ls.length : Nat) : Int)), (11, .int .i64 (i : Int))] ∧ Fr [] w w_ ∧ SlR (Rp.slice Rp.str) (fun k => k < w.heap.size) w_ (.slice A ls.length c) ls ∧ (i ≤ ls.length)) (fun (i : Nat) => ls.length - i) 0 ?_ ?_
 ·
  refine ⟨((h12.eq 3 (v := (.int .i64 0)) (u := (.int .i64 (((ls.take 0).flatten.length : Nat) : Int))) (V.int_eq (by simp))).eq 11 (v := (.int .i64 0)) (u := (.int .i64 (0 : Int))) (V.int_eq (by omega))).only _, hF, hL, (by omega)⟩
 ·
  rintro i a13 w14 ⟨h15, hF_16, hL_17, hi⟩
  have hfs18 := hF_16.size
  have hft := flat_take_le ls (i + 1)
  have hft0 := flat_take_le ls i
  refine V.sr h15 [] 1 0 [(12, .bool (decide ((i : Int) < ((ls.length : Nat) : Int))))] fun a h21 => ?_
  refine V.seq fun K22 k23 => ?_
  refine V.cp h21 ((i : Int) < ((ls.length : Nat) : Int)) (fun ht24 => ?_) (fun ht24 => ?_)
  ·
   refine V.skip ?_
   refine V.then_n (k23 _ _ ?_)
   refine V.seq fun K25 k26 => ?_
   refine V.block ?_
   obtain ⟨g29, o30, hA31, hA31l, hA31z⟩ := hL_17.addr (by omega)
   obtain ⟨cs32, hok33, hE34⟩ := hL_17.els hA31 (i : Int) (by omega) (by omega)
   obtain ⟨A35, c36, rfl, hS37⟩ := slice_open hok33
   refine V.sr h21 [(0, .ix g29 o30 ls.length c .i64 (i : Int) 1 hA31), (0, .l ⟨g29, o30 + (i : Int).toNat * 1, none⟩ (.slice A35 ((at_ (Rp.slice Rp.str) ls (i : Int)).length) c36) (hE34.at 0 rfl))] 13 14 [(5, .slice A35 ((at_ (Rp.slice Rp.str) ls (i : Int)).length) c36)] fun a h38 => ?_
   refine V.seq fun K39 k40 => ?_
   have htk : (ls.take (i + 1)).flatten = (ls.take i).flatten ++ ls.getD i [] := flat_take (by omega)
   have hln : ((ls.take (i + 1)).flatten).length = ((ls.take i).flatten).length + (at_ (Rp.slice Rp.str) ls (i : Int)).length := by rw [htk, List.length_append]; rfl
   refine V.rr h38 [(3, .i ((((ls.take i).flatten.length : Nat) : Int) + (((at_ (Rp.slice Rp.str) ls (i : Int)).length : Nat) : Int)))] 15 18 [(3, .int .i64 ((((ls.take i).flatten.length : Nat) : Int) + (((at_ (Rp.slice Rp.str) ls (i : Int)).length : Nat) : Int)))] fun a h41 => ?_
   refine V.then_n (k40 _ _ ?_)
   refine V.sr h41 [] 19 19 [(20, .bool (decide (((((ls.take i).flatten.length : Nat) : Int) + (((at_ (Rp.slice Rp.str) ls (i : Int)).length : Nat) : Int)) < 0)))] fun a h44 => ?_
   refine V.cp h44 (((((ls.take i).flatten.length : Nat) : Int) + (((at_ (Rp.slice Rp.str) ls (i : Int)).length : Nat) : Int)) < 0) (fun ht45 => ?_) (fun ht45 => ?_)
   · exact absurd ht45 (by omega)
   ·
    refine V.skip ?_
    refine V.blk_n ?_
    refine V.then_n (k26 _ _ ?_)
    refine V.rr h44 [(0, .i ((i : Int) + 1))] 22 22 [(11, .int .i64 ((i : Int) + 1))] fun a h46 => ?_
    refine V.then_n ?_
    refine ⟨i + 1, by omega, ?_⟩
    refine ⟨((h46.eq 3 (v := (.int .i64 ((((ls.take i).flatten.length : Nat) : Int) + (((at_ (Rp.slice Rp.str) ls (i : Int)).length : Nat) : Int)))) (u := (.int .i64 (((ls.take (i + 1)).flatten.length : Nat) : Int))) (V.int_eq (by omega))).eq 11 (v := (.int .i64 ((i : Int) + 1))) (u := (.int .i64 ((i + 1) : Int))) (V.int_eq (by omega))).only _, hF_16, hL_17, (by omega)⟩
  ·
   refine V.exit ?_
   refine V.then_e ?_
   refine V.then_e ?_
   refine V.blk_hit ?_
   refine V.then_n (k9 _ _ ?_)
   refine V.seq fun K47 k48 => ?_
   have hft9 := flat_take_le ls i
   refine V.rg ?_
   refine V.run h21 [] 1 1 0 [(23, .int .i64 (((ls.take i).flatten.length : Nat) : Int))] fun a h49 => ?_
   refine V.cl h49 (Go.Proofs.enters_of Try.func55 (by kernel_rfl) rfl) (grow_any w14 ((ls.take i).flatten.length) (by omega)) ?_
   rintro _ w54 ⟨A50, c51, rfl, hO52, hF53⟩
   refine ⟨_, rfl, fun a h55 => ?_⟩
   have hsw54 := hF53.size
   have hF_56 := hF_16.new hF53
   have hL_57 := hL_17.fr0 hF53
   have hO52q := hO52.rebase (base' := w.heap.size) (by omega)
   refine V.re h55 [] 1 0 [(6, .slice A50 0 c51)] fun a h58 => k48 _ _ ?_
   refine V.seq fun K59 k60 => ?_
   refine V.sr h58 [] 1 0 [(25, .slice A ls.length c), (26, .int .i64 ((ls.length : Nat) : Int)), (27, .int .i64 0)] fun a h63 => ?_
   refine V.block ?_
   refine V.loop3 (fun (i2 : Nat) (A2 : Option Addr) (c2 : Nat) a_ w_ => En 36 [] a_ [(6, .slice A2 ((ls.take i2).flatten.length) c2), (25, .slice A ls.length c), (26, .int .i64 ((ls.length : Nat) : Int)), (27, .int .i64 (i2 : Int))] ∧ OwR Rp.str NoZ w_ w.heap.size 9 (.slice A2 ((ls.take i2).flatten.length) c2) ((ls.take i2).flatten) ∧ Fr [] w w_ ∧ SlR (Rp.slice Rp.str) (fun k => k < w.heap.size) w_ (.slice A ls.length c) ls ∧ (i2 ≤ ls.length)) (fun (i2 : Nat) (A2 : Option Addr) (c2 : Nat) => ls.length - i2) 0 A50 c51 ?_ ?_
   ·
    refine ⟨((h63.eq 6 (v := (.slice A50 0 c51)) (u := (.slice A50 ((ls.take 0).flatten.length) c51)) (V.sl_eq (by simp))).eq 27 (v := (.int .i64 0)) (u := (.int .i64 (0 : Int))) (V.int_eq (by omega))).only _, (by simpa using hO52q), hF_56, hL_57, (by omega)⟩
   ·
    rintro i2 A2 c2 a64 w65 ⟨h66, hO_67, hF_68, hL_69, hi2⟩
    have hfs70 := hF_68.size
    have hft := flat_take_le ls (i2 + 1)
    have hft0 := flat_take_le ls i2
    refine V.sr h66 [] 1 0 [(28, .bool (decide ((i2 : Int) < ((ls.length : Nat) : Int))))] fun a h73 => ?_
    refine V.seq fun K74 k75 => ?_
    refine V.cp h73 ((i2 : Int) < ((ls.length : Nat) : Int)) (fun ht76 => ?_) (fun ht76 => ?_)
    ·
     refine V.skip ?_
     refine V.then_n (k75 _ _ ?_)
     refine V.seq fun K77 k78 => ?_
     refine V.block ?_
     obtain ⟨g81, o82, hA83, hA83l, hA83z⟩ := hL_69.addr (by omega)
     obtain ⟨cs84, hok85, hE86⟩ := hL_69.els hA83 (i2 : Int) (by omega) (by omega)
     obtain ⟨A87, c88, rfl, hS89⟩ := slice_open hok85
     refine V.sr h73 [(0, .ix g81 o82 ls.length c .i64 (i2 : Int) 1 hA83), (0, .l ⟨g81, o82 + (i2 : Int).toNat * 1, none⟩ (.slice A87 ((at_ (Rp.slice Rp.str) ls (i2 : Int)).length) c88) (hE86.at 0 rfl))] 29 30 [(8, .slice A87 ((at_ (Rp.slice Rp.str) ls (i2 : Int)).length) c88)] fun a h90 => ?_
     have htk : (ls.take (i2 + 1)).flatten = (ls.take i2).flatten ++ ls.getD i2 [] := flat_take (by omega)
     have hln : ((ls.take (i2 + 1)).flatten).length = ((ls.take i2).flatten).length + (at_ (Rp.slice Rp.str) ls (i2 : Int)).length := by rw [htk, List.length_append]; rfl
     refine V.rg ?_
     refine V.run h90 [] 2 1 0 [(31, .slice A2 ((ls.take i2).flatten.length) c2), (32, .slice A87 ((at_ (Rp.slice Rp.str) ls (i2 : Int)).length) c88)] fun a h96 => ?_
     refine V.go (V.appS (R := Rp.str) (h96.e (v := (.slice A2 ((ls.take i2).flatten.length) c2))) (h96.e (v := (.slice A87 ((at_ (Rp.slice Rp.str) ls (i2 : Int)).length) c88))) (by kernel_rfl) info9 (by kernel_rfl) (by decide) hO_67 hS89 (fun _ _ h => h) (by (try simp only [List.length_append]); omega) (by decide) (by omega) ?_)
     intro A91 c92 w93 hO94 hF95
     have hsw93 := hF95.size
     have hF_97 := hF_68.own hF95 (own_ge hO_67 (by omega))
     have hL_98 := hL_69.fr hF95 (by intro b hb hz; have := own_ge hO_67 (Nat.le_refl _) b hb; (try dsimp only at hz); omega)
     have hS89_99 := hS89.fr hF95 (by intro b hb hz; have := own_ge hO_67 (Nat.le_refl _) b hb; (try dsimp only at hz); omega)
     have hE86_100 := hE86.fr hF95 (by first | exact own_notin hO_67 (by omega) | exact own_notin2 hO_67 (by omega))
     refine V.pt h96 fun a h101 => ?_
     refine V.re h101 [] 1 0 [(6, .slice A91 (((ls.take i2).flatten).length + ((at_ (Rp.slice Rp.str) ls (i2 : Int))).length) c92)] fun a h102 => ?_
     refine V.blk_n ?_
     refine V.then_n (k78 _ _ ?_)
     refine V.rr h102 [(0, .i ((i2 : Int) + 1))] 34 34 [(27, .int .i64 ((i2 : Int) + 1))] fun a h103 => ?_
     refine V.then_n ?_
     refine ⟨i2 + 1, A91, c92, by omega, ?_⟩
     refine ⟨((h103.eq 6 (v := (.slice A91 (((ls.take i2).flatten).length + ((at_ (Rp.slice Rp.str) ls (i2 : Int))).length) c92)) (u := (.slice A91 ((ls.take (i2 + 1)).flatten.length) c92)) (V.sl_eq hln.symm)).eq 27 (v := (.int .i64 ((i2 : Int) + 1))) (u := (.int .i64 ((i2 + 1) : Int))) (V.int_eq (by omega))).only _, (by rw [hln, htk]; exact hO94), hF_97, hL_98, (by omega)⟩
    ·
     refine V.exit ?_
     refine V.then_e ?_
     refine V.then_e ?_
     refine V.blk_hit ?_
     refine V.then_n (k60 _ _ ?_)
     refine V.sr h73 [] 35 35 [(2, .slice A2 ((ls.take i2).flatten.length) c2)] fun a h106 => ?_
     refine V.ret ?_
     refine V.r1 h106 (.slice A2 ((ls.take i2).flatten.length) c2) ?_
     have hq : (ls.take i2).flatten = ls.flatten := by rw [List.take_of_length_le (by omega)]
     rw [hq] at hO_67 ⊢
     exact ⟨_, _, rfl, hO_67, hF_68⟩
set_option maxHeartbeats 4000000 in
set_option maxRecDepth 20000 in
theorem add_any (w : World) (Al : Option Addr) (cl : Nat) (l : List ByteArray) (hSl : SlR Rp.str (fun k => k < w.heap.size) w (.slice Al l.length cl) l) (Am : Option Addr) (cm : Nat) (m : List ByteArray) (hSm : SlR Rp.str (fun k => k < w.heap.size) w (.slice Am m.length cm) m) (hl : l.length ≤ 1048576) (hm : m.length ≤ 1048576) : Calls Try.prog 24 #[.slice Al l.length cl, .slice Am m.length cm] w (fun e w' => ∃ A c, e = .returned (.tuple #[.slice A (addS l m).length c, .int .i64 (addN l m), .int .i64 (chkN l)]) ∧ OwR Rp.str NoZ w' w.heap.size 9 (.slice A (addS l m).length c) (addS l m) ∧ Fr [] w w') := by
 have hF := Fr.refl [] w
 refine V.en 26 Try.func24 fun a h1 => ?_
 refine V.sr h1 [] 4 6 [] fun a h4 => ?_
 refine V.seq fun K5 k6 => ?_
 refine V.sg fun K7 k8 => ?_
 refine V.run h4 [] 1 1 0 [(9, .slice Al l.length cl)] fun a h9 => ?_
 refine V.go (V.mk [(9, .slice Al l.length cl)] ⟨h9.e, trivial⟩ (by kernel_rfl) [.slice Al l.length cl] 22 (fun b => .slice (some ⟨b, 0, none⟩) 1 1) (by kernel_rfl) ?_)
 intro w11 b10 heb10 hB12 hF13 hsb10
 have hF_14 := hF.new hF13
 have hSl_15 := hSl.fr0 hF13
 have hSm_16 := hSm.fr0 hF13
 refine V.pt h9 fun a h17 => ?_
 refine V.cl h17 (Go.Proofs.enters_of Try.func38 (by kernel_rfl) rfl) (checks_any w11 _ _ [l] (sl_one hB12 hSl_15).old) ?_
 rintro _ w20 ⟨rfl, hF18⟩
 refine ⟨_, rfl, fun a h21 => ?_⟩
 have hsw20 := hF18.size
 have hF_22 := hF_14.new hF18
 have hSl_23 := hSl_15.fr0 hF18
 have hSm_24 := hSm_16.fr0 hF18
 have hB12_25 := hB12.fr0 hF18
 have hq19 := chkL_one l
 refine V.re h21 [] 1 0 [(7, .int .i64 (chkL [l]))] fun a h26 => k8 _ _ ?_
 refine V.sr h26 [(1, .ne (chkL [l]) 0)] 12 12 [(13, .bool (decide (¬ (chkL [l]) = 0)))] fun a h29 => ?_
 refine V.cp h29 (¬ (chkL [l]) = 0) (fun ht30 => ?_) (fun ht30 => ?_)
 ·
  refine V.sr h29 [] 14 14 [(4, .slice none 0 0), (5, .int .i64 0), (6, .int .i64 (chkL [l]))] fun a h33 => ?_
  refine V.ret ?_
  refine V.then_r ?_
  refine V.r3 h33 (.slice none 0 0) (.int .i64 0) (.int .i64 (chkL [l])) ?_
  rcases chkN_cases l with ⟨hz0, hzi⟩ | ⟨hz0, hzi⟩
  · exfalso; omega
  · rw [show addS l m = [] from if_neg hzi, show addN l m = 0 from if_neg hzi]; exact ⟨none, 0, congrArg (fun e => Ending.returned (.tuple #[.slice none 0 0, .int .i64 0, .int .i64 e])) (by omega), OwR.nil .., hF_22⟩
 ·
  refine V.skip ?_
  refine V.then_n (k6 _ _ ?_)
  refine V.sg fun K34 k35 => ?_
  refine V.run h29 [] 2 1 0 [(15, .slice Al l.length cl), (16, .slice Am m.length cm)] fun a h36 => ?_
  refine V.go (V.mk [(15, .slice Al l.length cl), (16, .slice Am m.length cm)] ⟨h36.e, h36.e, trivial⟩ (by kernel_rfl) [.slice Al l.length cl, .slice Am m.length cm] 22 (fun b => .slice (some ⟨b, 0, none⟩) 2 2) (by kernel_rfl) ?_)
  intro w38 b37 heb37 hB39 hF40 hsb37
  have hF_41 := hF_22.new hF40
  have hSl_42 := hSl_23.fr0 hF40
  have hSm_43 := hSm_24.fr0 hF40
  have hB12_44 := hB12_25.fr0 hF40
  refine V.pt h36 fun a h45 => ?_
  refine V.cl (av := #[.slice (some ⟨b37, 0, none⟩) 2 2]) h45 (Go.Proofs.enters_of Try.func43 (by kernel_rfl) rfl) (by (have hcz := concat_any w38 _ _ [l, m] (sl_two hB39 hSl_42 hSm_43).old (by simp only [List.flatten_cons, List.flatten_nil, List.append_nil, List.length_append]; omega); simp only [List.flatten_cons, List.flatten_nil, List.append_nil] at hcz; exact hcz)) ?_
  rintro _ w50 ⟨A46, c47, rfl, hO48, hF49⟩
  refine ⟨_, rfl, fun a h51 => ?_⟩
  have hsw50 := hF49.size
  have hF_52 := hF_41.new hF49
  have hSl_53 := hSl_42.fr0 hF49
  have hSm_54 := hSm_43.fr0 hF49
  have hB12_55 := hB12_44.fr0 hF49
  have hB39_56 := hB39.fr0 hF49
  have hO48q := hO48.rebase (base' := w.heap.size) (by omega)
  have hla49 : (l ++ m).length = _ := List.length_append
  have hS57 := hO48q.is
  refine V.cl h51 (Go.Proofs.enters_of Try.func11 (by kernel_rfl) rfl) (of_any w50 A46 c47 (l ++ m) hS57.old (by omega)) ?_
  rintro _ w62 ⟨A58, c59, rfl, hO60, hF61⟩
  refine ⟨_, rfl, fun a h63 => ?_⟩
  have hsw62 := hF61.size
  have hF_64 := hF_52.new hF61
  have hSl_65 := hSl_53.fr0 hF61
  have hSm_66 := hSm_54.fr0 hF61
  have hB12_67 := hB12_55.fr0 hF61
  have hB39_68 := hB39_56.fr0 hF61
  have hO48q_69 := hO48q.fr0 hF61
  have hS57_70 := hS57.fr0 hF61
  have hO60q := hO60.rebase (base' := w.heap.size) (by omega)
  have hsl61 := setOf_len (l ++ m)
  refine V.re h63 [] 1 0 [(8, .slice A58 ((setOf (l ++ m)).length) c59)] fun a h71 => k35 _ _ ?_
  refine V.sr h71 [(5, .i ((((setOf (l ++ m)).length : Nat) : Int) - ((l.length : Nat) : Int)))] 20 25 [(4, .slice A58 ((setOf (l ++ m)).length) c59), (5, .int .i64 ((((setOf (l ++ m)).length : Nat) : Int) - ((l.length : Nat) : Int))), (6, .int .i64 0)] fun a h74 => ?_
  refine V.ret ?_
  refine V.r3 h74 (.slice A58 ((setOf (l ++ m)).length) c59) (.int .i64 ((((setOf (l ++ m)).length : Nat) : Int) - ((l.length : Nat) : Int))) (.int .i64 0) ?_
  rcases chkN_cases l with ⟨hz0, hzi⟩ | ⟨hz0, hzi⟩
  · rw [show addS l m = setOf (l ++ m) from if_pos hzi, show addN l m = _ from if_pos hzi, hz0]; exact ⟨_, _, rfl, hO60q, hF_64⟩
  · exfalso; omega
end Go.Proofs.Ytkepojdmgdgaoaa
