/- Walks of a table of texts: a row of buckets, all in one row. -/
import Derived.Test.YtalhmegjomfbaaaProg
import Derived.Test.YtalhmegjomfbaaaSTb
import Derived.Test.YtalhmegjomfbaaaTi
namespace Go.Proofs.Ytalhmegjomfbaaa.S
open Go.V Go.Base
open Go.RowKit (Below)
attribute [local irreducible] Act.put Act.eval
set_option linter.unusedVariables false
set_option linter.unusedSimpArgs false
set_option maxHeartbeats 4000000 in
set_option maxRecDepth 20000 in
theorem grow_any (w : World) (n : Nat) (hn : n ≤ 1099511627776) : Calls Try.prog 81 #[.slice none 0 0, .int .i64 (n : Int)] w (fun e w' => ∃ A c, e = .returned (.slice A 0 c) ∧ OwR itI NoZ w' w.heap.size 93 (.slice A 0 c) [] ∧ Fr [] w w') := by
 have hF := Fr.refl [] w
 refine V.en 27 Try.func81 fun a h1 => ?_
 refine V.sr h1 [] 4 4 [] fun a h4 => ?_
 refine V.seq fun K5 k6 => ?_
 refine V.sr h4 [] 5 5 [(6, .bool (decide ((n : Int) < 0)))] fun a h9 => ?_
 refine V.cp h9 ((n : Int) < 0) (fun ht10 => ?_) (fun ht10 => ?_)
 · exact absurd ht10 (by omega)
 ·
  refine V.skip ?_
  refine V.then_n (k6 _ _ ?_)
  refine V.seq fun K11 k12 => ?_
  refine V.sr h9 [(5, .i (0 - 0)), (0, .i ((n : Int) - (0 - 0)))] 8 14 [(1, .int .i64 ((n : Int) - (0 - 0)))] fun a h15 => ?_
  refine V.sr h15 [] 15 15 [(16, .bool (decide (((n : Int) - (0 - 0)) > 0)))] fun a h18 => ?_
  refine V.cp h18 (((n : Int) - (0 - 0)) > 0) (fun ht19 => ?_) (fun ht19 => ?_)
  ·
   refine V.rg ?_
   refine V.run h18 [] 5 17 19 [(20, .slice none 0 0), (21, .int .i64 ((n : Int) - (0 - 0)))] fun a h25 => ?_
   refine V.go (V.appZ (R := itI) (kn := .i64) (n := n) (h25.e (v := (.slice none 0 0))) ((h25.e (v := (.int .i64 ((n : Int) - (0 - 0))))).trans (V.int_eq (by omega))) (by kernel_rfl) (by kernel_rfl) info93 (by kernel_rfl) (by decide) (by omega) (by decide) (by omega) ?_)
   intro g20 c21 w22 hO23 hF24
   have hsw22 := hF24.size
   have hF_26 := hF.new hF24
   refine V.pt h25 fun a h27 => ?_
   refine V.run h27 [] 2 23 23 [(24, .int .i64 0)] fun a h28 => ?_
   refine V.go (V.slc (e := 93) (sz := 2) g20 0 n c21 0 0 c21 (h28.e (v := (.slice (some ⟨g20, 0, none⟩) n c21))) rfl ⟨_, ((h28.e (v := (.int .i64 0)))).trans (V.int_eq (by omega))⟩ rfl (by omega) (by omega) (by omega) (by kernel_rfl) (by kernel_rfl) ?_)
   intro ad29 had30 hae31
   obtain rfl := hae31 rfl
   refine V.pt h28 fun a h32 => ?_
   refine V.re h32 [] 1 0 [(0, .slice (some ⟨g20, 0, none⟩) (0 - 0) (c21 - 0))] fun a h33 => k12 _ _ ?_
   refine V.sr h33 [] 26 26 [(4, .slice (some ⟨g20, 0, none⟩) (0 - 0) (c21 - 0))] fun a h36 => ?_
   refine V.ret ?_
   refine V.r1 h36 (.slice (some ⟨g20, 0, none⟩) (0 - 0) (c21 - 0)) ?_
   exact ⟨_, _, rfl, hO23, hF_26⟩
  ·
   refine V.skip ?_
   refine V.then_n (k12 _ _ ?_)
   refine V.sr h18 [] 26 26 [(4, .slice none 0 0)] fun a h39 => ?_
   refine V.ret ?_
   refine V.r1 h39 (.slice none 0 0) ?_
   exact ⟨_, _, rfl, OwR.nil itI NoZ _ w.heap.size 93, hF⟩
set_option maxHeartbeats 4000000 in
set_option maxRecDepth 20000 in
theorem concat_nil (w : World)  : Calls Try.prog 78 #[.slice none 0 0] w (fun e w' => ∃ A c, e = .returned (.slice A 0 c) ∧ OwR itI NoZ w' w.heap.size 93 (.slice A 0 c) [] ∧ Fr [] w w') := by
 have hF := Fr.refl [] w
 refine V.en 36 Try.func78 fun a h1 => ?_
 refine V.sr h1 [] 2 2 [] fun a h4 => ?_
 refine V.sr h4 [] 1 0 [(3, .int .i64 0)] fun a h7 => ?_
 refine V.seq fun K8 k9 => ?_
 refine V.sr h7 [] 1 0 [(9, .slice none 0 0), (10, .int .i64 0), (11, .int .i64 0)] fun a h12 => ?_
 refine V.block ?_
 refine V.loopR 2 ?_
 refine V.rnd ?_
 refine V.sr h12 [] 1 0 [(12, .bool false)] fun a h15 => ?_
 refine V.seq fun K16 k17 => ?_
 refine V.cf h15 ?_
 refine V.exit ?_
 refine V.then_e ?_
 refine V.then_e ?_
 refine V.blk_hit ?_
 refine V.then_n (k9 _ _ ?_)
 refine V.sg fun K18 k19 => ?_
 refine V.run h15 [] 1 1 0 [(23, .int .i64 0)] fun a h20 => ?_
 refine V.cl h20 (Go.Proofs.enters_of Try.func81 (by kernel_rfl) rfl) (grow_any w 0 (by omega)) ?_
 rintro _ w25 ⟨A21, c22, rfl, hO23, hF24⟩
 refine ⟨_, rfl, fun a h26 => ?_⟩
 have hsw25 := hF24.size
 have hF_27 := hF.new hF24
 have hO23q := hO23.rebase (base' := w.heap.size) (by omega)
 refine V.re h26 [] 1 0 [(6, .slice A21 0 c22)] fun a h28 => k19 _ _ ?_
 refine V.seq fun K29 k30 => ?_
 refine V.sr h28 [] 1 0 [(25, .slice none 0 0), (26, .int .i64 0), (27, .int .i64 0)] fun a h33 => ?_
 refine V.block ?_
 refine V.loopR 2 ?_
 refine V.rnd ?_
 refine V.sr h33 [] 1 0 [(28, .bool false)] fun a h36 => ?_
 refine V.seq fun K37 k38 => ?_
 refine V.cf h36 ?_
 refine V.exit ?_
 refine V.then_e ?_
 refine V.then_e ?_
 refine V.blk_hit ?_
 refine V.then_n (k30 _ _ ?_)
 refine V.sr h36 [] 35 35 [(2, .slice A21 0 c22)] fun a h41 => ?_
 refine V.ret ?_
 refine V.r1 h41 (.slice A21 0 c22) ?_
 exact ⟨_, _, rfl, hO23q, hF_27⟩
set_option maxHeartbeats 4000000 in
set_option maxRecDepth 20000 in
theorem concat_row (w : World) (H : Nat → Prop) (av : List Nat) (g : Nat) (vs vsB : List Value) (xs xsB : List (List (ByteArray × ByteArray))) (hR : Row idV w g vs 94) (hl : vs.length = xs.length) (hK : Bks itI w 93 H av (vs ++ vsB) (xs ++ xsB)) (hHb : ∀ k, H k → k < w.heap.size) (hx : xs.length ≤ 4398046511104) (hf : xs.flatten.length ≤ 1099511627776) : Calls Try.prog 78 #[.slice (some ⟨g, 0, none⟩) xs.length xs.length] w (fun e w' => ∃ A c, e = .returned (.slice A xs.flatten.length c) ∧ OwR itI NoZ w' w.heap.size 93 (.slice A xs.flatten.length c) xs.flatten ∧ Fr [] w w') := by
 have hF := Fr.refl [] w
 have hltr := hR.lt
 refine V.en 36 Try.func78 fun a h1 => ?_
 refine V.sr h1 [] 2 2 [] fun a h4 => ?_
 refine V.sr h4 [] 1 0 [(3, .int .i64 0)] fun a h7 => ?_
 refine V.seq fun K8 k9 => ?_
 refine V.sr h7 [] 1 0 [(9, .slice (some ⟨g, 0, none⟩) xs.length xs.length), (10, .int .i64 ((xs.length : Nat) : Int)), (11, .int .i64 0)] fun a h12 => ?_
 refine V.block ?_
 refine V.loop1 (fun (i : Nat) a_ w_ => En 36 [] a_ [(0, .slice (some ⟨g, 0, none⟩) xs.length xs.length), (3, .int .i64 (((xs.take i).flatten.length : Nat) : Int)), (9, .slice (some ⟨g, 0, none⟩) xs.length xs.length), (10, .int .i64 ((xs.length : Nat) : Int)), (11, .int .i64 (i : Int))] ∧ Fr [] w w_ ∧ Row idV w_ g vs 94 ∧ Bks itI w_ 93 H (av) (vs ++ vsB) (xs ++ xsB) ∧ (i ≤ xs.length)) (fun (i : Nat) => xs.length - i) 0 ?_ ?_
 ·
  refine ⟨((h12.eq 3 (v := (.int .i64 0)) (u := (.int .i64 (((xs.take 0).flatten.length : Nat) : Int))) (V.int_eq (by simp))).eq 11 (v := (.int .i64 0)) (u := (.int .i64 (0 : Int))) (V.int_eq (by omega))).only _, hF, hR, hK, (by omega)⟩
 ·
  rintro i a13 w14 ⟨h15, hF_16, hR_17, hK_18, hi⟩
  have hfs19 := hF_16.size
  have hlt20 := hR_17.lt
  have hft := flat_take_le xs (i + 1)
  have hft0 := flat_take_le xs i
  have hbq := flat_getD xs i
  refine V.sr h15 [] 1 0 [(12, .bool (decide ((i : Int) < ((xs.length : Nat) : Int))))] fun a h23 => ?_
  refine V.seq fun K24 k25 => ?_
  refine V.cp h23 ((i : Int) < ((xs.length : Nat) : Int)) (fun ht26 => ?_) (fun ht26 => ?_)
  ·
   refine V.skip ?_
   refine V.then_n (k25 _ _ ?_)
   refine V.seq fun K27 k28 => ?_
   refine V.block ?_
   obtain ⟨A31, c32, hv33⟩ := hK_18.getA hl (i := i) (by omega) nilS
   have hS34 := hK_18.slA hl (i := i) (by omega) hv33
   refine V.sr h23 [(0, .ix g 0 xs.length xs.length .i64 (i : Int) 1 rfl), (0, .l ⟨g, 0 + (i : Int).toNat * 1, none⟩ (.slice A31 ((xs.getD i []).length) c32) ((hR_17.at i nilS (by omega)).trans (congrArg some hv33)))] 13 14 [(5, .slice A31 ((xs.getD i []).length) c32)] fun a h35 => ?_
   refine V.sr h35 [(3, .i ((((xs.take i).flatten.length : Nat) : Int) + (((xs.getD i []).length : Nat) : Int)))] 15 18 [(3, .int .i64 ((((xs.take i).flatten.length : Nat) : Int) + (((xs.getD i []).length : Nat) : Int)))] fun a h38 => ?_
   refine V.seq fun K39 k40 => ?_
   have htk : (xs.take (i + 1)).flatten = (xs.take i).flatten ++ xs.getD i [] := flat_take (by omega)
   have hln : ((xs.take (i + 1)).flatten).length = ((xs.take i).flatten).length + (xs.getD i []).length := by rw [htk, List.length_append]
   refine V.rr h38 [] 19 19 [(20, .bool (decide (((((xs.take i).flatten.length : Nat) : Int) + (((xs.getD i []).length : Nat) : Int)) < 0)))] fun a h41 => ?_
   refine V.then_n (k40 _ _ ?_)
   refine V.cp h41 (((((xs.take i).flatten.length : Nat) : Int) + (((xs.getD i []).length : Nat) : Int)) < 0) (fun ht42 => ?_) (fun ht42 => ?_)
   · exact absurd ht42 (by omega)
   ·
    refine V.skip ?_
    refine V.blk_n ?_
    refine V.then_n (k28 _ _ ?_)
    refine V.rr h41 [(0, .i ((i : Int) + 1))] 22 22 [(11, .int .i64 ((i : Int) + 1))] fun a h43 => ?_
    refine V.then_n ?_
    refine ⟨i + 1, by omega, ?_⟩
    refine ⟨((h43.eq 3 (v := (.int .i64 ((((xs.take i).flatten.length : Nat) : Int) + (((xs.getD i []).length : Nat) : Int)))) (u := (.int .i64 (((xs.take (i + 1)).flatten.length : Nat) : Int))) (V.int_eq (by omega))).eq 11 (v := (.int .i64 ((i : Int) + 1))) (u := (.int .i64 ((i + 1) : Int))) (V.int_eq (by omega))).only _, hF_16, hR_17, hK_18, (by omega)⟩
  ·
   refine V.exit ?_
   refine V.then_e ?_
   refine V.then_e ?_
   refine V.blk_hit ?_
   refine V.then_n (k9 _ _ ?_)
   refine V.seq fun K44 k45 => ?_
   have hft9 := flat_take_le xs i
   refine V.rg ?_
   refine V.run h23 [] 1 1 0 [(23, .int .i64 (((xs.take i).flatten.length : Nat) : Int))] fun a h46 => ?_
   refine V.cl h46 (Go.Proofs.enters_of Try.func81 (by kernel_rfl) rfl) (grow_any w14 ((xs.take i).flatten.length) (by omega)) ?_
   rintro _ w51 ⟨A47, c48, rfl, hO49, hF50⟩
   refine ⟨_, rfl, fun a h52 => ?_⟩
   have hsw51 := hF50.size
   have hF_53 := hF_16.new hF50
   have hR_54 := hR_17.fr0 hF50
   have hK_55 := hK_18.fr0 hF50
   have hO49q := hO49.rebase (base' := w.heap.size) (by omega)
   refine V.re h52 [] 1 0 [(6, .slice A47 0 c48)] fun a h56 => k45 _ _ ?_
   refine V.seq fun K57 k58 => ?_
   refine V.sr h56 [] 1 0 [(25, .slice (some ⟨g, 0, none⟩) xs.length xs.length), (26, .int .i64 ((xs.length : Nat) : Int)), (27, .int .i64 0)] fun a h61 => ?_
   refine V.block ?_
   refine V.loop3 (fun (i2 : Nat) (A2 : Option Addr) (c2 : Nat) a_ w_ => En 36 [] a_ [(6, .slice A2 ((xs.take i2).flatten.length) c2), (25, .slice (some ⟨g, 0, none⟩) xs.length xs.length), (26, .int .i64 ((xs.length : Nat) : Int)), (27, .int .i64 (i2 : Int))] ∧ OwR itI NoZ w_ w.heap.size 93 (.slice A2 ((xs.take i2).flatten.length) c2) ((xs.take i2).flatten) ∧ Fr [] w w_ ∧ Row idV w_ g vs 94 ∧ Bks itI w_ 93 H (av) (vs ++ vsB) (xs ++ xsB) ∧ (i2 ≤ xs.length)) (fun (i2 : Nat) (A2 : Option Addr) (c2 : Nat) => xs.length - i2) 0 A47 c48 ?_ ?_
   ·
    refine ⟨((h61.eq 6 (v := (.slice A47 0 c48)) (u := (.slice A47 ((xs.take 0).flatten.length) c48)) (V.sl_eq (by simp))).eq 27 (v := (.int .i64 0)) (u := (.int .i64 (0 : Int))) (V.int_eq (by omega))).only _, (by simpa using hO49q), hF_53, hR_54, hK_55, (by omega)⟩
   ·
    rintro i2 A2 c2 a62 w63 ⟨h64, hO_65, hF_66, hR_67, hK_68, hi2⟩
    have hfs69 := hF_66.size
    have hlt70 := hR_67.lt
    have hft := flat_take_le xs (i2 + 1)
    have hft0 := flat_take_le xs i2
    have hbq := flat_getD xs i2
    refine V.sr h64 [] 1 0 [(28, .bool (decide ((i2 : Int) < ((xs.length : Nat) : Int))))] fun a h73 => ?_
    refine V.seq fun K74 k75 => ?_
    refine V.cp h73 ((i2 : Int) < ((xs.length : Nat) : Int)) (fun ht76 => ?_) (fun ht76 => ?_)
    ·
     refine V.skip ?_
     refine V.then_n (k75 _ _ ?_)
     refine V.seq fun K77 k78 => ?_
     refine V.block ?_
     obtain ⟨A81, c82, hv83⟩ := hK_68.getA hl (i := i2) (by omega) nilS
     have hS84 := hK_68.slA hl (i := i2) (by omega) hv83
     refine V.sr h73 [(0, .ix g 0 xs.length xs.length .i64 (i2 : Int) 1 rfl), (0, .l ⟨g, 0 + (i2 : Int).toNat * 1, none⟩ (.slice A81 ((xs.getD i2 []).length) c82) ((hR_67.at i2 nilS (by omega)).trans (congrArg some hv83)))] 29 30 [(8, .slice A81 ((xs.getD i2 []).length) c82)] fun a h85 => ?_
     refine V.rg ?_
     refine V.run h85 [] 2 1 0 [(31, .slice A2 ((xs.take i2).flatten.length) c2), (32, .slice A81 ((xs.getD i2 []).length) c82)] fun a h91 => ?_
     refine V.go (V.appS (R := itI) (h91.e (v := (.slice A2 ((xs.take i2).flatten.length) c2))) (h91.e (v := (.slice A81 ((xs.getD i2 []).length) c82))) (by kernel_rfl) info93 (by kernel_rfl) (by decide) hO_65 hS84 (fun _ _ h => h) (by (try simp only [List.length_append]); omega) (by decide) (by omega) ?_)
     intro A86 c87 w88 hO89 hF90
     have hsw88 := hF90.size
     have hF_92 := hF_66.own hF90 (own_ge hO_65 (by omega))
     have hR_93 := hR_67.fr hF90 (by first | exact own_notin hO_65 (by omega) | exact own_notin2 hO_65 (by omega))
     have hK_94 := hK_68.frP (FrP.of hF90) (fun k hk => .inr (fun hq => by have h1 := hHb k hq; have h2 := own_ge hO_65 (Nat.le_refl _) k hk; omega))
     refine V.pt h91 fun a h95 => ?_
     refine V.re h95 [] 1 0 [(6, .slice A86 (((xs.take i2).flatten).length + (xs.getD i2 []).length) c87)] fun a h96 => ?_
     refine V.blk_n ?_
     refine V.then_n (k78 _ _ ?_)
     refine V.rr h96 [(0, .i ((i2 : Int) + 1))] 34 34 [(27, .int .i64 ((i2 : Int) + 1))] fun a h97 => ?_
     refine V.then_n ?_
     have htk : (xs.take (i2 + 1)).flatten = (xs.take i2).flatten ++ xs.getD i2 [] := flat_take (by omega)
     have hln : ((xs.take (i2 + 1)).flatten).length = ((xs.take i2).flatten).length + (xs.getD i2 []).length := by rw [htk, List.length_append]
     refine ⟨i2 + 1, A86, c87, by omega, ?_⟩
     refine ⟨((h97.eq 6 (v := (.slice A86 (((xs.take i2).flatten).length + (xs.getD i2 []).length) c87)) (u := (.slice A86 ((xs.take (i2 + 1)).flatten.length) c87)) (V.sl_eq hln.symm)).eq 27 (v := (.int .i64 ((i2 : Int) + 1))) (u := (.int .i64 ((i2 + 1) : Int))) (V.int_eq (by omega))).only _, (by rw [hln, htk]; exact hO89), hF_92, hR_93, hK_94, (by omega)⟩
    ·
     refine V.exit ?_
     refine V.then_e ?_
     refine V.then_e ?_
     refine V.blk_hit ?_
     refine V.then_n (k58 _ _ ?_)
     refine V.sr h73 [] 35 35 [(2, .slice A2 ((xs.take i2).flatten.length) c2)] fun a h100 => ?_
     refine V.ret ?_
     refine V.r1 h100 (.slice A2 ((xs.take i2).flatten.length) c2) ?_
     have hq : (xs.take i2).flatten = xs.flatten := by rw [List.take_of_length_le (by omega)]
     rw [hq] at hO_65 ⊢
     exact ⟨_, _, rfl, hO_65, hF_66⟩
end Go.Proofs.Ytalhmegjomfbaaa.S
