/- Walks: the reference: All. -/
import Derived.Test.YtalhmegjomfbaaaProg
import Derived.Test.YtalhmegjomfbaaaRd
namespace Go.Proofs.Ytalhmegjomfbaaa
open Go.V Go.Base
open Go.RowKit (Below)
attribute [local irreducible] Act.put Act.eval
set_option linter.unusedVariables false
set_option linter.unusedSimpArgs false
set_option maxHeartbeats 4000000 in
set_option maxRecDepth 20000 in
theorem rall_N (w : World) (H : Nat → Prop) (av : List Nat) (t gA : Nat) (vsA : List Value) (T : Tb Int) (hok : T.Ok) (hT : TabN 40 42 60 itI w H av t gA vsA T) (hHb : ∀ k, H k → k < w.heap.size) (hb : T.b.length = 0) : Calls Try.prog 21 #[.pointer (some ⟨t, 0, none⟩)] w (fun e w' => ∃ A c, e = .returned (.slice A T.n c) ∧ OwR itI NoZ w' w.heap.size 60 (.slice A T.n c) (T.a ++ T.b).flatten ∧ Fr [] w w') := by
 have hF := Fr.refl [] w
 have hok0 := hok
 have hO := OwR.nil itI NoZ w w.heap.size 60
 have hbl := hok.bl
 obtain ⟨hsd, hpa, hla, hlb, hmv, hmz, hnn, hcn, hks⟩ := hok
 obtain ⟨hB, hRA, hlA, hK, hne, hpt, hpg⟩ := hT
 have hltt := hB.lt
 have hltg := hRA.lt
 refine V.en 43 Try.func21 fun a h1 => ?_
 refine V.sr h1 [] 2 2 [] fun a h4 => ?_
 refine V.sr h4 [] 1 0 [(3, .slice none 0 0)] fun a h7 => ?_
 refine V.seq fun K8 k9 => ?_
 refine V.sr h7 [] 1 0 [(4, .int .i64 0)] fun a h12 => ?_
 refine V.block ?_
 refine V.loop3 (fun (i : Nat) (A : Option Addr) (c : Nat) a_ w_ => En 43 [] a_ [(0, .pointer (some ⟨t, 0, none⟩)), (3, .slice A (((T.a.take i).flatten).length) c), (4, .int .i64 (i : Int))] ∧ OwR itI NoZ w_ w.heap.size 60 (.slice A (((T.a.take i).flatten).length) c) ((T.a.take i).flatten) ∧ Fr [] w w_ ∧ Blk w_ t [.int .u64 (T.seed : Int), .slice (some ⟨gA, 0, none⟩) T.a.length T.a.length, .slice none 0 0, .int .i64 (T.moved : Int), .int .i64 (T.n : Int)] 40 ∧ Row idV w_ gA vsA 42 ∧ Bks itI w_ 60 H (t :: gA :: av) (vsA ++ []) (T.a ++ []) ∧ (i ≤ T.a.length)) (fun (i : Nat) (A : Option Addr) (c : Nat) => T.a.length - i) 0 none 0 ?_ ?_
 ·
  refine ⟨((h12.eq 3 (v := (.slice none 0 0)) (u := (.slice none (((T.a.take 0).flatten).length) 0)) (rfl)).eq 4 (v := (.int .i64 0)) (u := (.int .i64 (0 : Int))) (V.int_eq (by omega))).only _, hO, hF, hB, hRA, hK, (by omega)⟩
 ·
  rintro i A c a13 w14 ⟨h15, hO_16, hF_17, hB_18, hRA_19, hK_20, hii⟩
  have hfs21 := hF_17.size
  have hlt22 := hB_18.lt
  have hlt23 := hRA_19.lt
  have hft := flat_take_le T.a i
  have hbq := hbl i
  have hsum := hok0.sum
  refine V.seq fun K24 k25 => ?_
  refine V.sr h15 [(4, .b hB_18 1)] 6 11 [(12, .bool (decide ((i : Int) < ((T.a.length : Nat) : Int))))] fun a h28 => ?_
  refine V.cp h28 ((i : Int) < ((T.a.length : Nat) : Int)) (fun ht29 => ?_) (fun ht29 => ?_)
  ·
   refine V.skip ?_
   refine V.then_n (k25 _ _ ?_)
   refine V.seq fun K30 k31 => ?_
   refine V.block ?_
   obtain ⟨A32, c33, hv34⟩ := hK_20.getA hlA (i := i) (by omega) nilS
   have hS35 := hK_20.slA hlA (i := i) (by omega) hv34
   refine V.rg ?_
   refine V.run h28 [(4, .b hB_18 1), (1, .ix gA 0 T.a.length T.a.length .i64 (i : Int) 1 rfl), (0, .l ⟨gA, 0 + (i : Int).toNat * 1, none⟩ (.slice A32 ((T.a.getD i []).length) c33) ((hRA_19.at i nilS (by omega)).trans (congrArg some hv34)))] 8 16 21 [(15, .slice A (((T.a.take i).flatten).length) c), (22, .slice A32 ((T.a.getD i []).length) c33)] fun a h41 => ?_
   refine V.go (V.appS (R := itI) (h41.e (v := (.slice A (((T.a.take i).flatten).length) c))) (h41.e (v := (.slice A32 ((T.a.getD i []).length) c33))) (by kernel_rfl) info60 (by kernel_rfl) (by decide) hO_16 hS35 (fun _ _ h => h) (by (try simp only [List.length_append]); omega) (by decide) (by omega) ?_)
   intro A36 c37 w38 hO39 hF40
   have hsw38 := hF40.size
   have hF_42 := hF_17.own hF40 (own_ge hO_16 (by omega))
   have hB_43 := hB_18.fr hF40 (by first | exact own_notin hO_16 (by omega) | exact own_notin2 hO_16 (by omega))
   have hRA_44 := hRA_19.fr hF40 (by first | exact own_notin hO_16 (by omega) | exact own_notin2 hO_16 (by omega))
   have hK_45 := hK_20.frP (FrP.of hF40) (fun k hk => .inr (fun hq => by have h1 := hHb k hq; have h2 := own_ge hO_16 (Nat.le_refl _) k hk; omega))
   refine V.pt h41 fun a h46 => ?_
   refine V.re h46 [] 1 0 [(3, .slice A36 (((T.a.take i).flatten).length + (T.a.getD i []).length) c37)] fun a h47 => ?_
   refine V.blk_n ?_
   refine V.then_n (k31 _ _ ?_)
   refine V.rr h47 [(1, .i ((i : Int) + 1))] 13 14 [(4, .int .i64 ((i : Int) + 1))] fun a h48 => ?_
   refine V.then_n ?_
   have htk : (T.a.take (i + 1)).flatten = (T.a.take i).flatten ++ T.a.getD i [] := flat_take (by omega)
   have hln : ((T.a.take (i + 1)).flatten).length = ((T.a.take i).flatten).length + (T.a.getD i []).length := by rw [htk, List.length_append]
   refine ⟨i + 1, A36, c37, by omega, ?_⟩
   refine ⟨((h48.eq 3 (v := (.slice A36 (((T.a.take i).flatten).length + (T.a.getD i []).length) c37)) (u := (.slice A36 (((T.a.take (i + 1)).flatten).length) c37)) (V.sl_eq hln.symm)).eq 4 (v := (.int .i64 ((i : Int) + 1))) (u := (.int .i64 ((i + 1) : Int))) (V.int_eq (by omega))).only _, (by rw [hln, htk]; exact hO39), hF_42, hB_43, hRA_44, hK_45, (by omega)⟩
  ·
   refine V.exit ?_
   refine V.then_e ?_
   refine V.then_e ?_
   refine V.blk_hit ?_
   refine V.then_n (k9 _ _ ?_)
   refine V.seq fun K49 k50 => ?_
   refine V.sr h28 [] 1 0 [(5, .int .i64 0)] fun a h53 => ?_
   refine V.block ?_
   refine V.loopR 2 ?_
   refine V.rnd ?_
   refine V.seq fun K54 k55 => ?_
   refine V.sr h53 [(4, .b hB_18 2)] 24 29 [(30, .bool false)] fun a h58 => ?_
   refine V.cf h58 ?_
   refine V.exit ?_
   refine V.then_e ?_
   refine V.then_e ?_
   refine V.blk_hit ?_
   refine V.then_n (k50 _ _ ?_)
   refine V.sr h58 [] 42 42 [(2, .slice A (((T.a.take i).flatten).length) c)] fun a h61 => ?_
   refine V.ret ?_
   refine V.r1 h61 (.slice A (((T.a.take i).flatten).length) c) ?_
   have hq : (T.a.take i).flatten = (T.a ++ T.b).flatten := by (rw [List.take_of_length_le (by omega), List.flatten_append, List.eq_nil_of_length_eq_zero hb]; simp)
   have hn : (T.a.take i).flatten.length = T.n := by rw [hq]; exact hok0.cn
   rw [hn, hq] at hO_16
   rw [hn]
   exact ⟨_, _, rfl, hO_16, hF_17⟩
set_option maxHeartbeats 4000000 in
set_option maxRecDepth 20000 in
theorem rall_M (w : World) (H : Nat → Prop) (av : List Nat) (t gA gB : Nat) (vsA vsB : List Value) (T : Tb Int) (hok : T.Ok) (hT : TabM 40 42 60 itI w H av t gA gB vsA vsB T) (hHb : ∀ k, H k → k < w.heap.size) (hb : T.b.length ≠ 0) : Calls Try.prog 21 #[.pointer (some ⟨t, 0, none⟩)] w (fun e w' => ∃ A c, e = .returned (.slice A T.n c) ∧ OwR itI NoZ w' w.heap.size 60 (.slice A T.n c) (T.a ++ T.b).flatten ∧ Fr [] w w') := by
 have hF := Fr.refl [] w
 have hok0 := hok
 have hO := OwR.nil itI NoZ w w.heap.size 60
 have hbl := hok.bl
 obtain ⟨hsd, hpa, hla, hlb, hmv, hmz, hnn, hcn, hks⟩ := hok
 obtain ⟨hB, hRA, hRB, hlA, hlB, hK, hne, hne2, hne3, hpt, hpg, hph⟩ := hT
 have hltg2 := hRB.lt
 have hltt := hB.lt
 have hltg := hRA.lt
 refine V.en 43 Try.func21 fun a h1 => ?_
 refine V.sr h1 [] 2 2 [] fun a h4 => ?_
 refine V.sr h4 [] 1 0 [(3, .slice none 0 0)] fun a h7 => ?_
 refine V.seq fun K8 k9 => ?_
 refine V.sr h7 [] 1 0 [(4, .int .i64 0)] fun a h12 => ?_
 refine V.block ?_
 refine V.loop3 (fun (i : Nat) (A : Option Addr) (c : Nat) a_ w_ => En 43 [] a_ [(0, .pointer (some ⟨t, 0, none⟩)), (3, .slice A (((T.a.take i).flatten).length) c), (4, .int .i64 (i : Int))] ∧ OwR itI NoZ w_ w.heap.size 60 (.slice A (((T.a.take i).flatten).length) c) ((T.a.take i).flatten) ∧ Fr [] w w_ ∧ Blk w_ t [.int .u64 (T.seed : Int), .slice (some ⟨gA, 0, none⟩) T.a.length T.a.length, .slice (some ⟨gB, 0, none⟩) T.b.length T.b.length, .int .i64 (T.moved : Int), .int .i64 (T.n : Int)] 40 ∧ Row idV w_ gA vsA 42 ∧ Row idV w_ gB vsB 42 ∧ Bks itI w_ 60 H (t :: gA :: gB :: av) (vsA ++ vsB) (T.a ++ T.b) ∧ (i ≤ T.a.length)) (fun (i : Nat) (A : Option Addr) (c : Nat) => T.a.length - i) 0 none 0 ?_ ?_
 ·
  refine ⟨((h12.eq 3 (v := (.slice none 0 0)) (u := (.slice none (((T.a.take 0).flatten).length) 0)) (rfl)).eq 4 (v := (.int .i64 0)) (u := (.int .i64 (0 : Int))) (V.int_eq (by omega))).only _, hO, hF, hB, hRA, hRB, hK, (by omega)⟩
 ·
  rintro i A c a13 w14 ⟨h15, hO_16, hF_17, hB_18, hRA_19, hRB_20, hK_21, hii⟩
  have hfs22 := hF_17.size
  have hlt23 := hB_18.lt
  have hlt24 := hRA_19.lt
  have hlt25 := hRB_20.lt
  have hft := flat_take_le T.a i
  have hbq := hbl i
  have hsum := hok0.sum
  refine V.seq fun K26 k27 => ?_
  refine V.sr h15 [(4, .b hB_18 1)] 6 11 [(12, .bool (decide ((i : Int) < ((T.a.length : Nat) : Int))))] fun a h30 => ?_
  refine V.cp h30 ((i : Int) < ((T.a.length : Nat) : Int)) (fun ht31 => ?_) (fun ht31 => ?_)
  ·
   refine V.skip ?_
   refine V.then_n (k27 _ _ ?_)
   refine V.seq fun K32 k33 => ?_
   refine V.block ?_
   obtain ⟨A34, c35, hv36⟩ := hK_21.getA hlA (i := i) (by omega) nilS
   have hS37 := hK_21.slA hlA (i := i) (by omega) hv36
   refine V.rg ?_
   refine V.run h30 [(4, .b hB_18 1), (1, .ix gA 0 T.a.length T.a.length .i64 (i : Int) 1 rfl), (0, .l ⟨gA, 0 + (i : Int).toNat * 1, none⟩ (.slice A34 ((T.a.getD i []).length) c35) ((hRA_19.at i nilS (by omega)).trans (congrArg some hv36)))] 8 16 21 [(15, .slice A (((T.a.take i).flatten).length) c), (22, .slice A34 ((T.a.getD i []).length) c35)] fun a h43 => ?_
   refine V.go (V.appS (R := itI) (h43.e (v := (.slice A (((T.a.take i).flatten).length) c))) (h43.e (v := (.slice A34 ((T.a.getD i []).length) c35))) (by kernel_rfl) info60 (by kernel_rfl) (by decide) hO_16 hS37 (fun _ _ h => h) (by (try simp only [List.length_append]); omega) (by decide) (by omega) ?_)
   intro A38 c39 w40 hO41 hF42
   have hsw40 := hF42.size
   have hF_44 := hF_17.own hF42 (own_ge hO_16 (by omega))
   have hB_45 := hB_18.fr hF42 (by first | exact own_notin hO_16 (by omega) | exact own_notin2 hO_16 (by omega))
   have hRA_46 := hRA_19.fr hF42 (by first | exact own_notin hO_16 (by omega) | exact own_notin2 hO_16 (by omega))
   have hRB_47 := hRB_20.fr hF42 (by first | exact own_notin hO_16 (by omega) | exact own_notin2 hO_16 (by omega))
   have hK_48 := hK_21.frP (FrP.of hF42) (fun k hk => .inr (fun hq => by have h1 := hHb k hq; have h2 := own_ge hO_16 (Nat.le_refl _) k hk; omega))
   refine V.pt h43 fun a h49 => ?_
   refine V.re h49 [] 1 0 [(3, .slice A38 (((T.a.take i).flatten).length + (T.a.getD i []).length) c39)] fun a h50 => ?_
   refine V.blk_n ?_
   refine V.then_n (k33 _ _ ?_)
   refine V.rr h50 [(1, .i ((i : Int) + 1))] 13 14 [(4, .int .i64 ((i : Int) + 1))] fun a h51 => ?_
   refine V.then_n ?_
   have htk : (T.a.take (i + 1)).flatten = (T.a.take i).flatten ++ T.a.getD i [] := flat_take (by omega)
   have hln : ((T.a.take (i + 1)).flatten).length = ((T.a.take i).flatten).length + (T.a.getD i []).length := by rw [htk, List.length_append]
   refine ⟨i + 1, A38, c39, by omega, ?_⟩
   refine ⟨((h51.eq 3 (v := (.slice A38 (((T.a.take i).flatten).length + (T.a.getD i []).length) c39)) (u := (.slice A38 (((T.a.take (i + 1)).flatten).length) c39)) (V.sl_eq hln.symm)).eq 4 (v := (.int .i64 ((i : Int) + 1))) (u := (.int .i64 ((i + 1) : Int))) (V.int_eq (by omega))).only _, (by rw [hln, htk]; exact hO41), hF_44, hB_45, hRA_46, hRB_47, hK_48, (by omega)⟩
  ·
   refine V.exit ?_
   refine V.then_e ?_
   refine V.then_e ?_
   refine V.blk_hit ?_
   refine V.then_n (k9 _ _ ?_)
   refine V.seq fun K52 k53 => ?_
   refine V.sr h30 [] 1 0 [(5, .int .i64 0)] fun a h56 => ?_
   refine V.block ?_
   refine V.loop3 (fun (i2 : Nat) (A2 : Option Addr) (c2 : Nat) a_ w_ => En 43 [] a_ [(0, .pointer (some ⟨t, 0, none⟩)), (3, .slice A2 ((T.a.flatten ++ (T.b.take i2).flatten).length) c2), (5, .int .i64 (i2 : Int))] ∧ OwR itI NoZ w_ w.heap.size 60 (.slice A2 ((T.a.flatten ++ (T.b.take i2).flatten).length) c2) (T.a.flatten ++ (T.b.take i2).flatten) ∧ Fr [] w w_ ∧ Blk w_ t [.int .u64 (T.seed : Int), .slice (some ⟨gA, 0, none⟩) T.a.length T.a.length, .slice (some ⟨gB, 0, none⟩) T.b.length T.b.length, .int .i64 (T.moved : Int), .int .i64 (T.n : Int)] 40 ∧ Row idV w_ gA vsA 42 ∧ Row idV w_ gB vsB 42 ∧ Bks itI w_ 60 H (t :: gA :: gB :: av) (vsA ++ vsB) (T.a ++ T.b) ∧ (i2 ≤ T.b.length)) (fun (i2 : Nat) (A2 : Option Addr) (c2 : Nat) => T.b.length - i2) 0 A c ?_ ?_
   ·
    have hq : (T.a.take i).flatten = T.a.flatten ++ (T.b.take 0).flatten := by (rw [List.take_of_length_le (by omega)]; simp)
    refine ⟨((h56.eq 3 (v := (.slice A (((T.a.take i).flatten).length) c)) (u := (.slice A ((T.a.flatten ++ (T.b.take 0).flatten).length) c)) (V.sl_eq (congrArg List.length hq))).eq 5 (v := (.int .i64 0)) (u := (.int .i64 (0 : Int))) (V.int_eq (by omega))).only _, (by rw [← hq]; exact hO_16), hF_17, hB_18, hRA_19, hRB_20, hK_21, (by omega)⟩
   ·
    rintro i2 A2 c2 a57 w58 ⟨h59, hO_60, hF_61, hB_62, hRA_63, hRB_64, hK_65, hii2⟩
    have hfs66 := hF_61.size
    have hlt67 := hB_62.lt
    have hlt68 := hRA_63.lt
    have hlt69 := hRB_64.lt
    have hft := flat_take_le T.b i2
    have hbq := hbl i2
    have hsum := hok0.sum
    refine V.seq fun K70 k71 => ?_
    refine V.sr h59 [(4, .b hB_62 2)] 24 29 [(30, .bool (decide ((i2 : Int) < ((T.b.length : Nat) : Int))))] fun a h74 => ?_
    refine V.cp h74 ((i2 : Int) < ((T.b.length : Nat) : Int)) (fun ht75 => ?_) (fun ht75 => ?_)
    ·
     refine V.skip ?_
     refine V.then_n (k71 _ _ ?_)
     refine V.seq fun K76 k77 => ?_
     refine V.block ?_
     obtain ⟨A78, c79, hv80⟩ := hK_65.getB hlA (i := i2) (by omega) nilS
     have hS81 := hK_65.slB hlA (i := i2) (by omega) hv80
     refine V.rg ?_
     refine V.run h74 [(4, .b hB_62 2), (1, .ix gB 0 T.b.length T.b.length .i64 (i2 : Int) 1 rfl), (0, .l ⟨gB, 0 + (i2 : Int).toNat * 1, none⟩ (.slice A78 ((T.b.getD i2 []).length) c79) ((hRB_64.at i2 nilS (by omega)).trans (congrArg some hv80)))] 8 34 39 [(33, .slice A2 ((T.a.flatten ++ (T.b.take i2).flatten).length) c2), (40, .slice A78 ((T.b.getD i2 []).length) c79)] fun a h87 => ?_
     refine V.go (V.appS (R := itI) (h87.e (v := (.slice A2 ((T.a.flatten ++ (T.b.take i2).flatten).length) c2))) (h87.e (v := (.slice A78 ((T.b.getD i2 []).length) c79))) (by kernel_rfl) info60 (by kernel_rfl) (by decide) hO_60 hS81 (fun _ _ h => h) (by (try simp only [List.length_append]); omega) (by decide) (by omega) ?_)
     intro A82 c83 w84 hO85 hF86
     have hsw84 := hF86.size
     have hF_88 := hF_61.own hF86 (own_ge hO_60 (by omega))
     have hB_89 := hB_62.fr hF86 (by first | exact own_notin hO_60 (by omega) | exact own_notin2 hO_60 (by omega))
     have hRA_90 := hRA_63.fr hF86 (by first | exact own_notin hO_60 (by omega) | exact own_notin2 hO_60 (by omega))
     have hRB_91 := hRB_64.fr hF86 (by first | exact own_notin hO_60 (by omega) | exact own_notin2 hO_60 (by omega))
     have hK_92 := hK_65.frP (FrP.of hF86) (fun k hk => .inr (fun hq => by have h1 := hHb k hq; have h2 := own_ge hO_60 (Nat.le_refl _) k hk; omega))
     refine V.pt h87 fun a h93 => ?_
     refine V.re h93 [] 1 0 [(3, .slice A82 (((T.a.flatten ++ (T.b.take i2).flatten)).length + (T.b.getD i2 []).length) c83)] fun a h94 => ?_
     refine V.blk_n ?_
     refine V.then_n (k77 _ _ ?_)
     refine V.rr h94 [(1, .i ((i2 : Int) + 1))] 31 32 [(5, .int .i64 ((i2 : Int) + 1))] fun a h95 => ?_
     refine V.then_n ?_
     have htk : (T.a.flatten ++ (T.b.take (i2 + 1)).flatten) = (T.a.flatten ++ (T.b.take i2).flatten) ++ T.b.getD i2 [] := by rw [flat_take (by omega), List.append_assoc]
     have hln : (T.a.flatten ++ (T.b.take (i2 + 1)).flatten).length = (T.a.flatten ++ (T.b.take i2).flatten).length + (T.b.getD i2 []).length := by rw [htk, List.length_append]
     refine ⟨i2 + 1, A82, c83, by omega, ?_⟩
     refine ⟨((h95.eq 3 (v := (.slice A82 (((T.a.flatten ++ (T.b.take i2).flatten)).length + (T.b.getD i2 []).length) c83)) (u := (.slice A82 ((T.a.flatten ++ (T.b.take (i2 + 1)).flatten).length) c83)) (V.sl_eq hln.symm)).eq 5 (v := (.int .i64 ((i2 : Int) + 1))) (u := (.int .i64 ((i2 + 1) : Int))) (V.int_eq (by omega))).only _, (by rw [hln, htk]; exact hO85), hF_88, hB_89, hRA_90, hRB_91, hK_92, (by omega)⟩
    ·
     refine V.exit ?_
     refine V.then_e ?_
     refine V.then_e ?_
     refine V.blk_hit ?_
     refine V.then_n (k53 _ _ ?_)
     refine V.sr h74 [] 42 42 [(2, .slice A2 ((T.a.flatten ++ (T.b.take i2).flatten).length) c2)] fun a h98 => ?_
     refine V.ret ?_
     refine V.r1 h98 (.slice A2 ((T.a.flatten ++ (T.b.take i2).flatten).length) c2) ?_
     have hq : (T.a.flatten ++ (T.b.take i2).flatten) = (T.a ++ T.b).flatten := by (rw [List.take_of_length_le (by omega), List.flatten_append])
     have hn : (T.a.flatten ++ (T.b.take i2).flatten).length = T.n := by rw [hq]; exact hok0.cn
     rw [hn, hq] at hO_60
     rw [hn]
     exact ⟨_, _, rfl, hO_60, hF_61⟩
theorem rall_any (w : World) (H : Nat → Prop) (av : List Nat) (t : Nat) (T : Tb Int) (hT : TabX 40 42 60 itI w H av t T) (hHb : ∀ k, H k → k < w.heap.size) :
    Calls Try.prog 21 #[.pointer (some ⟨t, 0, none⟩)] w (fun e w' => ∃ A c, e = .returned (.slice A T.n c) ∧ OwR itI NoZ w' w.heap.size 60 (.slice A T.n c) (T.a ++ T.b).flatten ∧ Fr [] w w') := by
  rcases hT.2 with ⟨hb, gA, vsA, h⟩ | ⟨hb, gA, gB, vsA, vsB, h⟩
  · exact rall_N w H av t gA vsA T hT.1 h hHb (by rw [hb]; rfl)
  · exact rall_M w H av t gA gB vsA vsB T hT.1 h hHb (fun h => hb (List.eq_nil_of_length_eq_zero h))
end Go.Proofs.Ytalhmegjomfbaaa
