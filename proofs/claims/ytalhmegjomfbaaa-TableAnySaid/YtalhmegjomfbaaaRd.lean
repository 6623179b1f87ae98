/- Walks: the reference: without, Del. -/
import Derived.Test.YtalhmegjomfbaaaProg
import Derived.Test.YtalhmegjomfbaaaRc
import Derived.Test.YtalhmegjomfbaaaTabW
import Derived.Test.YtalhmegjomfbaaaTi
namespace Go.Proofs.Ytalhmegjomfbaaa
open Go.V Go.Base
open Go.RowKit (Below)
attribute [local irreducible] Act.put Act.eval
set_option linter.unusedVariables false
set_option linter.unusedSimpArgs false
set_option maxHeartbeats 4000000 in
set_option maxRecDepth 20000 in
theorem rwithout_any (w : World) (g o c i : Nat) (xs : List (ByteArray × Int)) (hS : SlR itI (fun b => b < w.heap.size) w (.slice (some ⟨g, o, none⟩) xs.length c) xs) (hi : i < xs.length) (hc : xs.length ≤ c) (hl : xs.length ≤ 1099511627776) : Calls Try.prog 73 #[.slice (some ⟨g, o, none⟩) xs.length c, .int .i64 (i : Int)] w (fun e w' => ∃ A c', e = .returned (.slice A (xs.length - 1) c') ∧ OwR itI NoZ w' w.heap.size 60 (.slice A (xs.length - 1) c') (xs.eraseIdx i) ∧ Fr [] w w') := by
 have hF := Fr.refl [] w
 refine V.en 15 Try.func73 fun a h1 => ?_
 refine V.sr h1 [] 4 4 [] fun a h4 => ?_
 refine V.seq fun K5 k6 => ?_
 refine V.pl [([1,2,3,5,6,7,8],some (0,[])),([],some (4,[])),([],some (9,[])),([10],none)] fun w7 hF8 hsw7 => ?_
 have hF_9 := hF.new hF8
 have hS_10 := hS.fr0 hF8
 refine V.pe0 ?_
 refine V.run h4 [] 2 1 0 [(6, .slice (some ⟨g, o, none⟩) xs.length c), (7, .int .i64 (i : Int))] fun a h11 => ?_
 refine V.go (V.slc (e := 60) (sz := 2) g o xs.length c 0 i c (h11.e (v := (.slice (some ⟨g, o, none⟩) xs.length c))) rfl ⟨_, ((h11.e (v := (.int .i64 (i : Int))))).trans (V.int_eq (by omega))⟩ rfl (by omega) (by omega) (by omega) (by kernel_rfl) (by kernel_rfl) ?_)
 intro ad12 had13 hae14
 obtain rfl := hae14 rfl
 refine V.pt h11 fun a h15 => ?_
 have hS16 := hS_10.takeN (i := i) (by omega)
 refine V.run h15 [(2, .i ((i : Int) + 1))] 3 1 0 [(10, .slice (some ⟨g, o, none⟩) xs.length c), (11, .int .i64 (i : Int)), (12, .int .i64 ((i : Int) + 1))] fun a h17 => ?_
 refine V.go (V.slc (e := 60) (sz := 2) g o xs.length c (i + 1) xs.length c (h17.e (v := (.slice (some ⟨g, o, none⟩) xs.length c))) ⟨_, ((h17.e (v := (.int .i64 ((i : Int) + 1))))).trans (V.int_eq (by omega))⟩ ⟨rfl, rfl⟩ rfl (by omega) (by omega) (by omega) (by kernel_rfl) (by kernel_rfl) ?_)
 intro ad18 had19 hae20
 refine V.pt h17 fun a h21 => ?_
 have hS22 := hS_10.dropN (i := i + 1) (by omega) (ad := ad18) (fun hq => by rw [had19 (by omega)]; rfl) (m := xs.length - (i + 1)) rfl
 refine V.se h21 [] 1 0 [] fun a h23 => ?_
 refine V.go (V.mk [] trivial (by kernel_rfl) [] 60 (fun b => .slice (some ⟨b, 0, none⟩) 0 0) (by kernel_rfl) ?_)
 intro w25 b24 heb24 hB26 hF27 hsb24
 have hF_28 := hF_9.new hF27
 have hS_29 := hS_10.fr0 hF27
 have hS16_30 := hS16.fr0 hF27
 have hS22_31 := hS22.fr0 hF27
 refine V.pt h23 fun a h32 => ?_
 have hO33 := OwR.empty (R := itI) (base := w.heap.size) hB26 (by omega)
 refine V.eh trivial ?_
 refine V.pe h32 [] 1 0 [] fun a h34 => ?_
 refine V.go (V.appS (R := itI) (h34.e (v := (.slice (some ⟨b24, 0, none⟩) 0 0))) (h34.e (v := (.slice (some ⟨g, o, none⟩) (i - 0) (c - 0)))) (by kernel_rfl) info60 (by kernel_rfl) (by decide) hO33 hS16_30 (fun _ _ h => h) (by simp only [List.length_append, List.length_nil, List.length_take, List.length_drop]; omega) (by decide) (by omega) ?_)
 intro A35 c36 w37 hO38 hF39
 have hsw37 := hF39.size
 have hF_40 := hF_28.own hF39 (own_ge hO33 (by omega))
 have hS_41 := hS_29.fr hF39 (by intro b hb hz; have := own_ge hO33 (Nat.le_refl _) b hb; (try dsimp only at hz); omega)
 have hS16_42 := hS16_30.fr hF39 (by intro b hb hz; have := own_ge hO33 (Nat.le_refl _) b hb; (try dsimp only at hz); omega)
 have hS22_43 := hS22_31.fr hF39 (by intro b hb hz; have := own_ge hO33 (Nat.le_refl _) b hb; (try dsimp only at hz); omega)
 refine V.pt h34 fun a h44 => ?_
 refine V.eh trivial ?_
 refine V.pe h44 [] 1 0 [] fun a h45 => ?_
 refine V.go (V.appS (R := itI) (h45.e (v := (.slice A35 (([]).length + (xs.take i).length) c36))) (h45.e (v := (.slice (some ad18) (xs.length - (i + 1)) (c - (i + 1))))) (by kernel_rfl) info60 (by kernel_rfl) (by decide) hO38 hS22_43 (fun _ _ h => h) (by simp only [List.length_append, List.length_nil, List.length_take, List.length_drop]; omega) (by decide) (by omega) ?_)
 intro A46 c47 w48 hO49 hF50
 have hsw48 := hF50.size
 have hF_51 := hF_40.own hF50 (own_ge hO38 (by omega))
 have hS_52 := hS_41.fr hF50 (by intro b hb hz; have := own_ge hO38 (Nat.le_refl _) b hb; (try dsimp only at hz); omega)
 have hS16_53 := hS16_42.fr hF50 (by intro b hb hz; have := own_ge hO38 (Nat.le_refl _) b hb; (try dsimp only at hz); omega)
 have hS22_54 := hS22_43.fr hF50 (by intro b hb hz; have := own_ge hO38 (Nat.le_refl _) b hb; (try dsimp only at hz); omega)
 refine V.pt h45 fun a h55 => ?_
 refine V.eh trivial ?_
 refine V.pz h55 [] 1 0 [(4, .slice A46 ((([]) ++ (xs.take i)).length + (xs.drop (i + 1)).length) c47)] fun a h56 => k6 _ _ ?_
 refine V.ret ?_
 refine V.r1 h56 (.slice A46 ((([]) ++ (xs.take i)).length + (xs.drop (i + 1)).length) c47) ?_
 have hl : (([]) ++ (xs.take i)) ++ (xs.drop (i + 1)) = xs.eraseIdx i := by rw [List.nil_append, List.eraseIdx_eq_take_drop_succ]
 have hn : (([]) ++ (xs.take i)).length + (xs.drop (i + 1)).length = xs.length - 1 := by simp only [List.length_append, List.length_nil, List.length_take, List.length_drop]; omega
 rw [hl, hn] at hO49
 rw [hn]
 exact ⟨_, _, rfl, hO49, hF_51⟩
set_option maxHeartbeats 4000000 in
set_option maxRecDepth 20000 in
theorem rdel_any (w : World) (H : Nat → Prop) (av : List Nat) (t : Nat) (T : Tb Int) (hT : TabX 40 42 60 itI w H av t T) (hm : T.Mv) (k : ByteArray) (hkz : k.size ≤ 9223372036854775807) (hp8 : 4 < (tbStep T).a.length → (tbStep T).a.length % 8 = 0) : Calls Try.prog 47 #[.pointer (some ⟨t, 0, none⟩), .string k] w (fun e w' => e = .returned (.bool (findT (tbStep T) k).2) ∧ TabX 40 42 60 itI w' (gr H w w') av t (delT T k) ∧ FrP (gp H av) w w') := by
 have hFP := FrP.refl (gp H av) w
 obtain ⟨hok0, hm1⟩ := tbStep_ok hT.1 hm
 obtain ⟨T1, hT1⟩ : ∃ T1, T1 = tbStep T := ⟨_, rfl⟩
 rw [← hT1] at hok0 hm1 hp8 ⊢
 refine V.en 95 Try.func47 fun a h1 => ?_
 refine V.sr h1 [] 4 4 [] fun a h4 => ?_
 refine V.sg fun K5 k6 => ?_
 refine V.run h4 [] 1 1 0 [(8, .pointer (some ⟨t, 0, none⟩))] fun a h7 => ?_
 refine V.cl h7 (Go.Proofs.enters_of Try.func49 (by kernel_rfl) rfl) (rstep_any w (H) (av) t (T) hT hm) ?_
 rintro _ w10 ⟨rfl, hT8, hfp9⟩
 refine ⟨_, rfl, fun a h11 => ?_⟩
 have hsw10 := hfp9.size
 have hFP_12 := hFP.trP hfp9 (fun k hk => .inl hk)
 have hT8q := hT8.grm (w := w) (by omega)
 rw [← hT1] at hT8q
 refine V.nt (k6 _ _ ?_)
 refine V.sg fun K13 k14 => ?_
 refine V.run h11 [] 2 1 0 [(11, .pointer (some ⟨t, 0, none⟩)), (12, .string k)] fun a h15 => ?_
 have hok1 := hT8q.1
 rcases findT_cases hok1 k with hf | ⟨j, hf, hj⟩ | ⟨hbn, j, hf, hj⟩
 ·
  rcases hT8q.2 with ⟨hb0, gA, vsA, hN⟩ | ⟨hb0, gA, gB, vsA, vsB, hN⟩
  ·
   have hb1 : T1.b.length = 0 := by rw [hb0]; rfl
   obtain ⟨hB, hRA, hlA, hK, hne, hpt, hpg⟩ := hN
   replace hK := hK.toH
   have hltt := hB.lt
   have hltg := hRA.lt
   have hE : FrP (gp (gr H w w10) av) w10 w10 := FrP.refl _ _
   have hK0 : ∀ k ∈ av, k < w10.heap.size := fun k hk => hK.avl k (by simp [hk])
   obtain ⟨hsd, hpa, hla, hlb, hmv, hmz, hnn, hcn, hks⟩ := (show T1.Ok from hok1)
   have hbl := hok1.bl
   have hFPE := hFP_12
   refine V.go (V.call 71 #[] #[.pointer (some ⟨t, 0, none⟩), .string k] evf (args2 h15.e h15.e) (Go.Proofs.enters_of Try.func71 (by kernel_rfl) rfl) (by have h := rfind_any w10 (gr H w w10) (av) t T1 hT8q k hkz; rw [rfT_no hf] at h; exact h) ?_)
   rintro _ w17 ⟨rfl, hF16⟩
   refine ⟨_, rfl, ?_⟩
   have hsw17 := hF16.size
   have hB_18 := hB.fr0 hF16
   have hRA_19 := hRA.fr0 hF16
   have hK_20 := hK.fr0 hF16
   have hE_21 := hE.tr0 hF16
   refine V.pt h15 fun a h22 => ?_
   refine V.re h22 [] 10 16 [(5, .int .i64 (-1)), (6, .int .i64 0), (7, .int .i64 0)] fun a h23 => k14 _ _ ?_
   refine V.seq fun K24 k25 => ?_
   refine V.sr h23 [] 17 17 [(18, .bool true)] fun a h28 => ?_
   refine V.ct h28 ?_
   refine V.sr h28 [] 1 0 [(4, .bool false)] fun a h31 => ?_
   refine V.ret ?_
   refine V.then_r ?_
   refine V.r1 h31 (.bool false) ?_
   have hst : delT T k = T1 := by (unfold delT; rw [← hT1]; unfold del1T; rw [hf, if_neg (by simp)])
   rw [hst]
   exact ⟨by rw [hf], (TabN.fin (T := T1) hok1 hb0 hB_18 hRA_19 (by have h := hK_20; rw [List.append_nil, List.append_nil] at h; exact h) (mem3 (l := (t :: gA :: av)) (by simp) (by simp) (by intro k hk; simp [hk])) (by first | assumption | exact Ne.symm (by assumption) | omega) hpt ⟨.inl hpg.1, hpg.2⟩ rfl rfl rfl rfl rfl).gr3 (by omega), (hFPE.gr hE_21)⟩
  ·
   have hb1 : T1.b.length ≠ 0 := fun h => hb0 (List.eq_nil_of_length_eq_zero h)
   obtain ⟨hB, hRA, hRB, hlA, hlB, hK, hne, hne2, hne3, hpt, hpg, hph⟩ := hN
   replace hK := hK.toH
   have hltt := hB.lt
   have hltg := hRA.lt
   have hltg2 := hRB.lt
   have hE : FrP (gp (gr H w w10) av) w10 w10 := FrP.refl _ _
   have hK0 : ∀ k ∈ av, k < w10.heap.size := fun k hk => hK.avl k (by simp [hk])
   obtain ⟨hsd, hpa, hla, hlb, hmv, hmz, hnn, hcn, hks⟩ := (show T1.Ok from hok1)
   have hbl := hok1.bl
   have hFPE := hFP_12
   refine V.go (V.call 71 #[] #[.pointer (some ⟨t, 0, none⟩), .string k] evf (args2 h15.e h15.e) (Go.Proofs.enters_of Try.func71 (by kernel_rfl) rfl) (by have h := rfind_any w10 (gr H w w10) (av) t T1 hT8q k hkz; rw [rfT_no hf] at h; exact h) ?_)
   rintro _ w33 ⟨rfl, hF32⟩
   refine ⟨_, rfl, ?_⟩
   have hsw33 := hF32.size
   have hB_34 := hB.fr0 hF32
   have hRA_35 := hRA.fr0 hF32
   have hRB_36 := hRB.fr0 hF32
   have hK_37 := hK.fr0 hF32
   have hE_38 := hE.tr0 hF32
   refine V.pt h15 fun a h39 => ?_
   refine V.re h39 [] 10 16 [(5, .int .i64 (-1)), (6, .int .i64 0), (7, .int .i64 0)] fun a h40 => k14 _ _ ?_
   refine V.seq fun K41 k42 => ?_
   refine V.sr h40 [] 17 17 [(18, .bool true)] fun a h45 => ?_
   refine V.ct h45 ?_
   refine V.sr h45 [] 1 0 [(4, .bool false)] fun a h48 => ?_
   refine V.ret ?_
   refine V.then_r ?_
   refine V.r1 h48 (.bool false) ?_
   have hst : delT T k = T1 := by (unfold delT; rw [← hT1]; unfold del1T; rw [hf, if_neg (by simp)])
   rw [hst]
   exact ⟨by rw [hf], (TabM.fin (T := T1) hok1 hb0 hB_34 hRA_35 hRB_36 (by first | exact hlA | (simp only [List.length_set]; exact hlA)) hK_37 (mem4 (l := (t :: gA :: gB :: av)) (by simp) (by simp) (by simp) (by intro k hk; simp [hk])) (by first | assumption | omega) (by first | assumption | omega) (by first | assumption | omega) hpt ⟨.inl hpg.1, hpg.2⟩ ⟨.inl hph.1, hph.2⟩ rfl rfl rfl rfl rfl rfl rfl).gr3 (by omega), (hFPE.gr hE_38)⟩
 ·
  rcases hT8q.2 with ⟨hb0, gA, vsA, hN⟩ | ⟨hb0, gA, gB, vsA, vsB, hN⟩
  ·
   have hb1 : T1.b.length = 0 := by rw [hb0]; rfl
   obtain ⟨hB, hRA, hlA, hK, hne, hpt, hpg⟩ := hN
   replace hK := hK.toH
   have hltt := hB.lt
   have hltg := hRA.lt
   have hE : FrP (gp (gr H w w10) av) w10 w10 := FrP.refl _ _
   have hK0 : ∀ k ∈ av, k < w10.heap.size := fun k hk => hK.avl k (by simp [hk])
   obtain ⟨hsd, hpa, hla, hlb, hmv, hmz, hnn, hcn, hks⟩ := (show T1.Ok from hok1)
   have hbl := hok1.bl
   have hFPE := hFP_12
   refine V.go (V.call 71 #[] #[.pointer (some ⟨t, 0, none⟩), .string k] evf (args2 h15.e h15.e) (Go.Proofs.enters_of Try.func71 (by kernel_rfl) rfl) (by have h := rfind_any w10 (gr H w w10) (av) t T1 hT8q k hkz; rw [rfT_yes hf] at h; exact h) ?_)
   rintro _ w50 ⟨rfl, hF49⟩
   refine ⟨_, rfl, ?_⟩
   have hsw50 := hF49.size
   have hB_51 := hB.fr0 hF49
   have hRA_52 := hRA.fr0 hF49
   have hK_53 := hK.fr0 hF49
   have hE_54 := hE.tr0 hF49
   refine V.pt h15 fun a h55 => ?_
   have hbkl := bkt_lt T1.seed k (n := T1.a.length) (by omega)
   have hbq := hbl (bkt T1.seed T1.a.length k)
   refine V.re h55 [] 10 16 [(5, .int .i64 0), (6, .int .i64 ((bkt T1.seed T1.a.length k : Nat) : Int)), (7, .int .i64 (j : Int))] fun a h56 => k14 _ _ ?_
   refine V.seq fun K57 k58 => ?_
   refine V.sr h56 [] 17 17 [(18, .bool false)] fun a h61 => ?_
   refine V.cf h61 ?_
   refine V.skip ?_
   refine V.then_n (k58 _ _ ?_)
   refine V.seq fun K62 k63 => ?_
   refine V.sr h61 [] 19 19 [(20, .bool true)] fun a h66 => ?_
   refine V.ct h66 ?_
   refine V.pl [([0,1,2,3,4,5,6,7,8,9,10,11,12],some (13,[3])),([14],some (15,[])),([],none)] fun w67 hF68 hsw67 => ?_
   have hB_69 := hB_51.fr0 hF68
   have hRA_70 := hRA_52.fr0 hF68
   have hK_71 := hK_53.fr0 hF68
   have hE_72 := hE_54.tr0 hF68
   obtain ⟨A73, c74, hv75⟩ := hK_71.getA hlA (i := (bkt T1.seed T1.a.length k)) (by omega) nilS
   have hS76 := hK_71.slA hlA (i := (bkt T1.seed T1.a.length k)) (by omega) hv75
   refine V.pe h66 [(3, .b hB_69 1), (4, .b hB_69 1), (1, .ix gA 0 T1.a.length T1.a.length .i64 ((bkt T1.seed T1.a.length k : Nat) : Int) 1 rfl), (0, .l ⟨gA, 0 + ((bkt T1.seed T1.a.length k : Nat) : Int).toNat * 1, none⟩ (.slice A73 ((T1.a.getD (bkt T1.seed T1.a.length k) []).length) c74) ((hRA_70.at (bkt T1.seed T1.a.length k) nilS (by omega)).trans (congrArg some hv75)))] 21 31 [(23, .pointer (some ⟨t, 1, none⟩)), (24, .slice (some ⟨gA, 0, none⟩) T1.a.length T1.a.length), (25, .int .i64 ((bkt T1.seed T1.a.length k : Nat) : Int)), (32, .slice A73 ((T1.a.getD (bkt T1.seed T1.a.length k) []).length) c74), (33, .int .i64 (j : Int))] fun a h77 => ?_
   obtain ⟨g85, o86, hAe, _, _⟩ := hS76.addr (by omega)
   have hSz83 := hS76.zone (Z' := fun b => b < w67.heap.size) (fun b hb _ => hb)
   rw [hAe] at hSz83
   have hA84 := hS76.cap
   refine V.cl (av := #[.slice A73 ((T1.a.getD (bkt T1.seed T1.a.length k) []).length) c74, .int .i64 (j : Int)]) h77 (Go.Proofs.enters_of Try.func73 (by kernel_rfl) rfl) (by (rw [hAe]; exact rwithout_any w67 g85 o86 c74 j (T1.a.getD (bkt T1.seed T1.a.length k) []) hSz83 (by omega) hA84 (by omega))) ?_
   rintro _ w87 ⟨A80, c81, rfl, hOr78, hF79⟩
   refine ⟨_, rfl, fun a h88 => ?_⟩
   have hsw87 := hF79.size
   have hB_89 := hB_69.fr0 hF79
   have hRA_90 := hRA_70.fr0 hF79
   have hE_91 := hE_72.tr0 hF79
   have hS76_92 := hS76.fr0 hF79
   have hK82 := hK_71.newA hlA (i := (bkt T1.seed T1.a.length k)) (by omega) hF79 hOr78 (fun k hk => .inr (by omega))
   refine V.eh (fun _ => held_blk (n := 1) (hx := (h77.e (v := (.pointer (some ⟨t, 1, none⟩))))) hB_69 hB_89 (by kernel_rfl) rfl (by simp only [List.length]; omega)) ?_
   refine V.pe h88 [(0, .ix gA 0 T1.a.length T1.a.length .i64 ((bkt T1.seed T1.a.length k : Nat) : Int) 1 rfl)] 1 0 [(35, .pointer (some ⟨gA, 0 + ((bkt T1.seed T1.a.length k : Nat) : Int).toNat * 1, none⟩))] fun a h93 => ?_
   refine V.go (V.strow (enc := idV) gA (((bkt T1.seed T1.a.length k : Nat) : Int).toNat) (.slice A80 ((T1.a.getD (bkt T1.seed T1.a.length k) []).length - 1) c81) h93.e h93.e rfl rfl (by kernel_rfl) hRA_90 (by first | omega | (simp only [List.length_set, List.length_replicate]; omega)) ?_)
   intro w94 hR95 hF96 hsw94
   have hB_97 := hB_89.fr1 hF96 (by omega)
   have hE_98 := hE_91.tr1 hF96 (by first | exact .inl (by assumption) | exact .inr (by omega) | exact .inl (.inl rfl))
   have hK82_99 := hK82.fr hF96 (by simp)
   refine V.eh trivial ?_
   refine V.pz h93 [] 1 0 [] fun a h100 => k63 _ _ ?_
   refine V.sg fun K101 k102 => ?_
   refine V.run h100 [(3, .b hB_97 4), (0, .i ((T1.n : Int) - 1))] 7 51 56 [(55, .int .i64 ((T1.n : Int) - 1)), (57, .pointer (some ⟨t, 4, none⟩))] fun a h106 => ?_
   refine V.go (V.stn t 4 (.int .i64 ((T1.n : Int) - 1)) [.int .i64 ((T1.n : Int) - 1)] h106.e h106.e rfl rfl (by kernel_rfl) hB_97 (by simp) [.int .u64 (T1.seed : Int), .slice (some ⟨gA, 0, none⟩) T1.a.length T1.a.length, .slice none 0 0, .int .i64 (T1.moved : Int), .int .i64 ((T1.n : Int) - 1)] rfl ?_)
   intro w103 hB104 hF105 hsw103
   have hE_107 := hE_98.tr1 hF105 (by first | exact .inl (by assumption) | exact .inr (by omega) | exact .inl (.inl rfl))
   have hK82_108 := hK82_99.fr hF105 (by simp)
   have hR95_109 := hR95.fr1 hF105 (by omega)
   refine V.nt (k102 _ _ ?_)
   refine V.seq fun K110 k111 => ?_
   refine V.seq fun K112 k113 => ?_
   refine V.pl [([0,1,2,3,4,5,6,7,8,9,10,11,12,13,14,15,16,17,18,19,20,21,22,23,24,25,26],none)] fun w114 hF115 hsw114 => ?_
   have hE_116 := hE_107.tr0 hF115
   have hK82_117 := hK82_108.fr0 hF115
   have hR95_118 := hR95_109.fr0 hF115
   have hB104_119 := hB104.fr0 hF115
   refine V.pz0 ?_
   refine V.run h106 [(3, .b hB104_119 2), (6, .b hB104_119 1)] 15 59 71 [(58, .pointer (some ⟨t, 0, none⟩)), (61, .slice none 0 0), (62, .int .i64 0), (64, .bool true), (65, .pointer (some ⟨t, 0, none⟩)), (68, .slice (some ⟨gA, 0, none⟩) T1.a.length T1.a.length), (69, .int .i64 ((T1.a.length : Nat) : Int)), (72, .bool (decide (((T1.a.length : Nat) : Int) > 4)))] fun a h120 => ?_
   by_cases hg121 : ((T1.a.length : Nat) : Int) > 4
   ·
    have h122 := h120.kt 72 hg121
    refine V.se h122 [(3, .b hB104_119 4), (0, .i (((T1.n : Int) - 1) * 8)), (3, .b hB104_119 1)] 74 83 [(73, .pointer (some ⟨t, 0, none⟩)), (76, .int .i64 ((T1.n : Int) - 1)), (77, .int .i64 (((T1.n : Int) - 1) * 8)), (78, .pointer (some ⟨t, 0, none⟩)), (81, .slice (some ⟨gA, 0, none⟩) T1.a.length T1.a.length), (82, .int .i64 ((T1.a.length : Nat) : Int)), (84, .bool (decide ((((T1.n : Int) - 1) * 8) < ((T1.a.length : Nat) : Int))))] fun a h123 => k113 _ _ ?_
    have h124 := h123.only [(0, .pointer (some ⟨t, 0, none⟩)), (84, .bool (decide ((((T1.n : Int) - 1) * 8) < ((T1.a.length : Nat) : Int))))]
    refine V.cp h124 ((((T1.n : Int) - 1) * 8) < ((T1.a.length : Nat) : Int)) (fun ht125 => ?_) (fun ht125 => ?_)
    ·
     refine V.rg ?_
     refine V.run h124 [(4, .b hB104_119 1), (1, .quoN T1.a.length 2)] 7 86 90 [(85, .pointer (some ⟨t, 0, none⟩)), (91, .int .i64 ((T1.a.length / 2 : Nat) : Int))] fun a h130 => ?_
     refine V.go (V.mks (enc := idV) (T1.a.length / 2) (.slice none 0 0) nilS 24 ((h130.e (v := (.int .i64 ((T1.a.length / 2 : Nat) : Int)))).trans (V.int_eq (by omega))) ((h130.e (v := (.int .i64 ((T1.a.length / 2 : Nat) : Int)))).trans (V.int_eq (by omega))) (by kernel_rfl) info42 rfl rfl (by omega) (by omega) ?_)
     intro w127 b126 heb126 hR128 hF129
     have hsb126 := hR128.lt
     have hE_131 := hE_116.tr0 hF129
     have hK82_132 := hK82_117.alloc hF129 heb126 (by omega)
     have hR95_133 := hR95_118.fr0 hF129
     have hB104_134 := hB104_119.fr0 hF129
     refine V.pt h130 fun a h135 => ?_
     refine V.run h135 [] 2 93 93 [(94, .pointer (some ⟨t, 2, none⟩))] fun a h139 => ?_
     refine V.go (V.stn t 2 (.slice (some ⟨b126, 0, none⟩) (T1.a.length / 2) (T1.a.length / 2)) [.slice (some ⟨b126, 0, none⟩) (T1.a.length / 2) (T1.a.length / 2)] h139.e h139.e rfl rfl (by kernel_rfl) hB104_134 (by simp) [.int .u64 (T1.seed : Int), .slice (some ⟨gA, 0, none⟩) T1.a.length T1.a.length, .slice (some ⟨b126, 0, none⟩) (T1.a.length / 2) (T1.a.length / 2), .int .i64 (T1.moved : Int), .int .i64 ((T1.n : Int) - 1)] rfl ?_)
     intro w136 hB137 hF138 hsw136
     have hE_140 := hE_131.tr1 hF138 (by first | exact .inl (by assumption) | exact .inr (by omega) | exact .inl (.inl rfl))
     have hK82_141 := hK82_132.fr hF138 (by simp)
     have hR95_142 := hR95_133.fr1 hF138 (by omega)
     have hR128_143 := hR128.fr1 hF138 (by omega)
     refine V.nt (k111 _ _ ?_)
     refine V.sr h139 [] 1 0 [(4, .bool true)] fun a h146 => ?_
     refine V.ret ?_
     refine V.r1 h146 (.bool true) ?_
     have hst : delT T k = shrT (rm1T T1 k) := by (unfold delT; rw [← hT1]; unfold del1T; rw [hf, if_pos rfl])
     have hu2 : rm1T T1 k = ({ T1 with a := rmV T1.a (bkt T1.seed T1.a.length k) j, n := T1.n - 1 } : Tb Int) := by (unfold rm1T; rw [hf]; simp)
     have hup := (rm1T_ok hok1 hm1 k (by rw [hf])).1
     rw [hu2] at hup
     rw [hst, hu2]
     have hsh : shrT ({ T1 with a := rmV T1.a (bkt T1.seed T1.a.length k) j, n := T1.n - 1 } : Tb Int) = startT ({ T1 with a := rmV T1.a (bkt T1.seed T1.a.length k) j, n := T1.n - 1 } : Tb Int) (T1.a.length / 2) := by (unfold shrT; rw [if_pos ⟨hb1, by show 4 < (rmV T1.a (bkt T1.seed T1.a.length k) j).length; rw [rmV_length]; omega, by show T1.n - 1 < (rmV T1.a (bkt T1.seed T1.a.length k) j).length / 8; rw [rmV_length]; have := hp8 (by omega); omega⟩]; show startT _ ((rmV T1.a (bkt T1.seed T1.a.length k) j).length / 2) = _; rw [rmV_length])
     rw [hsh]
     have hsk := (shrT_ok (T := ({ T1 with a := rmV T1.a (bkt T1.seed T1.a.length k) j, n := T1.n - 1 } : Tb Int)) hup (by have := (rm1T_ok hok1 hm1 k (by rw [hf])).2; rwa [hu2] at this)).1
     rw [hsh] at hsk
     have hKa147 := hK82_141.addNil (T1.a.length / 2)
     simp only [List.append_nil] at hKa147
     exact ⟨by rw [hf], (TabM.fin (T := (startT ({ T1 with a := rmV T1.a (bkt T1.seed T1.a.length k) j, n := T1.n - 1 } : Tb Int) (T1.a.length / 2))) hsk (by simp only [startT]; intro h; have := congrArg List.length h; simp at this; omega) hB137 hR95_142 hR128_143 (by rw [List.length_set, List.length_set]; exact hlA) hKa147 (mem4 (l := (b126 :: t :: gA :: av)) (by simp) (by simp) (by simp) (by intro k hk; simp [hk])) (by first | assumption | omega) (by first | assumption | omega) (by first | assumption | omega) hpt ⟨.inl hpg.1, hpg.2⟩ ⟨.inr (by omega), fun hm => by have := hK0 _ hm; omega⟩ rfl (rmV_length _ _ _).symm (by have h := hmz hb1; show ((T1.moved : Nat) : Int) = ((0 : Nat) : Int); omega) (by show ((T1.n : Int) - 1) = ((T1.n - 1 : Nat) : Int); omega) rfl rfl (by simp [startT])).gr3 (by omega), (hFPE.gr hE_140)⟩
    ·
     refine V.skip ?_
     refine V.then_n (k111 _ _ ?_)
     refine V.sr h124 [] 1 0 [(4, .bool true)] fun a h150 => ?_
     refine V.ret ?_
     refine V.r1 h150 (.bool true) ?_
     have hst : delT T k = shrT (rm1T T1 k) := by (unfold delT; rw [← hT1]; unfold del1T; rw [hf, if_pos rfl])
     have hu2 : rm1T T1 k = ({ T1 with a := rmV T1.a (bkt T1.seed T1.a.length k) j, n := T1.n - 1 } : Tb Int) := by (unfold rm1T; rw [hf]; simp)
     have hup := (rm1T_ok hok1 hm1 k (by rw [hf])).1
     rw [hu2] at hup
     rw [hst, hu2]
     have hsh : shrT ({ T1 with a := rmV T1.a (bkt T1.seed T1.a.length k) j, n := T1.n - 1 } : Tb Int) = ({ T1 with a := rmV T1.a (bkt T1.seed T1.a.length k) j, n := T1.n - 1 } : Tb Int) := by (unfold shrT; rw [if_neg]; rintro ⟨_, h1, h2⟩; (have h3 : 4 < (rmV T1.a (bkt T1.seed T1.a.length k) j).length := h1); (have h4 : T1.n - 1 < (rmV T1.a (bkt T1.seed T1.a.length k) j).length / 8 := h2); rw [rmV_length] at h3 h4; have := hp8 h3; omega)
     rw [hsh]
     exact ⟨by rw [hf], (TabN.fin (T := ({ T1 with a := rmV T1.a (bkt T1.seed T1.a.length k) j, n := T1.n - 1 } : Tb Int)) hup hb0 hB104_119 hR95_118 (by have h := hK82_117; rw [List.append_nil, List.append_nil] at h; exact h) (mem3 (l := (t :: gA :: av)) (by simp) (by simp) (by intro k hk; simp [hk])) (by first | assumption | exact Ne.symm (by assumption) | omega) hpt ⟨.inl hpg.1, hpg.2⟩ rfl (rmV_length _ _ _).symm rfl (by show ((T1.n : Int) - 1) = ((T1.n - 1 : Nat) : Int); omega) rfl).gr3 (by omega), (hFPE.gr hE_116)⟩
   ·
    have h151 := h120.kf 72 hg121
    refine V.se h151 [] 74 83 [(73, undef), (76, undef), (77, undef), (78, undef), (81, undef), (82, undef), (84, .bool false)] fun a h152 => k113 _ _ ?_
    have h153 := h152.only [(0, .pointer (some ⟨t, 0, none⟩)), (84, .bool false)]
    refine V.cf h153 ?_
    refine V.skip ?_
    refine V.then_n (k111 _ _ ?_)
    refine V.sr h153 [] 1 0 [(4, .bool true)] fun a h156 => ?_
    refine V.ret ?_
    refine V.r1 h156 (.bool true) ?_
    have hst : delT T k = shrT (rm1T T1 k) := by (unfold delT; rw [← hT1]; unfold del1T; rw [hf, if_pos rfl])
    have hu2 : rm1T T1 k = ({ T1 with a := rmV T1.a (bkt T1.seed T1.a.length k) j, n := T1.n - 1 } : Tb Int) := by (unfold rm1T; rw [hf]; simp)
    have hup := (rm1T_ok hok1 hm1 k (by rw [hf])).1
    rw [hu2] at hup
    rw [hst, hu2]
    have hsh : shrT ({ T1 with a := rmV T1.a (bkt T1.seed T1.a.length k) j, n := T1.n - 1 } : Tb Int) = ({ T1 with a := rmV T1.a (bkt T1.seed T1.a.length k) j, n := T1.n - 1 } : Tb Int) := by (unfold shrT; rw [if_neg]; rintro ⟨_, h1, h2⟩; (have h3 : 4 < (rmV T1.a (bkt T1.seed T1.a.length k) j).length := h1); (have h4 : T1.n - 1 < (rmV T1.a (bkt T1.seed T1.a.length k) j).length / 8 := h2); rw [rmV_length] at h3 h4; have := hp8 h3; omega)
    rw [hsh]
    exact ⟨by rw [hf], (TabN.fin (T := ({ T1 with a := rmV T1.a (bkt T1.seed T1.a.length k) j, n := T1.n - 1 } : Tb Int)) hup hb0 hB104_119 hR95_118 (by have h := hK82_117; rw [List.append_nil, List.append_nil] at h; exact h) (mem3 (l := (t :: gA :: av)) (by simp) (by simp) (by intro k hk; simp [hk])) (by first | assumption | exact Ne.symm (by assumption) | omega) hpt ⟨.inl hpg.1, hpg.2⟩ rfl (rmV_length _ _ _).symm rfl (by show ((T1.n : Int) - 1) = ((T1.n - 1 : Nat) : Int); omega) rfl).gr3 (by omega), (hFPE.gr hE_116)⟩
  ·
   have hb1 : T1.b.length ≠ 0 := fun h => hb0 (List.eq_nil_of_length_eq_zero h)
   obtain ⟨hB, hRA, hRB, hlA, hlB, hK, hne, hne2, hne3, hpt, hpg, hph⟩ := hN
   replace hK := hK.toH
   have hltt := hB.lt
   have hltg := hRA.lt
   have hltg2 := hRB.lt
   have hE : FrP (gp (gr H w w10) av) w10 w10 := FrP.refl _ _
   have hK0 : ∀ k ∈ av, k < w10.heap.size := fun k hk => hK.avl k (by simp [hk])
   obtain ⟨hsd, hpa, hla, hlb, hmv, hmz, hnn, hcn, hks⟩ := (show T1.Ok from hok1)
   have hbl := hok1.bl
   have hFPE := hFP_12
   refine V.go (V.call 71 #[] #[.pointer (some ⟨t, 0, none⟩), .string k] evf (args2 h15.e h15.e) (Go.Proofs.enters_of Try.func71 (by kernel_rfl) rfl) (by have h := rfind_any w10 (gr H w w10) (av) t T1 hT8q k hkz; rw [rfT_yes hf] at h; exact h) ?_)
   rintro _ w158 ⟨rfl, hF157⟩
   refine ⟨_, rfl, ?_⟩
   have hsw158 := hF157.size
   have hB_159 := hB.fr0 hF157
   have hRA_160 := hRA.fr0 hF157
   have hRB_161 := hRB.fr0 hF157
   have hK_162 := hK.fr0 hF157
   have hE_163 := hE.tr0 hF157
   refine V.pt h15 fun a h164 => ?_
   have hbkl := bkt_lt T1.seed k (n := T1.a.length) (by omega)
   have hbq := hbl (bkt T1.seed T1.a.length k)
   refine V.re h164 [] 10 16 [(5, .int .i64 0), (6, .int .i64 ((bkt T1.seed T1.a.length k : Nat) : Int)), (7, .int .i64 (j : Int))] fun a h165 => k14 _ _ ?_
   refine V.seq fun K166 k167 => ?_
   refine V.sr h165 [] 17 17 [(18, .bool false)] fun a h170 => ?_
   refine V.cf h170 ?_
   refine V.skip ?_
   refine V.then_n (k167 _ _ ?_)
   refine V.seq fun K171 k172 => ?_
   refine V.sr h170 [] 19 19 [(20, .bool true)] fun a h175 => ?_
   refine V.ct h175 ?_
   refine V.pl [([0,1,2,3,4,5,6,7,8,9,10,11,12],some (13,[3])),([14],some (15,[])),([],none)] fun w176 hF177 hsw176 => ?_
   have hB_178 := hB_159.fr0 hF177
   have hRA_179 := hRA_160.fr0 hF177
   have hRB_180 := hRB_161.fr0 hF177
   have hK_181 := hK_162.fr0 hF177
   have hE_182 := hE_163.tr0 hF177
   obtain ⟨A183, c184, hv185⟩ := hK_181.getA hlA (i := (bkt T1.seed T1.a.length k)) (by omega) nilS
   have hS186 := hK_181.slA hlA (i := (bkt T1.seed T1.a.length k)) (by omega) hv185
   refine V.pe h175 [(3, .b hB_178 1), (4, .b hB_178 1), (1, .ix gA 0 T1.a.length T1.a.length .i64 ((bkt T1.seed T1.a.length k : Nat) : Int) 1 rfl), (0, .l ⟨gA, 0 + ((bkt T1.seed T1.a.length k : Nat) : Int).toNat * 1, none⟩ (.slice A183 ((T1.a.getD (bkt T1.seed T1.a.length k) []).length) c184) ((hRA_179.at (bkt T1.seed T1.a.length k) nilS (by omega)).trans (congrArg some hv185)))] 21 31 [(23, .pointer (some ⟨t, 1, none⟩)), (24, .slice (some ⟨gA, 0, none⟩) T1.a.length T1.a.length), (25, .int .i64 ((bkt T1.seed T1.a.length k : Nat) : Int)), (32, .slice A183 ((T1.a.getD (bkt T1.seed T1.a.length k) []).length) c184), (33, .int .i64 (j : Int))] fun a h187 => ?_
   obtain ⟨g195, o196, hAe, _, _⟩ := hS186.addr (by omega)
   have hSz193 := hS186.zone (Z' := fun b => b < w176.heap.size) (fun b hb _ => hb)
   rw [hAe] at hSz193
   have hA194 := hS186.cap
   refine V.cl (av := #[.slice A183 ((T1.a.getD (bkt T1.seed T1.a.length k) []).length) c184, .int .i64 (j : Int)]) h187 (Go.Proofs.enters_of Try.func73 (by kernel_rfl) rfl) (by (rw [hAe]; exact rwithout_any w176 g195 o196 c184 j (T1.a.getD (bkt T1.seed T1.a.length k) []) hSz193 (by omega) hA194 (by omega))) ?_
   rintro _ w197 ⟨A190, c191, rfl, hOr188, hF189⟩
   refine ⟨_, rfl, fun a h198 => ?_⟩
   have hsw197 := hF189.size
   have hB_199 := hB_178.fr0 hF189
   have hRA_200 := hRA_179.fr0 hF189
   have hRB_201 := hRB_180.fr0 hF189
   have hE_202 := hE_182.tr0 hF189
   have hS186_203 := hS186.fr0 hF189
   have hK192 := hK_181.newA hlA (i := (bkt T1.seed T1.a.length k)) (by omega) hF189 hOr188 (fun k hk => .inr (by omega))
   refine V.eh (fun _ => held_blk (n := 1) (hx := (h187.e (v := (.pointer (some ⟨t, 1, none⟩))))) hB_178 hB_199 (by kernel_rfl) rfl (by simp only [List.length]; omega)) ?_
   refine V.pe h198 [(0, .ix gA 0 T1.a.length T1.a.length .i64 ((bkt T1.seed T1.a.length k : Nat) : Int) 1 rfl)] 1 0 [(35, .pointer (some ⟨gA, 0 + ((bkt T1.seed T1.a.length k : Nat) : Int).toNat * 1, none⟩))] fun a h204 => ?_
   refine V.go (V.strow (enc := idV) gA (((bkt T1.seed T1.a.length k : Nat) : Int).toNat) (.slice A190 ((T1.a.getD (bkt T1.seed T1.a.length k) []).length - 1) c191) h204.e h204.e rfl rfl (by kernel_rfl) hRA_200 (by first | omega | (simp only [List.length_set, List.length_replicate]; omega)) ?_)
   intro w205 hR206 hF207 hsw205
   have hB_208 := hB_199.fr1 hF207 (by omega)
   have hRB_209 := hRB_201.fr1 hF207 (by omega)
   have hE_210 := hE_202.tr1 hF207 (by first | exact .inl (by assumption) | exact .inr (by omega) | exact .inl (.inl rfl))
   have hK192_211 := hK192.fr hF207 (by simp)
   refine V.eh trivial ?_
   refine V.pz h204 [] 1 0 [] fun a h212 => k172 _ _ ?_
   refine V.sg fun K213 k214 => ?_
   refine V.run h212 [(3, .b hB_208 4), (0, .i ((T1.n : Int) - 1))] 7 51 56 [(55, .int .i64 ((T1.n : Int) - 1)), (57, .pointer (some ⟨t, 4, none⟩))] fun a h218 => ?_
   refine V.go (V.stn t 4 (.int .i64 ((T1.n : Int) - 1)) [.int .i64 ((T1.n : Int) - 1)] h218.e h218.e rfl rfl (by kernel_rfl) hB_208 (by simp) [.int .u64 (T1.seed : Int), .slice (some ⟨gA, 0, none⟩) T1.a.length T1.a.length, .slice (some ⟨gB, 0, none⟩) T1.b.length T1.b.length, .int .i64 (T1.moved : Int), .int .i64 ((T1.n : Int) - 1)] rfl ?_)
   intro w215 hB216 hF217 hsw215
   have hRB_219 := hRB_209.fr1 hF217 (by omega)
   have hE_220 := hE_210.tr1 hF217 (by first | exact .inl (by assumption) | exact .inr (by omega) | exact .inl (.inl rfl))
   have hK192_221 := hK192_211.fr hF217 (by simp)
   have hR206_222 := hR206.fr1 hF217 (by omega)
   refine V.nt (k214 _ _ ?_)
   refine V.seq fun K223 k224 => ?_
   refine V.seq fun K225 k226 => ?_
   refine V.pl [([0,1,2,3,4,5,6,7,8,9,10,11,12,13,14,15,16,17,18,19,20,21,22,23,24,25,26],none)] fun w227 hF228 hsw227 => ?_
   have hRB_229 := hRB_219.fr0 hF228
   have hE_230 := hE_220.tr0 hF228
   have hK192_231 := hK192_221.fr0 hF228
   have hR206_232 := hR206_222.fr0 hF228
   have hB216_233 := hB216.fr0 hF228
   refine V.pz0 ?_
   refine V.run h218 [(3, .b hB216_233 2), (1, .eq ((T1.b.length : Nat) : Int) 0)] 7 59 63 [(58, .pointer (some ⟨t, 0, none⟩)), (61, .slice (some ⟨gB, 0, none⟩) T1.b.length T1.b.length), (62, .int .i64 ((T1.b.length : Nat) : Int)), (64, .bool (decide (((T1.b.length : Nat) : Int) = 0)))] fun a h234 => ?_
   by_cases hg235 : ((T1.b.length : Nat) : Int) = 0
   ·
    have h236 := h234.kt 64 hg235
    refine V.run h236 [(3, .b hB216_233 1)] 8 66 71 [(65, .pointer (some ⟨t, 0, none⟩)), (68, .slice (some ⟨gA, 0, none⟩) T1.a.length T1.a.length), (69, .int .i64 ((T1.a.length : Nat) : Int)), (72, .bool (decide (((T1.a.length : Nat) : Int) > 4)))] fun a h237 => ?_
    by_cases hg238 : ((T1.a.length : Nat) : Int) > 4
    ·
     have h239 := h237.kt 72 hg238
     refine V.se h239 [(3, .b hB216_233 4), (0, .i (((T1.n : Int) - 1) * 8)), (3, .b hB216_233 1)] 74 83 [(73, .pointer (some ⟨t, 0, none⟩)), (76, .int .i64 ((T1.n : Int) - 1)), (77, .int .i64 (((T1.n : Int) - 1) * 8)), (78, .pointer (some ⟨t, 0, none⟩)), (81, .slice (some ⟨gA, 0, none⟩) T1.a.length T1.a.length), (82, .int .i64 ((T1.a.length : Nat) : Int)), (84, .bool (decide ((((T1.n : Int) - 1) * 8) < ((T1.a.length : Nat) : Int))))] fun a h240 => k226 _ _ ?_
     have h241 := h240.only [(0, .pointer (some ⟨t, 0, none⟩)), (84, .bool (decide ((((T1.n : Int) - 1) * 8) < ((T1.a.length : Nat) : Int))))]
     refine V.cp h241 ((((T1.n : Int) - 1) * 8) < ((T1.a.length : Nat) : Int)) (fun ht242 => ?_) (fun ht242 => ?_)
     ·
      refine V.rg ?_
      refine V.run h241 [(4, .b hB216_233 1), (1, .quoN T1.a.length 2)] 7 86 90 [(85, .pointer (some ⟨t, 0, none⟩)), (91, .int .i64 ((T1.a.length / 2 : Nat) : Int))] fun a h247 => ?_
      refine V.go (V.mks (enc := idV) (T1.a.length / 2) (.slice none 0 0) nilS 24 ((h247.e (v := (.int .i64 ((T1.a.length / 2 : Nat) : Int)))).trans (V.int_eq (by omega))) ((h247.e (v := (.int .i64 ((T1.a.length / 2 : Nat) : Int)))).trans (V.int_eq (by omega))) (by kernel_rfl) info42 rfl rfl (by omega) (by omega) ?_)
      intro w244 b243 heb243 hR245 hF246
      have hsb243 := hR245.lt
      have hRB_248 := hRB_229.fr0 hF246
      have hE_249 := hE_230.tr0 hF246
      have hK192_250 := hK192_231.alloc hF246 heb243 (by omega)
      have hR206_251 := hR206_232.fr0 hF246
      have hB216_252 := hB216_233.fr0 hF246
      refine V.pt h247 fun a h253 => ?_
      refine V.run h253 [] 2 93 93 [(94, .pointer (some ⟨t, 2, none⟩))] fun a h257 => ?_
      refine V.go (V.stn t 2 (.slice (some ⟨b243, 0, none⟩) (T1.a.length / 2) (T1.a.length / 2)) [.slice (some ⟨b243, 0, none⟩) (T1.a.length / 2) (T1.a.length / 2)] h257.e h257.e rfl rfl (by kernel_rfl) hB216_252 (by simp) [.int .u64 (T1.seed : Int), .slice (some ⟨gA, 0, none⟩) T1.a.length T1.a.length, .slice (some ⟨b243, 0, none⟩) (T1.a.length / 2) (T1.a.length / 2), .int .i64 (T1.moved : Int), .int .i64 ((T1.n : Int) - 1)] rfl ?_)
      intro w254 hB255 hF256 hsw254
      have hRB_258 := hRB_248.fr1 hF256 (by omega)
      have hE_259 := hE_249.tr1 hF256 (by first | exact .inl (by assumption) | exact .inr (by omega) | exact .inl (.inl rfl))
      have hK192_260 := hK192_250.fr hF256 (by simp)
      have hR206_261 := hR206_251.fr1 hF256 (by omega)
      have hR245_262 := hR245.fr1 hF256 (by omega)
      refine V.nt (k224 _ _ ?_)
      refine V.sr h257 [] 1 0 [(4, .bool true)] fun a h265 => ?_
      refine V.ret ?_
      refine V.r1 h265 (.bool true) ?_
      exact absurd hg235 (by omega)
     ·
      refine V.skip ?_
      refine V.then_n (k224 _ _ ?_)
      refine V.sr h241 [] 1 0 [(4, .bool true)] fun a h268 => ?_
      refine V.ret ?_
      refine V.r1 h268 (.bool true) ?_
      exact absurd hg235 (by omega)
    ·
     have h269 := h237.kf 72 hg238
     refine V.se h269 [] 74 83 [(73, undef), (76, undef), (77, undef), (78, undef), (81, undef), (82, undef), (84, .bool false)] fun a h270 => k226 _ _ ?_
     have h271 := h270.only [(0, .pointer (some ⟨t, 0, none⟩)), (84, .bool false)]
     refine V.cf h271 ?_
     refine V.skip ?_
     refine V.then_n (k224 _ _ ?_)
     refine V.sr h271 [] 1 0 [(4, .bool true)] fun a h274 => ?_
     refine V.ret ?_
     refine V.r1 h274 (.bool true) ?_
     exact absurd hg235 (by omega)
   ·
    have h275 := h234.kf 64 hg235
    refine V.se h275 [] 66 83 [(65, undef), (68, undef), (69, undef), (72, .bool false), (73, undef), (76, undef), (77, undef), (78, undef), (81, undef), (82, undef), (84, .bool false)] fun a h276 => k226 _ _ ?_
    have h277 := h276.only [(0, .pointer (some ⟨t, 0, none⟩)), (84, .bool false)]
    refine V.cf h277 ?_
    refine V.skip ?_
    refine V.then_n (k224 _ _ ?_)
    refine V.sr h277 [] 1 0 [(4, .bool true)] fun a h280 => ?_
    refine V.ret ?_
    refine V.r1 h280 (.bool true) ?_
    have hst : delT T k = shrT (rm1T T1 k) := by (unfold delT; rw [← hT1]; unfold del1T; rw [hf, if_pos rfl])
    have hu2 : rm1T T1 k = ({ T1 with a := rmV T1.a (bkt T1.seed T1.a.length k) j, n := T1.n - 1 } : Tb Int) := by (unfold rm1T; rw [hf]; simp)
    have hup := (rm1T_ok hok1 hm1 k (by rw [hf])).1
    rw [hu2] at hup
    rw [hst, hu2]
    have hsh : shrT ({ T1 with a := rmV T1.a (bkt T1.seed T1.a.length k) j, n := T1.n - 1 } : Tb Int) = ({ T1 with a := rmV T1.a (bkt T1.seed T1.a.length k) j, n := T1.n - 1 } : Tb Int) := by (unfold shrT; rw [if_neg]; rintro ⟨h0, _⟩; exact hb1 (by first | exact h0 | (have h1 : (rmV T1.b (bkt T1.seed T1.b.length k) j).length = 0 := h0; rwa [rmV_length] at h1)))
    rw [hsh]
    exact ⟨by rw [hf], (TabM.fin (T := ({ T1 with a := rmV T1.a (bkt T1.seed T1.a.length k) j, n := T1.n - 1 } : Tb Int)) hup hb0 hB216_233 hR206_232 hRB_229 (by first | exact hlA | (simp only [List.length_set]; exact hlA)) hK192_231 (mem4 (l := (t :: gA :: gB :: av)) (by simp) (by simp) (by simp) (by intro k hk; simp [hk])) (by first | assumption | omega) (by first | assumption | omega) (by first | assumption | omega) hpt ⟨.inl hpg.1, hpg.2⟩ ⟨.inl hph.1, hph.2⟩ rfl (rmV_length _ _ _).symm rfl (by show ((T1.n : Int) - 1) = ((T1.n - 1 : Nat) : Int); omega) rfl rfl rfl).gr3 (by omega), (hFPE.gr hE_230)⟩
 ·
  rcases hT8q.2 with ⟨hb0, gA, vsA, hN⟩ | ⟨hb0, gA, gB, vsA, vsB, hN⟩
  ·
   exact absurd (by rw [hb0]; rfl) hbn
  ·
   have hb1 : T1.b.length ≠ 0 := fun h => hb0 (List.eq_nil_of_length_eq_zero h)
   obtain ⟨hB, hRA, hRB, hlA, hlB, hK, hne, hne2, hne3, hpt, hpg, hph⟩ := hN
   replace hK := hK.toH
   have hltt := hB.lt
   have hltg := hRA.lt
   have hltg2 := hRB.lt
   have hE : FrP (gp (gr H w w10) av) w10 w10 := FrP.refl _ _
   have hK0 : ∀ k ∈ av, k < w10.heap.size := fun k hk => hK.avl k (by simp [hk])
   obtain ⟨hsd, hpa, hla, hlb, hmv, hmz, hnn, hcn, hks⟩ := (show T1.Ok from hok1)
   have hbl := hok1.bl
   have hFPE := hFP_12
   refine V.go (V.call 71 #[] #[.pointer (some ⟨t, 0, none⟩), .string k] evf (args2 h15.e h15.e) (Go.Proofs.enters_of Try.func71 (by kernel_rfl) rfl) (by have h := rfind_any w10 (gr H w w10) (av) t T1 hT8q k hkz; rw [rfT_yes hf] at h; exact h) ?_)
   rintro _ w282 ⟨rfl, hF281⟩
   refine ⟨_, rfl, ?_⟩
   have hsw282 := hF281.size
   have hB_283 := hB.fr0 hF281
   have hRA_284 := hRA.fr0 hF281
   have hRB_285 := hRB.fr0 hF281
   have hK_286 := hK.fr0 hF281
   have hE_287 := hE.tr0 hF281
   refine V.pt h15 fun a h288 => ?_
   have hbkl := bkt_lt T1.seed k (n := T1.b.length) (by omega)
   have hbq := hbl (bkt T1.seed T1.b.length k)
   refine V.re h288 [] 10 16 [(5, .int .i64 1), (6, .int .i64 ((bkt T1.seed T1.b.length k : Nat) : Int)), (7, .int .i64 (j : Int))] fun a h289 => k14 _ _ ?_
   refine V.seq fun K290 k291 => ?_
   refine V.sr h289 [] 17 17 [(18, .bool false)] fun a h294 => ?_
   refine V.cf h294 ?_
   refine V.skip ?_
   refine V.then_n (k291 _ _ ?_)
   refine V.seq fun K295 k296 => ?_
   refine V.sr h294 [] 19 19 [(20, .bool false)] fun a h299 => ?_
   refine V.cf h299 ?_
   refine V.pl [([0,1,2,3,4,5,6,7,8,9,10,11,12],some (13,[3])),([14],some (15,[])),([],none)] fun w300 hF301 hsw300 => ?_
   have hB_302 := hB_283.fr0 hF301
   have hRA_303 := hRA_284.fr0 hF301
   have hRB_304 := hRB_285.fr0 hF301
   have hK_305 := hK_286.fr0 hF301
   have hE_306 := hE_287.tr0 hF301
   obtain ⟨A307, c308, hv309⟩ := hK_305.getB hlA (i := (bkt T1.seed T1.b.length k)) (by omega) nilS
   have hS310 := hK_305.slB hlA (i := (bkt T1.seed T1.b.length k)) (by omega) hv309
   refine V.pe h299 [(3, .b hB_302 2), (4, .b hB_302 2), (1, .ix gB 0 T1.b.length T1.b.length .i64 ((bkt T1.seed T1.b.length k : Nat) : Int) 1 rfl), (0, .l ⟨gB, 0 + ((bkt T1.seed T1.b.length k : Nat) : Int).toNat * 1, none⟩ (.slice A307 ((T1.b.getD (bkt T1.seed T1.b.length k) []).length) c308) ((hRB_304.at (bkt T1.seed T1.b.length k) nilS (by omega)).trans (congrArg some hv309)))] 36 46 [(38, .pointer (some ⟨t, 2, none⟩)), (39, .slice (some ⟨gB, 0, none⟩) T1.b.length T1.b.length), (40, .int .i64 ((bkt T1.seed T1.b.length k : Nat) : Int)), (47, .slice A307 ((T1.b.getD (bkt T1.seed T1.b.length k) []).length) c308), (48, .int .i64 (j : Int))] fun a h311 => ?_
   obtain ⟨g319, o320, hAe, _, _⟩ := hS310.addr (by omega)
   have hSz317 := hS310.zone (Z' := fun b => b < w300.heap.size) (fun b hb _ => hb)
   rw [hAe] at hSz317
   have hA318 := hS310.cap
   refine V.cl (av := #[.slice A307 ((T1.b.getD (bkt T1.seed T1.b.length k) []).length) c308, .int .i64 (j : Int)]) h311 (Go.Proofs.enters_of Try.func73 (by kernel_rfl) rfl) (by (rw [hAe]; exact rwithout_any w300 g319 o320 c308 j (T1.b.getD (bkt T1.seed T1.b.length k) []) hSz317 (by omega) hA318 (by omega))) ?_
   rintro _ w321 ⟨A314, c315, rfl, hOr312, hF313⟩
   refine ⟨_, rfl, fun a h322 => ?_⟩
   have hsw321 := hF313.size
   have hB_323 := hB_302.fr0 hF313
   have hRA_324 := hRA_303.fr0 hF313
   have hRB_325 := hRB_304.fr0 hF313
   have hE_326 := hE_306.tr0 hF313
   have hS310_327 := hS310.fr0 hF313
   have hK316 := hK_305.newB hlA (i := (bkt T1.seed T1.b.length k)) (by omega) hF313 hOr312 (fun k hk => .inr (by omega))
   refine V.eh (fun _ => held_blk (n := 1) (hx := (h311.e (v := (.pointer (some ⟨t, 2, none⟩))))) hB_302 hB_323 (by kernel_rfl) rfl (by simp only [List.length]; omega)) ?_
   refine V.pe h322 [(0, .ix gB 0 T1.b.length T1.b.length .i64 ((bkt T1.seed T1.b.length k : Nat) : Int) 1 rfl)] 1 0 [(50, .pointer (some ⟨gB, 0 + ((bkt T1.seed T1.b.length k : Nat) : Int).toNat * 1, none⟩))] fun a h328 => ?_
   refine V.go (V.strow (enc := idV) gB (((bkt T1.seed T1.b.length k : Nat) : Int).toNat) (.slice A314 ((T1.b.getD (bkt T1.seed T1.b.length k) []).length - 1) c315) h328.e h328.e rfl rfl (by kernel_rfl) hRB_325 (by first | omega | (simp only [List.length_set, List.length_replicate]; omega)) ?_)
   intro w329 hR330 hF331 hsw329
   have hB_332 := hB_323.fr1 hF331 (by omega)
   have hRA_333 := hRA_324.fr1 hF331 (by omega)
   have hE_334 := hE_326.tr1 hF331 (by first | exact .inl (by assumption) | exact .inr (by omega) | exact .inl (.inl rfl))
   have hK316_335 := hK316.fr hF331 (by simp)
   refine V.eh trivial ?_
   refine V.pz h328 [] 1 0 [] fun a h336 => k296 _ _ ?_
   refine V.sg fun K337 k338 => ?_
   refine V.run h336 [(3, .b hB_332 4), (0, .i ((T1.n : Int) - 1))] 7 51 56 [(55, .int .i64 ((T1.n : Int) - 1)), (57, .pointer (some ⟨t, 4, none⟩))] fun a h342 => ?_
   refine V.go (V.stn t 4 (.int .i64 ((T1.n : Int) - 1)) [.int .i64 ((T1.n : Int) - 1)] h342.e h342.e rfl rfl (by kernel_rfl) hB_332 (by simp) [.int .u64 (T1.seed : Int), .slice (some ⟨gA, 0, none⟩) T1.a.length T1.a.length, .slice (some ⟨gB, 0, none⟩) T1.b.length T1.b.length, .int .i64 (T1.moved : Int), .int .i64 ((T1.n : Int) - 1)] rfl ?_)
   intro w339 hB340 hF341 hsw339
   have hRA_343 := hRA_333.fr1 hF341 (by omega)
   have hE_344 := hE_334.tr1 hF341 (by first | exact .inl (by assumption) | exact .inr (by omega) | exact .inl (.inl rfl))
   have hK316_345 := hK316_335.fr hF341 (by simp)
   have hR330_346 := hR330.fr1 hF341 (by omega)
   refine V.nt (k338 _ _ ?_)
   refine V.seq fun K347 k348 => ?_
   refine V.seq fun K349 k350 => ?_
   refine V.pl [([0,1,2,3,4,5,6,7,8,9,10,11,12,13,14,15,16,17,18,19,20,21,22,23,24,25,26],none)] fun w351 hF352 hsw351 => ?_
   have hRA_353 := hRA_343.fr0 hF352
   have hE_354 := hE_344.tr0 hF352
   have hK316_355 := hK316_345.fr0 hF352
   have hR330_356 := hR330_346.fr0 hF352
   have hB340_357 := hB340.fr0 hF352
   refine V.pz0 ?_
   refine V.run h342 [(3, .b hB340_357 2), (1, .eq ((T1.b.length : Nat) : Int) 0)] 7 59 63 [(58, .pointer (some ⟨t, 0, none⟩)), (61, .slice (some ⟨gB, 0, none⟩) T1.b.length T1.b.length), (62, .int .i64 ((T1.b.length : Nat) : Int)), (64, .bool (decide (((T1.b.length : Nat) : Int) = 0)))] fun a h358 => ?_
   by_cases hg359 : ((T1.b.length : Nat) : Int) = 0
   ·
    have h360 := h358.kt 64 hg359
    refine V.run h360 [(3, .b hB340_357 1)] 8 66 71 [(65, .pointer (some ⟨t, 0, none⟩)), (68, .slice (some ⟨gA, 0, none⟩) T1.a.length T1.a.length), (69, .int .i64 ((T1.a.length : Nat) : Int)), (72, .bool (decide (((T1.a.length : Nat) : Int) > 4)))] fun a h361 => ?_
    by_cases hg362 : ((T1.a.length : Nat) : Int) > 4
    ·
     have h363 := h361.kt 72 hg362
     refine V.se h363 [(3, .b hB340_357 4), (0, .i (((T1.n : Int) - 1) * 8)), (3, .b hB340_357 1)] 74 83 [(73, .pointer (some ⟨t, 0, none⟩)), (76, .int .i64 ((T1.n : Int) - 1)), (77, .int .i64 (((T1.n : Int) - 1) * 8)), (78, .pointer (some ⟨t, 0, none⟩)), (81, .slice (some ⟨gA, 0, none⟩) T1.a.length T1.a.length), (82, .int .i64 ((T1.a.length : Nat) : Int)), (84, .bool (decide ((((T1.n : Int) - 1) * 8) < ((T1.a.length : Nat) : Int))))] fun a h364 => k350 _ _ ?_
     have h365 := h364.only [(0, .pointer (some ⟨t, 0, none⟩)), (84, .bool (decide ((((T1.n : Int) - 1) * 8) < ((T1.a.length : Nat) : Int))))]
     refine V.cp h365 ((((T1.n : Int) - 1) * 8) < ((T1.a.length : Nat) : Int)) (fun ht366 => ?_) (fun ht366 => ?_)
     ·
      refine V.rg ?_
      refine V.run h365 [(4, .b hB340_357 1), (1, .quoN T1.a.length 2)] 7 86 90 [(85, .pointer (some ⟨t, 0, none⟩)), (91, .int .i64 ((T1.a.length / 2 : Nat) : Int))] fun a h371 => ?_
      refine V.go (V.mks (enc := idV) (T1.a.length / 2) (.slice none 0 0) nilS 24 ((h371.e (v := (.int .i64 ((T1.a.length / 2 : Nat) : Int)))).trans (V.int_eq (by omega))) ((h371.e (v := (.int .i64 ((T1.a.length / 2 : Nat) : Int)))).trans (V.int_eq (by omega))) (by kernel_rfl) info42 rfl rfl (by omega) (by omega) ?_)
      intro w368 b367 heb367 hR369 hF370
      have hsb367 := hR369.lt
      have hRA_372 := hRA_353.fr0 hF370
      have hE_373 := hE_354.tr0 hF370
      have hK316_374 := hK316_355.alloc hF370 heb367 (by omega)
      have hR330_375 := hR330_356.fr0 hF370
      have hB340_376 := hB340_357.fr0 hF370
      refine V.pt h371 fun a h377 => ?_
      refine V.run h377 [] 2 93 93 [(94, .pointer (some ⟨t, 2, none⟩))] fun a h381 => ?_
      refine V.go (V.stn t 2 (.slice (some ⟨b367, 0, none⟩) (T1.a.length / 2) (T1.a.length / 2)) [.slice (some ⟨b367, 0, none⟩) (T1.a.length / 2) (T1.a.length / 2)] h381.e h381.e rfl rfl (by kernel_rfl) hB340_376 (by simp) [.int .u64 (T1.seed : Int), .slice (some ⟨gA, 0, none⟩) T1.a.length T1.a.length, .slice (some ⟨b367, 0, none⟩) (T1.a.length / 2) (T1.a.length / 2), .int .i64 (T1.moved : Int), .int .i64 ((T1.n : Int) - 1)] rfl ?_)
      intro w378 hB379 hF380 hsw378
      have hRA_382 := hRA_372.fr1 hF380 (by omega)
      have hE_383 := hE_373.tr1 hF380 (by first | exact .inl (by assumption) | exact .inr (by omega) | exact .inl (.inl rfl))
      have hK316_384 := hK316_374.fr hF380 (by simp)
      have hR330_385 := hR330_375.fr1 hF380 (by omega)
      have hR369_386 := hR369.fr1 hF380 (by omega)
      refine V.nt (k348 _ _ ?_)
      refine V.sr h381 [] 1 0 [(4, .bool true)] fun a h389 => ?_
      refine V.ret ?_
      refine V.r1 h389 (.bool true) ?_
      exact absurd hg359 (by omega)
     ·
      refine V.skip ?_
      refine V.then_n (k348 _ _ ?_)
      refine V.sr h365 [] 1 0 [(4, .bool true)] fun a h392 => ?_
      refine V.ret ?_
      refine V.r1 h392 (.bool true) ?_
      exact absurd hg359 (by omega)
    ·
     have h393 := h361.kf 72 hg362
     refine V.se h393 [] 74 83 [(73, undef), (76, undef), (77, undef), (78, undef), (81, undef), (82, undef), (84, .bool false)] fun a h394 => k350 _ _ ?_
     have h395 := h394.only [(0, .pointer (some ⟨t, 0, none⟩)), (84, .bool false)]
     refine V.cf h395 ?_
     refine V.skip ?_
     refine V.then_n (k348 _ _ ?_)
     refine V.sr h395 [] 1 0 [(4, .bool true)] fun a h398 => ?_
     refine V.ret ?_
     refine V.r1 h398 (.bool true) ?_
     exact absurd hg359 (by omega)
   ·
    have h399 := h358.kf 64 hg359
    refine V.se h399 [] 66 83 [(65, undef), (68, undef), (69, undef), (72, .bool false), (73, undef), (76, undef), (77, undef), (78, undef), (81, undef), (82, undef), (84, .bool false)] fun a h400 => k350 _ _ ?_
    have h401 := h400.only [(0, .pointer (some ⟨t, 0, none⟩)), (84, .bool false)]
    refine V.cf h401 ?_
    refine V.skip ?_
    refine V.then_n (k348 _ _ ?_)
    refine V.sr h401 [] 1 0 [(4, .bool true)] fun a h404 => ?_
    refine V.ret ?_
    refine V.r1 h404 (.bool true) ?_
    have hst : delT T k = shrT (rm1T T1 k) := by (unfold delT; rw [← hT1]; unfold del1T; rw [hf, if_pos rfl])
    have hu2 : rm1T T1 k = ({ T1 with b := rmV T1.b (bkt T1.seed T1.b.length k) j, n := T1.n - 1 } : Tb Int) := by (unfold rm1T; rw [hf]; simp)
    have hup := (rm1T_ok hok1 hm1 k (by rw [hf])).1
    rw [hu2] at hup
    rw [hst, hu2]
    have hsh : shrT ({ T1 with b := rmV T1.b (bkt T1.seed T1.b.length k) j, n := T1.n - 1 } : Tb Int) = ({ T1 with b := rmV T1.b (bkt T1.seed T1.b.length k) j, n := T1.n - 1 } : Tb Int) := by (unfold shrT; rw [if_neg]; rintro ⟨h0, _⟩; exact hb1 (by first | exact h0 | (have h1 : (rmV T1.b (bkt T1.seed T1.b.length k) j).length = 0 := h0; rwa [rmV_length] at h1)))
    rw [hsh]
    exact ⟨by rw [hf], (TabM.fin (T := ({ T1 with b := rmV T1.b (bkt T1.seed T1.b.length k) j, n := T1.n - 1 } : Tb Int)) hup (fun h => hb1 (by have := congrArg List.length h; rwa [rmV_length] at this)) hB340_357 hRA_353 hR330_356 (by first | exact hlA | (simp only [List.length_set]; exact hlA)) hK316_355 (mem4 (l := (t :: gA :: gB :: av)) (by simp) (by simp) (by simp) (by intro k hk; simp [hk])) (by first | assumption | omega) (by first | assumption | omega) (by first | assumption | omega) hpt ⟨.inl hpg.1, hpg.2⟩ ⟨.inl hph.1, hph.2⟩ rfl rfl rfl (by show ((T1.n : Int) - 1) = ((T1.n - 1 : Nat) : Int); omega) rfl rfl (rmV_length _ _ _).symm).gr3 (by omega), (hFPE.gr hE_354)⟩
end Go.Proofs.Ytalhmegjomfbaaa
