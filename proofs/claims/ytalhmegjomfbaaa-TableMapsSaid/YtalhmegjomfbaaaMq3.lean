/- Joined texts: Te, Tf, Tg, App, AppZ, AggS, Rng, RngP, Ti, Tj, Tl, Ra, Rb. -/
import Derived.Test.YtalhmegjomfbaaaProg
import Derived.Lib.AppendZeros
import Derived.RangeFuncCalls
import Derived.RangeFuncLeaves
import Derived.Test.YtalhmegjomfbaaaMq2
section
namespace Go.Proofs.Ytalhmegjomfbaaa
open Go.V Go.Base
open Go.RowKit (Below)
attribute [local irreducible] Act.put Act.eval
set_option linter.unusedVariables false
set_option linter.unusedSimpArgs false
set_option maxHeartbeats 4000000
set_option maxRecDepth 20000
theorem itI_sz : itI.sz = 2 := rfl
theorem info86c : (Try.prog.info? 86).map (fun i => (i.zero, i.size)) = some (some (.agg #[.string ⟨#[]⟩, .int .i64 0]), itI.sz) := by kernel_rfl
theorem delete_any (w : World) (g c i : Nat) (xs : List (ByteArray × Int)) (hO : OwR itI NoZ w 0 86 (.slice (some ⟨g, 0, none⟩) xs.length c) xs) (hi : i < xs.length) (hc : xs.length ≤ c) (hl : xs.length ≤ 1099511627776) : Calls Try.prog 68 #[.slice (some ⟨g, 0, none⟩) xs.length c, .int .i64 (i : Int), .int .i64 ((i : Int) + 1)] w (fun e w' => e = .returned (.slice (some ⟨g, 0, none⟩) (xs.length - 1) c) ∧ OwR itI NoZ w' 0 86 (.slice (some ⟨g, 0, none⟩) (xs.length - 1) c) (xs.eraseIdx i) ∧ Fr [g] w w') := by
 have hF := Fr.refl [g] w
 have herl : i + (xs.length - (i + 1)) = (xs.eraseIdx i).length := by rw [List.length_eraseIdx_of_lt hi]; omega
 refine V.en 33 Try.func68 fun a h1 => ?_
 refine V.sr h1 [] 6 6 [] fun a h4 => ?_
 refine V.sg fun K5 k6 => ?_
 refine V.run h4 [] 5 11 11 [(8, .slice (some ⟨g, 0, none⟩) xs.length c), (9, .int .i64 (i : Int)), (10, .int .i64 ((i : Int) + 1)), (12, .int .i64 ((xs.length : Nat) : Int))] fun a h7 => ?_
 refine V.go (V.slc (e := 86) (sz := 2) g 0 xs.length c i (i + 1) xs.length (h7.e (v := (.slice (some ⟨g, 0, none⟩) xs.length c))) ⟨_, ((h7.e (v := (.int .i64 (i : Int))))).trans (V.int_eq (by omega))⟩ ⟨_, ((h7.e (v := (.int .i64 ((i : Int) + 1))))).trans (V.int_eq (by omega))⟩ ⟨_, ((h7.e (v := (.int .i64 ((xs.length : Nat) : Int))))).trans (V.int_eq (by omega))⟩ (by omega) (by omega) (by omega) (by kernel_rfl) (by kernel_rfl) ?_)
 intro ad8 had9 hae10
 refine V.pt h7 fun a h11 => ?_
 refine V.nt (k6 _ _ ?_)
 refine V.seq fun K12 k13 => ?_
 refine V.sr h11 [(2, .eq (i : Int) ((i : Int) + 1))] 14 15 [(16, .bool (decide ((i : Int) = ((i : Int) + 1))))] fun a h16 => ?_
 refine V.cp h16 ((i : Int) = ((i : Int) + 1)) (fun ht17 => ?_) (fun ht17 => ?_)
 ·
  refine V.sr h16 [] 17 17 [(6, .slice (some ⟨g, 0, none⟩) xs.length c)] fun a h20 => ?_
  refine V.ret (V.then_r ?_)
  refine V.r1 h20 (.slice (some ⟨g, 0, none⟩) xs.length c) ?_
  exact absurd ht17 (by omega)
 ·
  refine V.skip ?_
  refine V.then_n (k13 _ _ ?_)
  refine V.sr h16 [] 18 19 [(7, .int .i64 ((xs.length : Nat) : Int))] fun a h23 => ?_
  refine V.seq fun K24 k25 => ?_
  refine V.pl [([0,1,2,3,4,5],some (6,[])),([7],none)] fun w26 hF27 hsw26 => ?_
  have hF_28 := hF.trans hF27 (by simp <;> omega)
  have hO_29 := hO.fr0 hF27
  refine V.pe0 ?_
  refine V.run h23 [] 2 1 0 [(20, .slice (some ⟨g, 0, none⟩) xs.length c), (21, .int .i64 (i : Int))] fun a h30 => ?_
  refine V.go (V.slc (e := 86) (sz := 2) g 0 xs.length c 0 i c (h30.e (v := (.slice (some ⟨g, 0, none⟩) xs.length c))) rfl ⟨_, ((h30.e (v := (.int .i64 (i : Int))))).trans (V.int_eq (by omega))⟩ rfl (by omega) (by omega) (by omega) (by kernel_rfl) (by kernel_rfl) ?_)
  intro ad31 had32 hae33
  obtain rfl := hae33 rfl
  refine V.pt h30 fun a h34 => ?_
  refine V.run h34 [] 2 1 0 [(23, .slice (some ⟨g, 0, none⟩) xs.length c), (24, .int .i64 ((i : Int) + 1))] fun a h35 => ?_
  refine V.go (V.slc (e := 86) (sz := 2) g 0 xs.length c (i + 1) xs.length c (h35.e (v := (.slice (some ⟨g, 0, none⟩) xs.length c))) ⟨_, ((h35.e (v := (.int .i64 ((i : Int) + 1))))).trans (V.int_eq (by omega))⟩ ⟨rfl, rfl⟩ rfl (by omega) (by omega) (by omega) (by kernel_rfl) (by kernel_rfl) ?_)
  intro ad36 had37 hae38
  refine V.pt h35 fun a h39 => ?_
  refine V.se h39 [] 1 0 [] fun a h40 => ?_
  refine V.go (V.appIn (R := itI) (i := i) (m := xs.length - (i + 1)) hO_29 rfl hi rfl ad36 (fun hq => by rw [had37 (by omega)]; simp [itI_sz]) (h40.e (v := (.slice (some ⟨g, 0, none⟩) (i - 0) (c - 0)))) (h40.e (v := (.slice (some ad36) (xs.length - (i + 1)) (c - (i + 1))))) (by kernel_rfl) (by kernel_rfl) ?_)
  intro w41 cur46 hO42 hF43 hB44 hcl45
  have hsw41 := hF43.size
  have hF_47 := hF_28.trans hF43 (by simp <;> omega)
  refine V.pt h40 fun a h48 => ?_
  refine V.eh trivial ?_
  refine V.pz h48 [] 1 0 [(0, .slice (some ⟨g, 0, none⟩) (i + (xs.length - (i + 1))) c)] fun a h49 => k25 _ _ ?_
  refine V.sg fun K50 k51 => ?_
  refine V.run h49 [] 4 28 28 [(27, .slice (some ⟨g, 0, none⟩) (i + (xs.length - (i + 1))) c), (29, .int .i64 (((i + (xs.length - (i + 1))) : Nat) : Int)), (30, .int .i64 ((xs.length : Nat) : Int))] fun a h52 => ?_
  refine V.go (V.slc (e := 86) (sz := 2) g 0 (i + (xs.length - (i + 1))) c (i + (xs.length - (i + 1))) xs.length c (h52.e (v := (.slice (some ⟨g, 0, none⟩) (i + (xs.length - (i + 1))) c))) ⟨_, ((h52.e (v := (.int .i64 (((i + (xs.length - (i + 1))) : Nat) : Int))))).trans (V.int_eq (by omega))⟩ ⟨_, ((h52.e (v := (.int .i64 ((xs.length : Nat) : Int))))).trans (V.int_eq (by omega))⟩ rfl (by omega) (by omega) (by omega) (by kernel_rfl) (by kernel_rfl) ?_)
  intro ad53 had54 hae55
  obtain rfl := had54 (by omega)
  refine V.pt h52 fun a h56 => ?_
  refine V.go (V.clr1 (R := itI) (n := i + (xs.length - (i + 1))) hO42 herl hB44 hcl45 (by omega) ((h56.e (v := (.slice (some ⟨g, 0 + (i + (xs.length - (i + 1))) * 2, none⟩) (xs.length - (i + (xs.length - (i + 1)))) (c - (i + (xs.length - (i + 1))))))).trans (V.sl_eq (by omega))) (by kernel_rfl) (info86c) rfl rfl ?_)
  intro w57 hO58 hF59 hsw57
  have hF_60 := hF_47.trans hF59 (by simp <;> omega)
  refine V.nt (k51 _ _ ?_)
  refine V.sr h56 [] 32 32 [(6, .slice (some ⟨g, 0, none⟩) (i + (xs.length - (i + 1))) c)] fun a h63 => ?_
  refine V.ret ?_
  refine V.r1 h63 (.slice (some ⟨g, 0, none⟩) (i + (xs.length - (i + 1))) c) ?_
  have hq1 : i + (xs.length - (i + 1)) = xs.length - 1 := by omega
  rw [hq1] at hO58 ⊢
  exact ⟨rfl, hO58, hF_60⟩
theorem del_any (w : World) (H : Nat → Prop) (av : List Nat) (t : Nat) (T : Tb Int) (hT : TabX 67 87 86 itI w H av t T) (hm : T.Mv) (k : ByteArray) (hkz : k.size ≤ 9223372036854775807) : Calls Try.prog 39 #[.pointer (some ⟨t, 0, none⟩), .string k] w (fun e w' => e = .returned (.bool (findT (tbStep T) k).2) ∧ TabX 67 87 86 itI w' (gr H w w') av t (delT T k) ∧ FrP (gp H av) w w') := by
 have hFP := FrP.refl (gp H av) w
 obtain ⟨hok0, hm1⟩ := tbStep_ok hT.1 hm
 obtain ⟨T1, hT1⟩ : ∃ T1, T1 = tbStep T := ⟨_, rfl⟩
 rw [← hT1] at hok0 hm1 ⊢
 refine V.en 83 Try.func39 fun a h1 => ?_
 refine V.sr h1 [] 4 4 [] fun a h4 => ?_
 refine V.seq fun K5 k6 => ?_
 refine V.sg fun K7 k8 => ?_
 refine V.run h4 [] 1 1 0 [(9, .pointer (some ⟨t, 0, none⟩))] fun a h9 => ?_
 refine V.cl h9 (Go.Proofs.enters_of Try.func51 (by kernel_rfl) rfl) (made_any w (H) (av) t (T) hT) ?_
 rintro _ w11 ⟨rfl, hF10⟩
 refine ⟨_, rfl, fun a h12 => ?_⟩
 have hsw11 := hF10.size
 have hT_13 := hT.fr0 hF10
 have hFP_14 := hFP.tr0 hF10
 refine V.re h12 [] 1 0 [(11, .bool false)] fun a h15 => k8 _ _ ?_
 refine V.cf h15 ?_
 refine V.skip ?_
 refine V.then_n (k6 _ _ ?_)
 refine V.sg fun K16 k17 => ?_
 refine V.run h15 [] 1 1 0 [(12, .pointer (some ⟨t, 0, none⟩))] fun a h18 => ?_
 refine V.cl h18 (Go.Proofs.enters_of Try.func64 (by kernel_rfl) rfl) (step_any w11 (H) (av) t (T) hT_13 hm) ?_
 rintro _ w21 ⟨rfl, hT19, hfp20⟩
 refine ⟨_, rfl, fun a h22 => ?_⟩
 have hsw21 := hfp20.size
 have hFP_23 := hFP_14.trP hfp20 (fun k hk => .inl hk)
 have hT19q := hT19.grm (w := w) (by omega)
 rw [← hT1] at hT19q
 refine V.nt (k17 _ _ ?_)
 refine V.sg fun K24 k25 => ?_
 refine V.run h22 [] 2 1 0 [(15, .pointer (some ⟨t, 0, none⟩)), (16, .string k)] fun a h26 => ?_
 have hok1 := hT19q.1
 rcases findT_cases hok1 k with hf | ⟨j, hf, hj⟩ | ⟨hbn, j, hf, hj⟩
 ·
  rcases hT19q.2 with ⟨hb0, gA, vsA, hN⟩ | ⟨hb0, gA, gB, vsA, vsB, hN⟩
  ·
   have hb1 : T1.b.length = 0 := by rw [hb0]; rfl
   obtain ⟨hB, hRA, hlA, hK, hne, hpt, hpg⟩ := hN
   replace hK := hK.toH
   have hltt := hB.lt
   have hltg := hRA.lt
   have hE : FrP (gp (gr H w w21) av) w21 w21 := FrP.refl _ _
   have hK0 : ∀ k ∈ av, k < w21.heap.size := fun k hk => hK.avl k (by simp [hk])
   obtain ⟨hsd, hpa, hla, hlb, hmv, hmz, hnn, hcn, hks⟩ := (show T1.Ok from hok1)
   have hbl := hok1.bl
   have hFPE := hFP_23
   refine V.cl (av := #[.pointer (some ⟨t, 0, none⟩), .string k]) h26 (Go.Proofs.enters_of Try.func53 (by kernel_rfl) rfl) (by have h := find_any w21 (gr H w w21) (av) t T1 hT19q k hkz; rw [hf] at h; exact h) ?_
   rintro _ w28 ⟨rfl, hF27⟩
   refine ⟨_, rfl, fun a h29 => ?_⟩
   have hsw28 := hF27.size
   have hB_30 := hB.fr0 hF27
   have hRA_31 := hRA.fr0 hF27
   have hK_32 := hK.fr0 hF27
   have hE_33 := hE.tr0 hF27
   refine V.run h29 [] 3 14 14 [(18, .agg #[.int .i64 0, .int .i64 0, .int .i64 0]), (19, .bool false)] fun a h38 => ?_
   refine V.go (V.mk [] trivial (by kernel_rfl) [.int .i64 0, .int .i64 0, .int .i64 0] 82 (fun b => .pointer (some ⟨b, 0, none⟩)) (by kernel_rfl) ?_)
   intro w35 b34 heb34 hB36 hF37 hsb34
   have hB_39 := hB_30.fr0 hF37
   have hRA_40 := hRA_31.fr0 hF37
   have hK_41 := hK_32.alloc hF37 heb34 (by omega)
   have hE_42 := hE_33.tr0 hF37
   refine V.pt h38 fun a h43 => ?_
   refine V.go (V.stn b34 0 (.agg #[.int .i64 0, .int .i64 0, .int .i64 0]) [.int .i64 0, .int .i64 0, .int .i64 0] h43.e h43.e rfl rfl (by kernel_rfl) hB36 (by simp) [.int .i64 0, .int .i64 0, .int .i64 0] rfl ?_)
   intro w44 hB45 hF46 hsw44
   have hB_47 := hB_39.fr1 hF46 (by omega)
   have hRA_48 := hRA_40.fr1 hF46 (by omega)
   have hK_49 := hK_41.fr hF46 (by simp)
   have hE_50 := hE_42.tr1 hF46 (by first | exact .inl (by assumption) | exact .inr (by omega) | exact .inl (.inl rfl))
   refine V.re h43 [] 1 0 [(6, .bool false)] fun a h51 => k25 _ _ ?_
   refine V.seq fun K52 k53 => ?_
   refine V.sr h51 [] 20 20 [(21, .bool true)] fun a h56 => ?_
   refine V.ct h56 ?_
   refine V.sr h56 [] 1 0 [(4, .bool false)] fun a h59 => ?_
   refine V.ret (V.then_r ?_)
   refine V.r1 h59 (.bool false) ?_
   have hst : delT T k = T1 := by (unfold delT; rw [← hT1]; unfold del1T; rw [hf, if_neg (by simp)])
   rw [hst]
   exact ⟨by rw [hf], (TabN.fin (T := T1) hok1 hb0 hB_47 hRA_48 (by have h := hK_49; rw [List.append_nil, List.append_nil] at h; exact h) (mem3 (l := (b34 :: t :: gA :: av)) (by simp) (by simp) (by intro k hk; simp [hk])) (by first | assumption | exact Ne.symm (by assumption) | omega) hpt ⟨.inl hpg.1, hpg.2⟩ rfl rfl rfl rfl rfl).gr3 (by omega), (hFPE.gr hE_50)⟩
  ·
   have hb1 : T1.b.length ≠ 0 := fun h => hb0 (List.eq_nil_of_length_eq_zero h)
   obtain ⟨hB, hRA, hRB, hlA, hlB, hK, hne, hne2, hne3, hpt, hpg, hph⟩ := hN
   replace hK := hK.toH
   have hltt := hB.lt
   have hltg := hRA.lt
   have hltg2 := hRB.lt
   have hE : FrP (gp (gr H w w21) av) w21 w21 := FrP.refl _ _
   have hK0 : ∀ k ∈ av, k < w21.heap.size := fun k hk => hK.avl k (by simp [hk])
   obtain ⟨hsd, hpa, hla, hlb, hmv, hmz, hnn, hcn, hks⟩ := (show T1.Ok from hok1)
   have hbl := hok1.bl
   have hFPE := hFP_23
   refine V.cl (av := #[.pointer (some ⟨t, 0, none⟩), .string k]) h26 (Go.Proofs.enters_of Try.func53 (by kernel_rfl) rfl) (by have h := find_any w21 (gr H w w21) (av) t T1 hT19q k hkz; rw [hf] at h; exact h) ?_
   rintro _ w61 ⟨rfl, hF60⟩
   refine ⟨_, rfl, fun a h62 => ?_⟩
   have hsw61 := hF60.size
   have hB_63 := hB.fr0 hF60
   have hRA_64 := hRA.fr0 hF60
   have hRB_65 := hRB.fr0 hF60
   have hK_66 := hK.fr0 hF60
   have hE_67 := hE.tr0 hF60
   refine V.run h62 [] 3 14 14 [(18, .agg #[.int .i64 0, .int .i64 0, .int .i64 0]), (19, .bool false)] fun a h72 => ?_
   refine V.go (V.mk [] trivial (by kernel_rfl) [.int .i64 0, .int .i64 0, .int .i64 0] 82 (fun b => .pointer (some ⟨b, 0, none⟩)) (by kernel_rfl) ?_)
   intro w69 b68 heb68 hB70 hF71 hsb68
   have hB_73 := hB_63.fr0 hF71
   have hRA_74 := hRA_64.fr0 hF71
   have hRB_75 := hRB_65.fr0 hF71
   have hK_76 := hK_66.alloc hF71 heb68 (by omega)
   have hE_77 := hE_67.tr0 hF71
   refine V.pt h72 fun a h78 => ?_
   refine V.go (V.stn b68 0 (.agg #[.int .i64 0, .int .i64 0, .int .i64 0]) [.int .i64 0, .int .i64 0, .int .i64 0] h78.e h78.e rfl rfl (by kernel_rfl) hB70 (by simp) [.int .i64 0, .int .i64 0, .int .i64 0] rfl ?_)
   intro w79 hB80 hF81 hsw79
   have hB_82 := hB_73.fr1 hF81 (by omega)
   have hRA_83 := hRA_74.fr1 hF81 (by omega)
   have hRB_84 := hRB_75.fr1 hF81 (by omega)
   have hK_85 := hK_76.fr hF81 (by simp)
   have hE_86 := hE_77.tr1 hF81 (by first | exact .inl (by assumption) | exact .inr (by omega) | exact .inl (.inl rfl))
   refine V.re h78 [] 1 0 [(6, .bool false)] fun a h87 => k25 _ _ ?_
   refine V.seq fun K88 k89 => ?_
   refine V.sr h87 [] 20 20 [(21, .bool true)] fun a h92 => ?_
   refine V.ct h92 ?_
   refine V.sr h92 [] 1 0 [(4, .bool false)] fun a h95 => ?_
   refine V.ret (V.then_r ?_)
   refine V.r1 h95 (.bool false) ?_
   have hst : delT T k = T1 := by (unfold delT; rw [← hT1]; unfold del1T; rw [hf, if_neg (by simp)])
   rw [hst]
   exact ⟨by rw [hf], (TabM.fin (T := T1) hok1 hb0 hB_82 hRA_83 hRB_84 (by first | exact hlA | (simp only [List.length_set]; exact hlA)) hK_85 (mem4 (l := (b68 :: t :: gA :: gB :: av)) (by simp) (by simp) (by simp) (by intro k hk; simp [hk])) (by first | assumption | omega) (by first | assumption | omega) (by first | assumption | omega) hpt ⟨.inl hpg.1, hpg.2⟩ ⟨.inl hph.1, hph.2⟩ rfl rfl rfl rfl rfl rfl rfl).gr3 (by omega), (hFPE.gr hE_86)⟩
 ·
  rcases hT19q.2 with ⟨hb0, gA, vsA, hN⟩ | ⟨hb0, gA, gB, vsA, vsB, hN⟩
  ·
   have hb1 : T1.b.length = 0 := by rw [hb0]; rfl
   obtain ⟨hB, hRA, hlA, hK, hne, hpt, hpg⟩ := hN
   replace hK := hK.toH
   have hltt := hB.lt
   have hltg := hRA.lt
   have hE : FrP (gp (gr H w w21) av) w21 w21 := FrP.refl _ _
   have hK0 : ∀ k ∈ av, k < w21.heap.size := fun k hk => hK.avl k (by simp [hk])
   obtain ⟨hsd, hpa, hla, hlb, hmv, hmz, hnn, hcn, hks⟩ := (show T1.Ok from hok1)
   have hbl := hok1.bl
   have hFPE := hFP_23
   refine V.cl (av := #[.pointer (some ⟨t, 0, none⟩), .string k]) h26 (Go.Proofs.enters_of Try.func53 (by kernel_rfl) rfl) (by have h := find_any w21 (gr H w w21) (av) t T1 hT19q k hkz; rw [hf] at h; exact h) ?_
   rintro _ w97 ⟨rfl, hF96⟩
   refine ⟨_, rfl, fun a h98 => ?_⟩
   have hsw97 := hF96.size
   have hB_99 := hB.fr0 hF96
   have hRA_100 := hRA.fr0 hF96
   have hK_101 := hK.fr0 hF96
   have hE_102 := hE.tr0 hF96
   have hbkl := bkt_lt T1.seed k (n := T1.a.length) (by omega)
   refine V.run h98 [] 3 14 14 [(18, .agg #[.int .i64 0, .int .i64 ((bkt T1.seed T1.a.length k : Nat) : Int), .int .i64 (j : Int)]), (19, .bool true)] fun a h107 => ?_
   refine V.go (V.mk [] trivial (by kernel_rfl) [.int .i64 0, .int .i64 0, .int .i64 0] 82 (fun b => .pointer (some ⟨b, 0, none⟩)) (by kernel_rfl) ?_)
   intro w104 b103 heb103 hB105 hF106 hsb103
   have hB_108 := hB_99.fr0 hF106
   have hRA_109 := hRA_100.fr0 hF106
   have hK_110 := hK_101.alloc hF106 heb103 (by omega)
   have hE_111 := hE_102.tr0 hF106
   refine V.pt h107 fun a h112 => ?_
   refine V.go (V.stn b103 0 (.agg #[.int .i64 0, .int .i64 ((bkt T1.seed T1.a.length k : Nat) : Int), .int .i64 (j : Int)]) [.int .i64 0, .int .i64 ((bkt T1.seed T1.a.length k : Nat) : Int), .int .i64 (j : Int)] h112.e h112.e rfl rfl (by kernel_rfl) hB105 (by simp) [.int .i64 0, .int .i64 ((bkt T1.seed T1.a.length k : Nat) : Int), .int .i64 (j : Int)] rfl ?_)
   intro w113 hB114 hF115 hsw113
   have hB_116 := hB_108.fr1 hF115 (by omega)
   have hRA_117 := hRA_109.fr1 hF115 (by omega)
   have hK_118 := hK_110.fr hF115 (by simp)
   have hE_119 := hE_111.tr1 hF115 (by first | exact .inl (by assumption) | exact .inr (by omega) | exact .inl (.inl rfl))
   refine V.re h112 [] 1 0 [(6, .bool true)] fun a h120 => k25 _ _ ?_
   refine V.seq fun K121 k122 => ?_
   refine V.sr h120 [] 20 20 [(21, .bool false)] fun a h125 => ?_
   refine V.cf h125 ?_
   refine V.skip ?_
   refine V.then_n (k122 _ _ ?_)
   refine V.seq fun K126 k127 => ?_
   have hbq := hbl (bkt T1.seed T1.a.length k)
   refine V.pl [([0,1,2,3,4,5,6,7,8,9,10,11],none)] fun w128 hF129 hsw128 => ?_
   have hB_130 := hB_116.fr0 hF129
   have hRA_131 := hRA_117.fr0 hF129
   have hK_132 := hK_118.fr0 hF129
   have hE_133 := hE_119.tr0 hF129
   have hB114_134 := hB114.fr0 hF129
   obtain ⟨A135, c136, hv137⟩ := hK_132.getA hlA (i := (bkt T1.seed T1.a.length k)) (by omega) nilS
   have hS138 := hK_132.slA hlA (i := (bkt T1.seed T1.a.length k)) (by omega) hv137
   refine V.pz h125 [(2, .b hB114_134 0), (3, .b hB_130 1), (1, .b hB114_134 1), (0, .ix gA 0 T1.a.length T1.a.length .i64 ((bkt T1.seed T1.a.length k : Nat) : Int) 1 rfl), (0, .l ⟨gA, 0 + ((bkt T1.seed T1.a.length k : Nat) : Int).toNat * 1, none⟩ (.slice A135 ((T1.a.getD (bkt T1.seed T1.a.length k) []).length) c136) ((hRA_131.at (bkt T1.seed T1.a.length k) nilS (by omega)).trans (congrArg some hv137)))] 22 32 [(7, .slice A135 ((T1.a.getD (bkt T1.seed T1.a.length k) []).length) c136)] fun a h139 => k127 _ _ ?_
   refine V.seq fun K140 k141 => ?_
   refine V.pl [([0,1,2,3,4,5,6,7,8,9,10,11,12,13,14],some (15,[2,6,8])),([16],some (17,[])),([],none)] fun w142 hF143 hsw142 => ?_
   have hB_144 := hB_130.fr0 hF143
   have hRA_145 := hRA_131.fr0 hF143
   have hK_146 := hK_132.fr0 hF143
   have hE_147 := hE_133.tr0 hF143
   have hB114_148 := hB114_134.fr0 hF143
   refine V.pe h139 [(2, .b hB114_148 0), (3, .b hB_144 1), (1, .b hB114_148 1), (2, .b hB114_148 2), (1, .b hB114_148 2), (0, .i ((j : Int) + 1))] 33 46 [(34, .pointer (some ⟨b103, 0, none⟩)), (38, .pointer (some ⟨t, 1, none⟩)), (39, .slice (some ⟨gA, 0, none⟩) T1.a.length T1.a.length), (40, .pointer (some ⟨b103, 1, none⟩)), (41, .int .i64 ((bkt T1.seed T1.a.length k : Nat) : Int)), (42, .slice A135 ((T1.a.getD (bkt T1.seed T1.a.length k) []).length) c136), (44, .int .i64 (j : Int)), (47, .int .i64 ((j : Int) + 1))] fun a h150 => ?_
   obtain ⟨g151, hAe, hO152, hc153, ho154⟩ := hK_146.ownA hlA (i := (bkt T1.seed T1.a.length k)) (by omega) hv137 (by omega)
   rw [hAe] at hv137
   refine V.cl (av := #[.slice A135 ((T1.a.getD (bkt T1.seed T1.a.length k) []).length) c136, .int .i64 (j : Int), .int .i64 ((j : Int) + 1)]) h150 (Go.Proofs.enters_of Try.func68 (by kernel_rfl) rfl) (by (rw [hAe]; exact delete_any w142 g151 c136 j (T1.a.getD (bkt T1.seed T1.a.length k) []) hO152 (by omega) hc153 (by omega))) ?_
   rintro _ w158 ⟨rfl, hOr155, hF156⟩
   refine ⟨_, rfl, fun a h159 => ?_⟩
   have hsw158 := hF156.size
   have hB_160 := hB_144.fr hF156 (fun hm => (ho154 _ hm).1 (by simp))
   have hRA_161 := hRA_145.fr hF156 (fun hm => (ho154 _ hm).1 (by simp))
   have hE_162 := hE_147.tr hF156 (fun k hk => ((ho154 k hk).2).imp (fun h => ⟨h, fun hm => (ho154 k hk).1 (by simp [hm])⟩) id)
   have hB114_163 := hB114_148.fr hF156 (fun hm => (ho154 _ hm).1 (by simp))
   have hK157 := hK_146.setA hlA (i := (bkt T1.seed T1.a.length k)) (by omega) hv137 hF156 hOr155 (.inr (by omega))
   refine V.eh ⟨(fun _ => held_blk (n := 1) (hx := (h150.e (v := (.pointer (some ⟨b103, 0, none⟩))))) hB114_148 hB114_163 (by kernel_rfl) rfl (by simp only [List.length]; omega)), (fun _ => held_blk (n := 1) (hx := (h150.e (v := (.pointer (some ⟨t, 1, none⟩))))) hB_144 hB_160 (by kernel_rfl) rfl (by simp only [List.length]; omega)), (fun _ => held_blk (n := 1) (hx := (h150.e (v := (.pointer (some ⟨b103, 1, none⟩))))) hB114_148 hB114_163 (by kernel_rfl) rfl (by simp only [List.length]; omega))⟩ ?_
   refine V.pe h159 [(0, .ix gA 0 T1.a.length T1.a.length .i64 ((bkt T1.seed T1.a.length k : Nat) : Int) 1 rfl)] 1 0 [(49, .pointer (some ⟨gA, 0 + ((bkt T1.seed T1.a.length k : Nat) : Int).toNat * 1, none⟩))] fun a h164 => ?_
   refine V.go (V.strow (enc := idV) gA (((bkt T1.seed T1.a.length k : Nat) : Int).toNat) (.slice (some ⟨g151, 0, none⟩) ((T1.a.getD (bkt T1.seed T1.a.length k) []).length - 1) c136) h164.e h164.e rfl rfl (by kernel_rfl) hRA_161 (by first | omega | (simp only [List.length_set, List.length_replicate]; omega)) ?_)
   intro w165 hR166 hF167 hsw165
   have hB_168 := hB_160.fr1 hF167 (by omega)
   have hE_169 := hE_162.tr1 hF167 (by first | exact .inl (by assumption) | exact .inr (by omega) | exact .inl (.inl rfl))
   have hK157_171 := hK157.fr hF167 (by simp)
   refine V.eh trivial ?_
   refine V.pz h164 [] 1 0 [] fun a h172 => k141 _ _ ?_
   have h173 := h172.only [(0, .pointer (some ⟨t, 0, none⟩))]
   refine V.sg fun K174 k175 => ?_
   refine V.run h173 [(3, .b hB_168 4), (0, .i ((T1.n : Int) - 1))] 7 50 55 [(54, .int .i64 ((T1.n : Int) - 1)), (56, .pointer (some ⟨t, 4, none⟩))] fun a h179 => ?_
   refine V.go (V.stn t 4 (.int .i64 ((T1.n : Int) - 1)) [.int .i64 ((T1.n : Int) - 1)] h179.e h179.e rfl rfl (by kernel_rfl) hB_168 (by simp) [.int .u64 (T1.seed : Int), .slice (some ⟨gA, 0, none⟩) T1.a.length T1.a.length, .slice none 0 0, .int .i64 (T1.moved : Int), .int .i64 ((T1.n : Int) - 1)] rfl ?_)
   intro w176 hB177 hF178 hsw176
   have hE_180 := hE_169.tr1 hF178 (by first | exact .inl (by assumption) | exact .inr (by omega) | exact .inl (.inl rfl))
   have hK157_182 := hK157_171.fr hF178 (by simp)
   have hR166_183 := hR166.fr1 hF178 (by omega)
   refine V.nt (k175 _ _ ?_)
   refine V.seq fun K184 k185 => ?_
   refine V.sr h179 [(4, .b hB177 1)] 57 62 [(8, .int .i64 ((T1.a.length : Nat) : Int))] fun a h188 => ?_
   refine V.sg fun K189 k190 => ?_
   refine V.run h188 [] 1 1 0 [(63, .pointer (some ⟨t, 0, none⟩))] fun a h191 => ?_
   refine V.cl h191 (Go.Proofs.enters_of Try.func65 (by kernel_rfl) rfl) (moves_N w176 t T1.seed T1.a.length 0 0 gA 0 (.int .i64 (T1.moved : Int)) (.int .i64 ((T1.n : Int) - 1)) hB177) ?_
   rintro _ w193 ⟨rfl, hF192⟩
   refine ⟨_, rfl, fun a h194 => ?_⟩
   have hsw193 := hF192.size
   have hE_195 := hE_180.tr0 hF192
   have hK157_197 := hK157_182.fr0 hF192
   have hR166_198 := hR166_183.fr0 hF192
   have hB177_199 := hB177.fr0 hF192
   refine V.run h194 [] 6 65 69 [(70, .bool (decide (((T1.a.length : Nat) : Int) > 4)))] fun a h200 => ?_
   by_cases hg201 : ((T1.a.length : Nat) : Int) > 4
   ·
    have h202 := h200.kt 70 hg201
    refine V.re h202 [(3, .b hB177_199 4), (1, .q (.int .i64 (((T1.a.length : Nat) : Int) / 8)) (V.quo_i64 (by omega) (by omega) (by omega)))] 71 77 [(78, .bool (decide (((T1.n : Int) - 1) < (((T1.a.length : Nat) : Int) / 8))))] fun a h203 => k190 _ _ ?_
    refine V.cp h203 (((T1.n : Int) - 1) < (((T1.a.length : Nat) : Int) / 8)) (fun ht204 => ?_) (fun ht204 => ?_)
    ·
     refine V.rg ?_
     refine V.run h203 [(2, .quoN T1.a.length 2)] 3 80 80 [(79, .pointer (some ⟨t, 0, none⟩)), (81, .int .i64 ((T1.a.length / 2 : Nat) : Int))] fun a h205 => ?_
     have hu2 : rm1T T1 k = ({ T1 with a := rmV T1.a (bkt T1.seed T1.a.length k) j, n := T1.n - 1 } : Tb Int) := by (unfold rm1T; rw [hf]; simp)
     have hup := (rm1T_ok hok1 hm1 k (by rw [hf])).1
     rw [hu2] at hup
     have hN206 : TabN 67 87 86 itI w193 (gh (gr H w w21) w21) av t gA (vsA.set (((bkt T1.seed T1.a.length k : Nat) : Int).toNat) (.slice (some ⟨g151, 0, none⟩) ((T1.a.getD (bkt T1.seed T1.a.length k) []).length - 1) c136)) ({ T1 with a := rmV T1.a (bkt T1.seed T1.a.length k) j, n := T1.n - 1 } : Tb Int) := TabN.mk2 hB177_199 hR166_198 (by simpa [rmV] using hK157_197) (mem3 (by simp) (by simp) (by intro k hk; simp [hk])) hne ⟨.inl hpt.1, hpt.2⟩ ⟨.inl hpg.1, hpg.2⟩ rfl (rmV_length _ _ _).symm rfl (by show ((T1.n : Int) - 1) = ((T1.n - 1 : Nat) : Int); omega) rfl
     refine V.cl h205 (Go.Proofs.enters_of Try.func67 (by kernel_rfl) rfl) (start_N w193 (gh (gr H w w21) w21) av t gA _ ({ T1 with a := rmV T1.a (bkt T1.seed T1.a.length k) j, n := T1.n - 1 } : Tb Int) hup hN206 (T1.a.length / 2) hb0 (by omega) (by omega)) ?_
     rintro _ w209 ⟨rfl, hT207, hfp208⟩
     refine ⟨_, rfl, fun a h210 => ?_⟩
     have hsw209 := hfp208.size
     have hE_211 := hE_195.trP hfp208 (fun k hk => hk.1.imp (fun h => ⟨h, hk.2⟩) id)
     refine V.nt (k185 _ _ ?_)
     refine V.sr h210 [] 1 0 [(4, .bool true)] fun a h214 => ?_
     refine V.ret ?_
     refine V.r1 h214 (.bool true) ?_
     have hst : delT T k = shrT (rm1T T1 k) := by (unfold delT; rw [← hT1]; unfold del1T; rw [hf, if_pos rfl])
     rw [hst, hu2]
     have hsh : shrT ({ T1 with a := rmV T1.a (bkt T1.seed T1.a.length k) j, n := T1.n - 1 } : Tb Int) = startT ({ T1 with a := rmV T1.a (bkt T1.seed T1.a.length k) j, n := T1.n - 1 } : Tb Int) (T1.a.length / 2) := by (unfold shrT; rw [if_pos ⟨hb1, by show 4 < (rmV T1.a (bkt T1.seed T1.a.length k) j).length; rw [rmV_length]; omega, by show T1.n - 1 < (rmV T1.a (bkt T1.seed T1.a.length k) j).length / 8; rw [rmV_length]; omega⟩]; show startT _ ((rmV T1.a (bkt T1.seed T1.a.length k) j).length / 2) = _; rw [rmV_length])
     rw [hsh]
     exact ⟨by rw [hf], (hT207.gr2 (by omega)).gr3 (by omega), (hFPE.gr hE_211)⟩
    ·
     refine V.skip ?_
     refine V.then_n (k185 _ _ ?_)
     refine V.sr h203 [] 1 0 [(4, .bool true)] fun a h217 => ?_
     refine V.ret ?_
     refine V.r1 h217 (.bool true) ?_
     have hst : delT T k = shrT (rm1T T1 k) := by (unfold delT; rw [← hT1]; unfold del1T; rw [hf, if_pos rfl])
     have hu2 : rm1T T1 k = ({ T1 with a := rmV T1.a (bkt T1.seed T1.a.length k) j, n := T1.n - 1 } : Tb Int) := by (unfold rm1T; rw [hf]; simp)
     have hup := (rm1T_ok hok1 hm1 k (by rw [hf])).1
     rw [hu2] at hup
     rw [hst, hu2]
     have hsh : shrT ({ T1 with a := rmV T1.a (bkt T1.seed T1.a.length k) j, n := T1.n - 1 } : Tb Int) = ({ T1 with a := rmV T1.a (bkt T1.seed T1.a.length k) j, n := T1.n - 1 } : Tb Int) := by (unfold shrT; rw [if_neg]; rintro ⟨_, h1, h2⟩; (have h3 : 4 < (rmV T1.a (bkt T1.seed T1.a.length k) j).length := h1); (have h4 : T1.n - 1 < (rmV T1.a (bkt T1.seed T1.a.length k) j).length / 8 := h2); rw [rmV_length] at h3 h4; omega)
     rw [hsh]
     exact ⟨by rw [hf], (TabN.fin (T := ({ T1 with a := rmV T1.a (bkt T1.seed T1.a.length k) j, n := T1.n - 1 } : Tb Int)) hup hb0 hB177_199 hR166_198 (by have h := hK157_197; rw [List.append_nil, List.append_nil] at h; exact h) (mem3 (l := (b103 :: t :: gA :: av)) (by simp) (by simp) (by intro k hk; simp [hk])) (by first | assumption | exact Ne.symm (by assumption) | omega) hpt ⟨.inl hpg.1, hpg.2⟩ rfl (rmV_length _ _ _).symm rfl (by show ((T1.n : Int) - 1) = ((T1.n - 1 : Nat) : Int); omega) rfl).gr3 (by omega), (hFPE.gr hE_195)⟩
   ·
    have h218 := h200.kf 70 hg201
    refine V.re h218 [] 71 77 [(78, .bool false)] fun a h219 => k190 _ _ ?_
    refine V.cf h219 ?_
    refine V.skip ?_
    refine V.then_n (k185 _ _ ?_)
    refine V.sr h219 [] 1 0 [(4, .bool true)] fun a h222 => ?_
    refine V.ret ?_
    refine V.r1 h222 (.bool true) ?_
    have hst : delT T k = shrT (rm1T T1 k) := by (unfold delT; rw [← hT1]; unfold del1T; rw [hf, if_pos rfl])
    have hu2 : rm1T T1 k = ({ T1 with a := rmV T1.a (bkt T1.seed T1.a.length k) j, n := T1.n - 1 } : Tb Int) := by (unfold rm1T; rw [hf]; simp)
    have hup := (rm1T_ok hok1 hm1 k (by rw [hf])).1
    rw [hu2] at hup
    rw [hst, hu2]
    have hsh : shrT ({ T1 with a := rmV T1.a (bkt T1.seed T1.a.length k) j, n := T1.n - 1 } : Tb Int) = ({ T1 with a := rmV T1.a (bkt T1.seed T1.a.length k) j, n := T1.n - 1 } : Tb Int) := by (unfold shrT; rw [if_neg]; rintro ⟨_, h1, h2⟩; (have h3 : 4 < (rmV T1.a (bkt T1.seed T1.a.length k) j).length := h1); (have h4 : T1.n - 1 < (rmV T1.a (bkt T1.seed T1.a.length k) j).length / 8 := h2); rw [rmV_length] at h3 h4; omega)
    rw [hsh]
    exact ⟨by rw [hf], (TabN.fin (T := ({ T1 with a := rmV T1.a (bkt T1.seed T1.a.length k) j, n := T1.n - 1 } : Tb Int)) hup hb0 hB177_199 hR166_198 (by have h := hK157_197; rw [List.append_nil, List.append_nil] at h; exact h) (mem3 (l := (b103 :: t :: gA :: av)) (by simp) (by simp) (by intro k hk; simp [hk])) (by first | assumption | exact Ne.symm (by assumption) | omega) hpt ⟨.inl hpg.1, hpg.2⟩ rfl (rmV_length _ _ _).symm rfl (by show ((T1.n : Int) - 1) = ((T1.n - 1 : Nat) : Int); omega) rfl).gr3 (by omega), (hFPE.gr hE_195)⟩
  ·
   have hb1 : T1.b.length ≠ 0 := fun h => hb0 (List.eq_nil_of_length_eq_zero h)
   obtain ⟨hB, hRA, hRB, hlA, hlB, hK, hne, hne2, hne3, hpt, hpg, hph⟩ := hN
   replace hK := hK.toH
   have hltt := hB.lt
   have hltg := hRA.lt
   have hltg2 := hRB.lt
   have hE : FrP (gp (gr H w w21) av) w21 w21 := FrP.refl _ _
   have hK0 : ∀ k ∈ av, k < w21.heap.size := fun k hk => hK.avl k (by simp [hk])
   obtain ⟨hsd, hpa, hla, hlb, hmv, hmz, hnn, hcn, hks⟩ := (show T1.Ok from hok1)
   have hbl := hok1.bl
   have hFPE := hFP_23
   refine V.cl (av := #[.pointer (some ⟨t, 0, none⟩), .string k]) h26 (Go.Proofs.enters_of Try.func53 (by kernel_rfl) rfl) (by have h := find_any w21 (gr H w w21) (av) t T1 hT19q k hkz; rw [hf] at h; exact h) ?_
   rintro _ w224 ⟨rfl, hF223⟩
   refine ⟨_, rfl, fun a h225 => ?_⟩
   have hsw224 := hF223.size
   have hB_226 := hB.fr0 hF223
   have hRA_227 := hRA.fr0 hF223
   have hRB_228 := hRB.fr0 hF223
   have hK_229 := hK.fr0 hF223
   have hE_230 := hE.tr0 hF223
   have hbkl := bkt_lt T1.seed k (n := T1.a.length) (by omega)
   refine V.run h225 [] 3 14 14 [(18, .agg #[.int .i64 0, .int .i64 ((bkt T1.seed T1.a.length k : Nat) : Int), .int .i64 (j : Int)]), (19, .bool true)] fun a h235 => ?_
   refine V.go (V.mk [] trivial (by kernel_rfl) [.int .i64 0, .int .i64 0, .int .i64 0] 82 (fun b => .pointer (some ⟨b, 0, none⟩)) (by kernel_rfl) ?_)
   intro w232 b231 heb231 hB233 hF234 hsb231
   have hB_236 := hB_226.fr0 hF234
   have hRA_237 := hRA_227.fr0 hF234
   have hRB_238 := hRB_228.fr0 hF234
   have hK_239 := hK_229.alloc hF234 heb231 (by omega)
   have hE_240 := hE_230.tr0 hF234
   refine V.pt h235 fun a h241 => ?_
   refine V.go (V.stn b231 0 (.agg #[.int .i64 0, .int .i64 ((bkt T1.seed T1.a.length k : Nat) : Int), .int .i64 (j : Int)]) [.int .i64 0, .int .i64 ((bkt T1.seed T1.a.length k : Nat) : Int), .int .i64 (j : Int)] h241.e h241.e rfl rfl (by kernel_rfl) hB233 (by simp) [.int .i64 0, .int .i64 ((bkt T1.seed T1.a.length k : Nat) : Int), .int .i64 (j : Int)] rfl ?_)
   intro w242 hB243 hF244 hsw242
   have hB_245 := hB_236.fr1 hF244 (by omega)
   have hRA_246 := hRA_237.fr1 hF244 (by omega)
   have hRB_247 := hRB_238.fr1 hF244 (by omega)
   have hK_248 := hK_239.fr hF244 (by simp)
   have hE_249 := hE_240.tr1 hF244 (by first | exact .inl (by assumption) | exact .inr (by omega) | exact .inl (.inl rfl))
   refine V.re h241 [] 1 0 [(6, .bool true)] fun a h250 => k25 _ _ ?_
   refine V.seq fun K251 k252 => ?_
   refine V.sr h250 [] 20 20 [(21, .bool false)] fun a h255 => ?_
   refine V.cf h255 ?_
   refine V.skip ?_
   refine V.then_n (k252 _ _ ?_)
   refine V.seq fun K256 k257 => ?_
   have hbq := hbl (bkt T1.seed T1.a.length k)
   refine V.pl [([0,1,2,3,4,5,6,7,8,9,10,11],none)] fun w258 hF259 hsw258 => ?_
   have hB_260 := hB_245.fr0 hF259
   have hRA_261 := hRA_246.fr0 hF259
   have hRB_262 := hRB_247.fr0 hF259
   have hK_263 := hK_248.fr0 hF259
   have hE_264 := hE_249.tr0 hF259
   have hB243_265 := hB243.fr0 hF259
   obtain ⟨A266, c267, hv268⟩ := hK_263.getA hlA (i := (bkt T1.seed T1.a.length k)) (by omega) nilS
   have hS269 := hK_263.slA hlA (i := (bkt T1.seed T1.a.length k)) (by omega) hv268
   refine V.pz h255 [(2, .b hB243_265 0), (3, .b hB_260 1), (1, .b hB243_265 1), (0, .ix gA 0 T1.a.length T1.a.length .i64 ((bkt T1.seed T1.a.length k : Nat) : Int) 1 rfl), (0, .l ⟨gA, 0 + ((bkt T1.seed T1.a.length k : Nat) : Int).toNat * 1, none⟩ (.slice A266 ((T1.a.getD (bkt T1.seed T1.a.length k) []).length) c267) ((hRA_261.at (bkt T1.seed T1.a.length k) nilS (by omega)).trans (congrArg some hv268)))] 22 32 [(7, .slice A266 ((T1.a.getD (bkt T1.seed T1.a.length k) []).length) c267)] fun a h270 => k257 _ _ ?_
   refine V.seq fun K271 k272 => ?_
   refine V.pl [([0,1,2,3,4,5,6,7,8,9,10,11,12,13,14],some (15,[2,6,8])),([16],some (17,[])),([],none)] fun w273 hF274 hsw273 => ?_
   have hB_275 := hB_260.fr0 hF274
   have hRA_276 := hRA_261.fr0 hF274
   have hRB_277 := hRB_262.fr0 hF274
   have hK_278 := hK_263.fr0 hF274
   have hE_279 := hE_264.tr0 hF274
   have hB243_280 := hB243_265.fr0 hF274
   refine V.pe h270 [(2, .b hB243_280 0), (3, .b hB_275 1), (1, .b hB243_280 1), (2, .b hB243_280 2), (1, .b hB243_280 2), (0, .i ((j : Int) + 1))] 33 46 [(34, .pointer (some ⟨b231, 0, none⟩)), (38, .pointer (some ⟨t, 1, none⟩)), (39, .slice (some ⟨gA, 0, none⟩) T1.a.length T1.a.length), (40, .pointer (some ⟨b231, 1, none⟩)), (41, .int .i64 ((bkt T1.seed T1.a.length k : Nat) : Int)), (42, .slice A266 ((T1.a.getD (bkt T1.seed T1.a.length k) []).length) c267), (44, .int .i64 (j : Int)), (47, .int .i64 ((j : Int) + 1))] fun a h282 => ?_
   obtain ⟨g283, hAe, hO284, hc285, ho286⟩ := hK_278.ownA hlA (i := (bkt T1.seed T1.a.length k)) (by omega) hv268 (by omega)
   rw [hAe] at hv268
   refine V.cl (av := #[.slice A266 ((T1.a.getD (bkt T1.seed T1.a.length k) []).length) c267, .int .i64 (j : Int), .int .i64 ((j : Int) + 1)]) h282 (Go.Proofs.enters_of Try.func68 (by kernel_rfl) rfl) (by (rw [hAe]; exact delete_any w273 g283 c267 j (T1.a.getD (bkt T1.seed T1.a.length k) []) hO284 (by omega) hc285 (by omega))) ?_
   rintro _ w290 ⟨rfl, hOr287, hF288⟩
   refine ⟨_, rfl, fun a h291 => ?_⟩
   have hsw290 := hF288.size
   have hB_292 := hB_275.fr hF288 (fun hm => (ho286 _ hm).1 (by simp))
   have hRA_293 := hRA_276.fr hF288 (fun hm => (ho286 _ hm).1 (by simp))
   have hRB_294 := hRB_277.fr hF288 (fun hm => (ho286 _ hm).1 (by simp))
   have hE_295 := hE_279.tr hF288 (fun k hk => ((ho286 k hk).2).imp (fun h => ⟨h, fun hm => (ho286 k hk).1 (by simp [hm])⟩) id)
   have hB243_296 := hB243_280.fr hF288 (fun hm => (ho286 _ hm).1 (by simp))
   have hK289 := hK_278.setA hlA (i := (bkt T1.seed T1.a.length k)) (by omega) hv268 hF288 hOr287 (.inr (by omega))
   refine V.eh ⟨(fun _ => held_blk (n := 1) (hx := (h282.e (v := (.pointer (some ⟨b231, 0, none⟩))))) hB243_280 hB243_296 (by kernel_rfl) rfl (by simp only [List.length]; omega)), (fun _ => held_blk (n := 1) (hx := (h282.e (v := (.pointer (some ⟨t, 1, none⟩))))) hB_275 hB_292 (by kernel_rfl) rfl (by simp only [List.length]; omega)), (fun _ => held_blk (n := 1) (hx := (h282.e (v := (.pointer (some ⟨b231, 1, none⟩))))) hB243_280 hB243_296 (by kernel_rfl) rfl (by simp only [List.length]; omega))⟩ ?_
   refine V.pe h291 [(0, .ix gA 0 T1.a.length T1.a.length .i64 ((bkt T1.seed T1.a.length k : Nat) : Int) 1 rfl)] 1 0 [(49, .pointer (some ⟨gA, 0 + ((bkt T1.seed T1.a.length k : Nat) : Int).toNat * 1, none⟩))] fun a h297 => ?_
   refine V.go (V.strow (enc := idV) gA (((bkt T1.seed T1.a.length k : Nat) : Int).toNat) (.slice (some ⟨g283, 0, none⟩) ((T1.a.getD (bkt T1.seed T1.a.length k) []).length - 1) c267) h297.e h297.e rfl rfl (by kernel_rfl) hRA_293 (by first | omega | (simp only [List.length_set, List.length_replicate]; omega)) ?_)
   intro w298 hR299 hF300 hsw298
   have hB_301 := hB_292.fr1 hF300 (by omega)
   have hRB_302 := hRB_294.fr1 hF300 (by omega)
   have hE_303 := hE_295.tr1 hF300 (by first | exact .inl (by assumption) | exact .inr (by omega) | exact .inl (.inl rfl))
   have hK289_305 := hK289.fr hF300 (by simp)
   refine V.eh trivial ?_
   refine V.pz h297 [] 1 0 [] fun a h306 => k272 _ _ ?_
   have h307 := h306.only [(0, .pointer (some ⟨t, 0, none⟩))]
   refine V.sg fun K308 k309 => ?_
   refine V.run h307 [(3, .b hB_301 4), (0, .i ((T1.n : Int) - 1))] 7 50 55 [(54, .int .i64 ((T1.n : Int) - 1)), (56, .pointer (some ⟨t, 4, none⟩))] fun a h313 => ?_
   refine V.go (V.stn t 4 (.int .i64 ((T1.n : Int) - 1)) [.int .i64 ((T1.n : Int) - 1)] h313.e h313.e rfl rfl (by kernel_rfl) hB_301 (by simp) [.int .u64 (T1.seed : Int), .slice (some ⟨gA, 0, none⟩) T1.a.length T1.a.length, .slice (some ⟨gB, 0, none⟩) T1.b.length T1.b.length, .int .i64 (T1.moved : Int), .int .i64 ((T1.n : Int) - 1)] rfl ?_)
   intro w310 hB311 hF312 hsw310
   have hRB_314 := hRB_302.fr1 hF312 (by omega)
   have hE_315 := hE_303.tr1 hF312 (by first | exact .inl (by assumption) | exact .inr (by omega) | exact .inl (.inl rfl))
   have hK289_317 := hK289_305.fr hF312 (by simp)
   have hR299_318 := hR299.fr1 hF312 (by omega)
   refine V.nt (k309 _ _ ?_)
   refine V.seq fun K319 k320 => ?_
   refine V.sr h313 [(4, .b hB311 1)] 57 62 [(8, .int .i64 ((T1.a.length : Nat) : Int))] fun a h323 => ?_
   refine V.sg fun K324 k325 => ?_
   refine V.run h323 [] 1 1 0 [(63, .pointer (some ⟨t, 0, none⟩))] fun a h326 => ?_
   refine V.cl h326 (Go.Proofs.enters_of Try.func65 (by kernel_rfl) rfl) (moves_M w310 t T1.seed T1.a.length T1.b.length 0 gA gB (.int .i64 (T1.moved : Int)) (.int .i64 ((T1.n : Int) - 1)) hB311) ?_
   rintro _ w328 ⟨rfl, hF327⟩
   refine ⟨_, rfl, fun a h329 => ?_⟩
   have hsw328 := hF327.size
   have hRB_330 := hRB_314.fr0 hF327
   have hE_331 := hE_315.tr0 hF327
   have hK289_333 := hK289_317.fr0 hF327
   have hR299_334 := hR299_318.fr0 hF327
   have hB311_335 := hB311.fr0 hF327
   refine V.re h329 [] 65 77 [(78, .bool false)] fun a h336 => k325 _ _ ?_
   refine V.cf h336 ?_
   refine V.skip ?_
   refine V.then_n (k320 _ _ ?_)
   refine V.sr h336 [] 1 0 [(4, .bool true)] fun a h339 => ?_
   refine V.ret ?_
   refine V.r1 h339 (.bool true) ?_
   have hst : delT T k = shrT (rm1T T1 k) := by (unfold delT; rw [← hT1]; unfold del1T; rw [hf, if_pos rfl])
   have hu2 : rm1T T1 k = ({ T1 with a := rmV T1.a (bkt T1.seed T1.a.length k) j, n := T1.n - 1 } : Tb Int) := by (unfold rm1T; rw [hf]; simp)
   have hup := (rm1T_ok hok1 hm1 k (by rw [hf])).1
   rw [hu2] at hup
   rw [hst, hu2]
   have hsh : shrT ({ T1 with a := rmV T1.a (bkt T1.seed T1.a.length k) j, n := T1.n - 1 } : Tb Int) = ({ T1 with a := rmV T1.a (bkt T1.seed T1.a.length k) j, n := T1.n - 1 } : Tb Int) := by (unfold shrT; rw [if_neg]; rintro ⟨h0, _⟩; exact hb1 (by first | exact h0 | (have h1 : (rmV T1.b (bkt T1.seed T1.b.length k) j).length = 0 := h0; rwa [rmV_length] at h1)))
   rw [hsh]
   exact ⟨by rw [hf], (TabM.fin (T := ({ T1 with a := rmV T1.a (bkt T1.seed T1.a.length k) j, n := T1.n - 1 } : Tb Int)) hup hb0 hB311_335 hR299_334 hRB_330 (by first | exact hlA | (simp only [List.length_set]; exact hlA)) hK289_333 (mem4 (l := (b231 :: t :: gA :: gB :: av)) (by simp) (by simp) (by simp) (by intro k hk; simp [hk])) (by first | assumption | omega) (by first | assumption | omega) (by first | assumption | omega) hpt ⟨.inl hpg.1, hpg.2⟩ ⟨.inl hph.1, hph.2⟩ rfl (rmV_length _ _ _).symm rfl (by show ((T1.n : Int) - 1) = ((T1.n - 1 : Nat) : Int); omega) rfl rfl rfl).gr3 (by omega), (hFPE.gr hE_331)⟩
 ·
  rcases hT19q.2 with ⟨hb0, gA, vsA, hN⟩ | ⟨hb0, gA, gB, vsA, vsB, hN⟩
  ·
   exact absurd (by rw [hb0]; rfl) hbn
  ·
   have hb1 : T1.b.length ≠ 0 := fun h => hb0 (List.eq_nil_of_length_eq_zero h)
   obtain ⟨hB, hRA, hRB, hlA, hlB, hK, hne, hne2, hne3, hpt, hpg, hph⟩ := hN
   replace hK := hK.toH
   have hltt := hB.lt
   have hltg := hRA.lt
   have hltg2 := hRB.lt
   have hE : FrP (gp (gr H w w21) av) w21 w21 := FrP.refl _ _
   have hK0 : ∀ k ∈ av, k < w21.heap.size := fun k hk => hK.avl k (by simp [hk])
   obtain ⟨hsd, hpa, hla, hlb, hmv, hmz, hnn, hcn, hks⟩ := (show T1.Ok from hok1)
   have hbl := hok1.bl
   have hFPE := hFP_23
   refine V.cl (av := #[.pointer (some ⟨t, 0, none⟩), .string k]) h26 (Go.Proofs.enters_of Try.func53 (by kernel_rfl) rfl) (by have h := find_any w21 (gr H w w21) (av) t T1 hT19q k hkz; rw [hf] at h; exact h) ?_
   rintro _ w341 ⟨rfl, hF340⟩
   refine ⟨_, rfl, fun a h342 => ?_⟩
   have hsw341 := hF340.size
   have hB_343 := hB.fr0 hF340
   have hRA_344 := hRA.fr0 hF340
   have hRB_345 := hRB.fr0 hF340
   have hK_346 := hK.fr0 hF340
   have hE_347 := hE.tr0 hF340
   have hbkl := bkt_lt T1.seed k (n := T1.b.length) (by omega)
   refine V.run h342 [] 3 14 14 [(18, .agg #[.int .i64 1, .int .i64 ((bkt T1.seed T1.b.length k : Nat) : Int), .int .i64 (j : Int)]), (19, .bool true)] fun a h352 => ?_
   refine V.go (V.mk [] trivial (by kernel_rfl) [.int .i64 0, .int .i64 0, .int .i64 0] 82 (fun b => .pointer (some ⟨b, 0, none⟩)) (by kernel_rfl) ?_)
   intro w349 b348 heb348 hB350 hF351 hsb348
   have hB_353 := hB_343.fr0 hF351
   have hRA_354 := hRA_344.fr0 hF351
   have hRB_355 := hRB_345.fr0 hF351
   have hK_356 := hK_346.alloc hF351 heb348 (by omega)
   have hE_357 := hE_347.tr0 hF351
   refine V.pt h352 fun a h358 => ?_
   refine V.go (V.stn b348 0 (.agg #[.int .i64 1, .int .i64 ((bkt T1.seed T1.b.length k : Nat) : Int), .int .i64 (j : Int)]) [.int .i64 1, .int .i64 ((bkt T1.seed T1.b.length k : Nat) : Int), .int .i64 (j : Int)] h358.e h358.e rfl rfl (by kernel_rfl) hB350 (by simp) [.int .i64 1, .int .i64 ((bkt T1.seed T1.b.length k : Nat) : Int), .int .i64 (j : Int)] rfl ?_)
   intro w359 hB360 hF361 hsw359
   have hB_362 := hB_353.fr1 hF361 (by omega)
   have hRA_363 := hRA_354.fr1 hF361 (by omega)
   have hRB_364 := hRB_355.fr1 hF361 (by omega)
   have hK_365 := hK_356.fr hF361 (by simp)
   have hE_366 := hE_357.tr1 hF361 (by first | exact .inl (by assumption) | exact .inr (by omega) | exact .inl (.inl rfl))
   refine V.re h358 [] 1 0 [(6, .bool true)] fun a h367 => k25 _ _ ?_
   refine V.seq fun K368 k369 => ?_
   refine V.sr h367 [] 20 20 [(21, .bool false)] fun a h372 => ?_
   refine V.cf h372 ?_
   refine V.skip ?_
   refine V.then_n (k369 _ _ ?_)
   refine V.seq fun K373 k374 => ?_
   have hbq := hbl (bkt T1.seed T1.b.length k)
   refine V.pl [([0,1,2,3,4,5,6,7,8,9,10,11],none)] fun w375 hF376 hsw375 => ?_
   have hB_377 := hB_362.fr0 hF376
   have hRA_378 := hRA_363.fr0 hF376
   have hRB_379 := hRB_364.fr0 hF376
   have hK_380 := hK_365.fr0 hF376
   have hE_381 := hE_366.tr0 hF376
   have hB360_382 := hB360.fr0 hF376
   obtain ⟨A383, c384, hv385⟩ := hK_380.getB hlA (i := (bkt T1.seed T1.b.length k)) (by omega) nilS
   have hS386 := hK_380.slB hlA (i := (bkt T1.seed T1.b.length k)) (by omega) hv385
   refine V.pz h372 [(2, .b hB360_382 0), (3, .b hB_377 2), (1, .b hB360_382 1), (0, .ix gB 0 T1.b.length T1.b.length .i64 ((bkt T1.seed T1.b.length k : Nat) : Int) 1 rfl), (0, .l ⟨gB, 0 + ((bkt T1.seed T1.b.length k : Nat) : Int).toNat * 1, none⟩ (.slice A383 ((T1.b.getD (bkt T1.seed T1.b.length k) []).length) c384) ((hRB_379.at (bkt T1.seed T1.b.length k) nilS (by omega)).trans (congrArg some hv385)))] 22 32 [(7, .slice A383 ((T1.b.getD (bkt T1.seed T1.b.length k) []).length) c384)] fun a h387 => k374 _ _ ?_
   refine V.seq fun K388 k389 => ?_
   refine V.pl [([0,1,2,3,4,5,6,7,8,9,10,11,12,13,14],some (15,[2,6,8])),([16],some (17,[])),([],none)] fun w390 hF391 hsw390 => ?_
   have hB_392 := hB_377.fr0 hF391
   have hRA_393 := hRA_378.fr0 hF391
   have hRB_394 := hRB_379.fr0 hF391
   have hK_395 := hK_380.fr0 hF391
   have hE_396 := hE_381.tr0 hF391
   have hB360_397 := hB360_382.fr0 hF391
   refine V.pe h387 [(2, .b hB360_397 0), (3, .b hB_392 2), (1, .b hB360_397 1), (2, .b hB360_397 2), (1, .b hB360_397 2), (0, .i ((j : Int) + 1))] 33 46 [(34, .pointer (some ⟨b348, 0, none⟩)), (38, .pointer (some ⟨t, 2, none⟩)), (39, .slice (some ⟨gB, 0, none⟩) T1.b.length T1.b.length), (40, .pointer (some ⟨b348, 1, none⟩)), (41, .int .i64 ((bkt T1.seed T1.b.length k : Nat) : Int)), (42, .slice A383 ((T1.b.getD (bkt T1.seed T1.b.length k) []).length) c384), (44, .int .i64 (j : Int)), (47, .int .i64 ((j : Int) + 1))] fun a h399 => ?_
   obtain ⟨g400, hAe, hO401, hc402, ho403⟩ := hK_395.ownB hlA (i := (bkt T1.seed T1.b.length k)) (by omega) hv385 (by omega)
   rw [hAe] at hv385
   refine V.cl (av := #[.slice A383 ((T1.b.getD (bkt T1.seed T1.b.length k) []).length) c384, .int .i64 (j : Int), .int .i64 ((j : Int) + 1)]) h399 (Go.Proofs.enters_of Try.func68 (by kernel_rfl) rfl) (by (rw [hAe]; exact delete_any w390 g400 c384 j (T1.b.getD (bkt T1.seed T1.b.length k) []) hO401 (by omega) hc402 (by omega))) ?_
   rintro _ w407 ⟨rfl, hOr404, hF405⟩
   refine ⟨_, rfl, fun a h408 => ?_⟩
   have hsw407 := hF405.size
   have hB_409 := hB_392.fr hF405 (fun hm => (ho403 _ hm).1 (by simp))
   have hRA_410 := hRA_393.fr hF405 (fun hm => (ho403 _ hm).1 (by simp))
   have hRB_411 := hRB_394.fr hF405 (fun hm => (ho403 _ hm).1 (by simp))
   have hE_412 := hE_396.tr hF405 (fun k hk => ((ho403 k hk).2).imp (fun h => ⟨h, fun hm => (ho403 k hk).1 (by simp [hm])⟩) id)
   have hB360_413 := hB360_397.fr hF405 (fun hm => (ho403 _ hm).1 (by simp))
   have hK406 := hK_395.setB hlA (i := (bkt T1.seed T1.b.length k)) (by omega) hv385 hF405 hOr404 (.inr (by omega))
   refine V.eh ⟨(fun _ => held_blk (n := 1) (hx := (h399.e (v := (.pointer (some ⟨b348, 0, none⟩))))) hB360_397 hB360_413 (by kernel_rfl) rfl (by simp only [List.length]; omega)), (fun _ => held_blk (n := 1) (hx := (h399.e (v := (.pointer (some ⟨t, 2, none⟩))))) hB_392 hB_409 (by kernel_rfl) rfl (by simp only [List.length]; omega)), (fun _ => held_blk (n := 1) (hx := (h399.e (v := (.pointer (some ⟨b348, 1, none⟩))))) hB360_397 hB360_413 (by kernel_rfl) rfl (by simp only [List.length]; omega))⟩ ?_
   refine V.pe h408 [(0, .ix gB 0 T1.b.length T1.b.length .i64 ((bkt T1.seed T1.b.length k : Nat) : Int) 1 rfl)] 1 0 [(49, .pointer (some ⟨gB, 0 + ((bkt T1.seed T1.b.length k : Nat) : Int).toNat * 1, none⟩))] fun a h414 => ?_
   refine V.go (V.strow (enc := idV) gB (((bkt T1.seed T1.b.length k : Nat) : Int).toNat) (.slice (some ⟨g400, 0, none⟩) ((T1.b.getD (bkt T1.seed T1.b.length k) []).length - 1) c384) h414.e h414.e rfl rfl (by kernel_rfl) hRB_411 (by first | omega | (simp only [List.length_set, List.length_replicate]; omega)) ?_)
   intro w415 hR416 hF417 hsw415
   have hB_418 := hB_409.fr1 hF417 (by omega)
   have hRA_419 := hRA_410.fr1 hF417 (by omega)
   have hE_420 := hE_412.tr1 hF417 (by first | exact .inl (by assumption) | exact .inr (by omega) | exact .inl (.inl rfl))
   have hK406_422 := hK406.fr hF417 (by simp)
   refine V.eh trivial ?_
   refine V.pz h414 [] 1 0 [] fun a h423 => k389 _ _ ?_
   have h424 := h423.only [(0, .pointer (some ⟨t, 0, none⟩))]
   refine V.sg fun K425 k426 => ?_
   refine V.run h424 [(3, .b hB_418 4), (0, .i ((T1.n : Int) - 1))] 7 50 55 [(54, .int .i64 ((T1.n : Int) - 1)), (56, .pointer (some ⟨t, 4, none⟩))] fun a h430 => ?_
   refine V.go (V.stn t 4 (.int .i64 ((T1.n : Int) - 1)) [.int .i64 ((T1.n : Int) - 1)] h430.e h430.e rfl rfl (by kernel_rfl) hB_418 (by simp) [.int .u64 (T1.seed : Int), .slice (some ⟨gA, 0, none⟩) T1.a.length T1.a.length, .slice (some ⟨gB, 0, none⟩) T1.b.length T1.b.length, .int .i64 (T1.moved : Int), .int .i64 ((T1.n : Int) - 1)] rfl ?_)
   intro w427 hB428 hF429 hsw427
   have hRA_431 := hRA_419.fr1 hF429 (by omega)
   have hE_432 := hE_420.tr1 hF429 (by first | exact .inl (by assumption) | exact .inr (by omega) | exact .inl (.inl rfl))
   have hK406_434 := hK406_422.fr hF429 (by simp)
   have hR416_435 := hR416.fr1 hF429 (by omega)
   refine V.nt (k426 _ _ ?_)
   refine V.seq fun K436 k437 => ?_
   refine V.sr h430 [(4, .b hB428 1)] 57 62 [(8, .int .i64 ((T1.a.length : Nat) : Int))] fun a h440 => ?_
   refine V.sg fun K441 k442 => ?_
   refine V.run h440 [] 1 1 0 [(63, .pointer (some ⟨t, 0, none⟩))] fun a h443 => ?_
   refine V.cl h443 (Go.Proofs.enters_of Try.func65 (by kernel_rfl) rfl) (moves_M w427 t T1.seed T1.a.length T1.b.length 0 gA gB (.int .i64 (T1.moved : Int)) (.int .i64 ((T1.n : Int) - 1)) hB428) ?_
   rintro _ w445 ⟨rfl, hF444⟩
   refine ⟨_, rfl, fun a h446 => ?_⟩
   have hsw445 := hF444.size
   have hRA_447 := hRA_431.fr0 hF444
   have hE_448 := hE_432.tr0 hF444
   have hK406_450 := hK406_434.fr0 hF444
   have hR416_451 := hR416_435.fr0 hF444
   have hB428_452 := hB428.fr0 hF444
   refine V.re h446 [] 65 77 [(78, .bool false)] fun a h453 => k442 _ _ ?_
   refine V.cf h453 ?_
   refine V.skip ?_
   refine V.then_n (k437 _ _ ?_)
   refine V.sr h453 [] 1 0 [(4, .bool true)] fun a h456 => ?_
   refine V.ret ?_
   refine V.r1 h456 (.bool true) ?_
   have hst : delT T k = shrT (rm1T T1 k) := by (unfold delT; rw [← hT1]; unfold del1T; rw [hf, if_pos rfl])
   have hu2 : rm1T T1 k = ({ T1 with b := rmV T1.b (bkt T1.seed T1.b.length k) j, n := T1.n - 1 } : Tb Int) := by (unfold rm1T; rw [hf]; simp)
   have hup := (rm1T_ok hok1 hm1 k (by rw [hf])).1
   rw [hu2] at hup
   rw [hst, hu2]
   have hsh : shrT ({ T1 with b := rmV T1.b (bkt T1.seed T1.b.length k) j, n := T1.n - 1 } : Tb Int) = ({ T1 with b := rmV T1.b (bkt T1.seed T1.b.length k) j, n := T1.n - 1 } : Tb Int) := by (unfold shrT; rw [if_neg]; rintro ⟨h0, _⟩; exact hb1 (by first | exact h0 | (have h1 : (rmV T1.b (bkt T1.seed T1.b.length k) j).length = 0 := h0; rwa [rmV_length] at h1)))
   rw [hsh]
   exact ⟨by rw [hf], (TabM.fin (T := ({ T1 with b := rmV T1.b (bkt T1.seed T1.b.length k) j, n := T1.n - 1 } : Tb Int)) hup (fun h => hb1 (by have := congrArg List.length h; rwa [rmV_length] at this)) hB428_452 hRA_447 hR416_451 (by first | exact hlA | (simp only [List.length_set]; exact hlA)) hK406_450 (mem4 (l := (b348 :: t :: gA :: gB :: av)) (by simp) (by simp) (by simp) (by intro k hk; simp [hk])) (by first | assumption | omega) (by first | assumption | omega) (by first | assumption | omega) hpt ⟨.inl hpg.1, hpg.2⟩ ⟨.inl hph.1, hph.2⟩ rfl rfl rfl (by show ((T1.n : Int) - 1) = ((T1.n - 1 : Nat) : Int); omega) rfl rfl (rmV_length _ _ _).symm).gr3 (by omega), (hFPE.gr hE_448)⟩
theorem look_any (w : World) (H : Nat → Prop) (av : List Nat) (t : Nat) (T1 : Tb Int) (hT : TabX 67 87 86 itI w H av t T1) (k : ByteArray) (hkz : k.size ≤ 9223372036854775807) : Calls Try.prog 22 #[.pointer (some ⟨t, 0, none⟩), .string k] w (fun e w' => e = .returned (.tuple #[.int .i64 (lookT 0 T1 k).1, .bool (lookT 0 T1 k).2]) ∧ Fr [] w w') := by
 have hFP := FrP.refl (gp H av) w
 have hF := Fr.refl [] w
 refine V.en 38 Try.func22 fun a h1 => ?_
 refine V.sr h1 [] 4 5 [] fun a h4 => ?_
 refine V.sr h4 [] 1 0 [(6, .int .i64 0)] fun a h7 => ?_
 refine V.seq fun K8 k9 => ?_
 refine V.sg fun K10 k11 => ?_
 refine V.run h7 [] 1 1 0 [(9, .pointer (some ⟨t, 0, none⟩))] fun a h12 => ?_
 refine V.cl h12 (Go.Proofs.enters_of Try.func51 (by kernel_rfl) rfl) (made_any w (H) (av) t (T1) hT) ?_
 rintro _ w14 ⟨rfl, hF13⟩
 refine ⟨_, rfl, fun a h15 => ?_⟩
 have hsw14 := hF13.size
 have hT_16 := hT.fr0 hF13
 have hFP_17 := hFP.tr0 hF13
 have hF_18 := hF.new hF13
 refine V.re h15 [] 1 0 [(11, .bool false)] fun a h19 => k11 _ _ ?_
 refine V.cf h19 ?_
 refine V.skip ?_
 refine V.then_n (k9 _ _ ?_)
 refine V.sg fun K20 k21 => ?_
 refine V.run h19 [] 2 1 0 [(14, .pointer (some ⟨t, 0, none⟩)), (15, .string k)] fun a h22 => ?_
 have hok1 := hT_16.1
 rcases findT_cases hok1 k with hf | ⟨j, hf, hj⟩ | ⟨hbn, j, hf, hj⟩
 ·
  rcases hT_16.2 with ⟨hb0, gA, vsA, hN⟩ | ⟨hb0, gA, gB, vsA, vsB, hN⟩
  ·
   have hb1 : T1.b.length = 0 := by rw [hb0]; rfl
   obtain ⟨hB, hRA, hlA, hK, hne, hpt, hpg⟩ := hN
   replace hK := hK.toH
   have hltt := hB.lt
   have hltg := hRA.lt
   have hE : FrP (gp (H) av) w14 w14 := FrP.refl _ _
   have hK0 : ∀ k ∈ av, k < w14.heap.size := fun k hk => hK.avl k (by simp [hk])
   obtain ⟨hsd, hpa, hla, hlb, hmv, hmz, hnn, hcn, hks⟩ := (show T1.Ok from hok1)
   have hbl := hok1.bl
   have hFPE := hFP_17
   refine V.cl (av := #[.pointer (some ⟨t, 0, none⟩), .string k]) h22 (Go.Proofs.enters_of Try.func53 (by kernel_rfl) rfl) (by have h := find_any w14 (H) (av) t T1 hT_16 k hkz; rw [hf] at h; exact h) ?_
   rintro _ w24 ⟨rfl, hF23⟩
   refine ⟨_, rfl, fun a h25 => ?_⟩
   have hsw24 := hF23.size
   have hF_26 := hF_18.new hF23
   refine V.run h25 [] 3 13 13 [(17, .agg #[.int .i64 0, .int .i64 0, .int .i64 0]), (18, .bool false)] fun a h35 => ?_
   refine V.go (V.mk [] trivial (by kernel_rfl) [.int .i64 0, .int .i64 0, .int .i64 0] 82 (fun b => .pointer (some ⟨b, 0, none⟩)) (by kernel_rfl) ?_)
   intro w32 b31 heb31 hB33 hF34 hsb31
   have hF_36 := hF_26.new hF34
   refine V.pt h35 fun a h41 => ?_
   refine V.go (V.stn b31 0 (.agg #[.int .i64 0, .int .i64 0, .int .i64 0]) [.int .i64 0, .int .i64 0, .int .i64 0] h41.e h41.e rfl rfl (by kernel_rfl) hB33 (by simp) [.int .i64 0, .int .i64 0, .int .i64 0] rfl ?_)
   intro w42 hB43 hF44 hsw42
   have hF_45 := hF_36.own hF44 (by simp <;> omega)
   refine V.re h41 [] 1 0 [(8, .bool false)] fun a h50 => k21 _ _ ?_
   refine V.seq fun K51 k52 => ?_
   refine V.sr h50 [] 19 19 [(20, .bool true)] fun a h55 => ?_
   refine V.ct h55 ?_
   refine V.sr h55 [] 21 21 [(4, .int .i64 0), (5, .bool false)] fun a h58 => ?_
   refine V.ret (V.then_r ?_)
   refine V.r2 h58 (.int .i64 0) (.bool false) ?_
   refine ⟨?_, hF_45⟩
   unfold lookT; rw [hf]
   rfl
  ·
   have hb1 : T1.b.length ≠ 0 := fun h => hb0 (List.eq_nil_of_length_eq_zero h)
   obtain ⟨hB, hRA, hRB, hlA, hlB, hK, hne, hne2, hne3, hpt, hpg, hph⟩ := hN
   replace hK := hK.toH
   have hltt := hB.lt
   have hltg := hRA.lt
   have hltg2 := hRB.lt
   have hE : FrP (gp (H) av) w14 w14 := FrP.refl _ _
   have hK0 : ∀ k ∈ av, k < w14.heap.size := fun k hk => hK.avl k (by simp [hk])
   obtain ⟨hsd, hpa, hla, hlb, hmv, hmz, hnn, hcn, hks⟩ := (show T1.Ok from hok1)
   have hbl := hok1.bl
   have hFPE := hFP_17
   refine V.cl (av := #[.pointer (some ⟨t, 0, none⟩), .string k]) h22 (Go.Proofs.enters_of Try.func53 (by kernel_rfl) rfl) (by have h := find_any w14 (H) (av) t T1 hT_16 k hkz; rw [hf] at h; exact h) ?_
   rintro _ w60 ⟨rfl, hF59⟩
   refine ⟨_, rfl, fun a h61 => ?_⟩
   have hsw60 := hF59.size
   have hF_62 := hF_18.new hF59
   refine V.run h61 [] 3 13 13 [(17, .agg #[.int .i64 0, .int .i64 0, .int .i64 0]), (18, .bool false)] fun a h72 => ?_
   refine V.go (V.mk [] trivial (by kernel_rfl) [.int .i64 0, .int .i64 0, .int .i64 0] 82 (fun b => .pointer (some ⟨b, 0, none⟩)) (by kernel_rfl) ?_)
   intro w69 b68 heb68 hB70 hF71 hsb68
   have hF_73 := hF_62.new hF71
   refine V.pt h72 fun a h79 => ?_
   refine V.go (V.stn b68 0 (.agg #[.int .i64 0, .int .i64 0, .int .i64 0]) [.int .i64 0, .int .i64 0, .int .i64 0] h79.e h79.e rfl rfl (by kernel_rfl) hB70 (by simp) [.int .i64 0, .int .i64 0, .int .i64 0] rfl ?_)
   intro w80 hB81 hF82 hsw80
   have hF_83 := hF_73.own hF82 (by simp <;> omega)
   refine V.re h79 [] 1 0 [(8, .bool false)] fun a h89 => k21 _ _ ?_
   refine V.seq fun K90 k91 => ?_
   refine V.sr h89 [] 19 19 [(20, .bool true)] fun a h94 => ?_
   refine V.ct h94 ?_
   refine V.sr h94 [] 21 21 [(4, .int .i64 0), (5, .bool false)] fun a h97 => ?_
   refine V.ret (V.then_r ?_)
   refine V.r2 h97 (.int .i64 0) (.bool false) ?_
   refine ⟨?_, hF_83⟩
   unfold lookT; rw [hf]
   rfl
 ·
  rcases hT_16.2 with ⟨hb0, gA, vsA, hN⟩ | ⟨hb0, gA, gB, vsA, vsB, hN⟩
  ·
   have hb1 : T1.b.length = 0 := by rw [hb0]; rfl
   obtain ⟨hB, hRA, hlA, hK, hne, hpt, hpg⟩ := hN
   replace hK := hK.toH
   have hltt := hB.lt
   have hltg := hRA.lt
   have hE : FrP (gp (H) av) w14 w14 := FrP.refl _ _
   have hK0 : ∀ k ∈ av, k < w14.heap.size := fun k hk => hK.avl k (by simp [hk])
   obtain ⟨hsd, hpa, hla, hlb, hmv, hmz, hnn, hcn, hks⟩ := (show T1.Ok from hok1)
   have hbl := hok1.bl
   have hFPE := hFP_17
   refine V.cl (av := #[.pointer (some ⟨t, 0, none⟩), .string k]) h22 (Go.Proofs.enters_of Try.func53 (by kernel_rfl) rfl) (by have h := find_any w14 (H) (av) t T1 hT_16 k hkz; rw [hf] at h; exact h) ?_
   rintro _ w99 ⟨rfl, hF98⟩
   refine ⟨_, rfl, fun a h100 => ?_⟩
   have hsw99 := hF98.size
   have hF_101 := hF_18.new hF98
   have hB_102 := hB.fr0 hF98
   have hRA_103 := hRA.fr0 hF98
   have hK_104 := hK.fr0 hF98
   have hbkl := bkt_lt T1.seed k (n := T1.a.length) (by omega)
   refine V.run h100 [] 3 13 13 [(17, .agg #[.int .i64 0, .int .i64 ((bkt T1.seed T1.a.length k : Nat) : Int), .int .i64 (j : Int)]), (18, .bool true)] fun a h110 => ?_
   refine V.go (V.mk [] trivial (by kernel_rfl) [.int .i64 0, .int .i64 0, .int .i64 0] 82 (fun b => .pointer (some ⟨b, 0, none⟩)) (by kernel_rfl) ?_)
   intro w107 b106 heb106 hB108 hF109 hsb106
   have hF_111 := hF_101.new hF109
   have hB_112 := hB_102.fr0 hF109
   have hRA_113 := hRA_103.fr0 hF109
   have hK_114 := hK_104.alloc hF109 heb106 (by omega)
   refine V.pt h110 fun a h116 => ?_
   refine V.go (V.stn b106 0 (.agg #[.int .i64 0, .int .i64 ((bkt T1.seed T1.a.length k : Nat) : Int), .int .i64 (j : Int)]) [.int .i64 0, .int .i64 ((bkt T1.seed T1.a.length k : Nat) : Int), .int .i64 (j : Int)] h116.e h116.e rfl rfl (by kernel_rfl) hB108 (by simp) [.int .i64 0, .int .i64 ((bkt T1.seed T1.a.length k : Nat) : Int), .int .i64 (j : Int)] rfl ?_)
   intro w117 hB118 hF119 hsw117
   have hF_120 := hF_111.own hF119 (by simp <;> omega)
   have hB_121 := hB_112.fr1 hF119 (by omega)
   have hRA_122 := hRA_113.fr1 hF119 (by omega)
   have hK_123 := hK_114.fr hF119 (by simp)
   refine V.re h116 [] 1 0 [(8, .bool true)] fun a h125 => k21 _ _ ?_
   refine V.seq fun K126 k127 => ?_
   refine V.sr h125 [] 19 19 [(20, .bool false)] fun a h130 => ?_
   refine V.cf h130 ?_
   refine V.skip ?_
   refine V.then_n (k127 _ _ ?_)
   refine V.seq fun K131 k132 => ?_
   refine V.pl [([0,1,2,3,4,5,6,7,8,9,10,11,12,13,14,15,16,17],none)] fun w133 hF134 hsw133 => ?_
   have hF_135 := hF_120.new hF134
   have hB_136 := hB_121.fr0 hF134
   have hRA_137 := hRA_122.fr0 hF134
   have hK_138 := hK_123.fr0 hF134
   have hB118_140 := hB118.fr0 hF134
   obtain ⟨A141, c142, hv143⟩ := hK_138.getA hlA (i := (bkt T1.seed T1.a.length k)) (by omega) nilS
   have hS144 := hK_138.slA hlA (i := (bkt T1.seed T1.a.length k)) (by omega) hv143
   obtain ⟨g145, o146, hA147, hA147l, hA147z⟩ := hS144.addr (by omega)
   obtain ⟨cs148, hok149, hE150⟩ := hS144.els hA147 (j : Int) (by omega) (by omega)
   refine V.pz0 ?_
   refine V.run h130 [(2, .b hB118_140 0), (3, .b hB_136 1), (1, .b hB118_140 1), (0, .ix gA 0 T1.a.length T1.a.length .i64 ((bkt T1.seed T1.a.length k : Nat) : Int) 1 rfl), (0, .l ⟨gA, 0 + ((bkt T1.seed T1.a.length k : Nat) : Int).toNat * 1, none⟩ (.slice A141 ((T1.a.getD (bkt T1.seed T1.a.length k) []).length) c142) ((hRA_137.at (bkt T1.seed T1.a.length k) nilS (by omega)).trans (congrArg some hv143))), (1, .b hB118_140 2), (0, .ix g145 o146 ((T1.a.getD (bkt T1.seed T1.a.length k) []).length) c142 .i64 (j : Int) 2 hA147)] 15 23 35 [(22, .pointer (some ⟨t, 0, none⟩)), (36, .pointer (some ⟨g145, (o146 + (j : Int).toNat * 2) + 1, none⟩))] fun a h151 => ?_
   obtain rfl : cs148 = [.string (at_ itI (T1.a.getD (bkt T1.seed T1.a.length k) []) (j : Int)).1, .int .i64 (at_ itI (T1.a.getD (bkt T1.seed T1.a.length k) []) (j : Int)).2] := hok149
   refine V.se h151 [(0, .l ⟨g145, (o146 + (j : Int).toNat * 2) + 1, none⟩ (.int .i64 ((at_ itI (T1.a.getD (bkt T1.seed T1.a.length k) []) (j : Int)).2)) (hE150.at 1 rfl))] 37 37 [(4, .int .i64 ((at_ itI (T1.a.getD (bkt T1.seed T1.a.length k) []) (j : Int)).2)), (5, .bool true)] fun a h152 => k132 _ _ ?_
   refine V.ret ?_
   refine V.r2 h152 (.int .i64 ((at_ itI (T1.a.getD (bkt T1.seed T1.a.length k) []) (j : Int)).2)) (.bool true) ?_
   refine ⟨?_, hF_135⟩
   unfold lookT; rw [hf]
   rfl
  ·
   have hb1 : T1.b.length ≠ 0 := fun h => hb0 (List.eq_nil_of_length_eq_zero h)
   obtain ⟨hB, hRA, hRB, hlA, hlB, hK, hne, hne2, hne3, hpt, hpg, hph⟩ := hN
   replace hK := hK.toH
   have hltt := hB.lt
   have hltg := hRA.lt
   have hltg2 := hRB.lt
   have hE : FrP (gp (H) av) w14 w14 := FrP.refl _ _
   have hK0 : ∀ k ∈ av, k < w14.heap.size := fun k hk => hK.avl k (by simp [hk])
   obtain ⟨hsd, hpa, hla, hlb, hmv, hmz, hnn, hcn, hks⟩ := (show T1.Ok from hok1)
   have hbl := hok1.bl
   have hFPE := hFP_17
   refine V.cl (av := #[.pointer (some ⟨t, 0, none⟩), .string k]) h22 (Go.Proofs.enters_of Try.func53 (by kernel_rfl) rfl) (by have h := find_any w14 (H) (av) t T1 hT_16 k hkz; rw [hf] at h; exact h) ?_
   rintro _ w154 ⟨rfl, hF153⟩
   refine ⟨_, rfl, fun a h155 => ?_⟩
   have hsw154 := hF153.size
   have hF_156 := hF_18.new hF153
   have hB_157 := hB.fr0 hF153
   have hRA_158 := hRA.fr0 hF153
   have hK_160 := hK.fr0 hF153
   have hbkl := bkt_lt T1.seed k (n := T1.a.length) (by omega)
   refine V.run h155 [] 3 13 13 [(17, .agg #[.int .i64 0, .int .i64 ((bkt T1.seed T1.a.length k : Nat) : Int), .int .i64 (j : Int)]), (18, .bool true)] fun a h166 => ?_
   refine V.go (V.mk [] trivial (by kernel_rfl) [.int .i64 0, .int .i64 0, .int .i64 0] 82 (fun b => .pointer (some ⟨b, 0, none⟩)) (by kernel_rfl) ?_)
   intro w163 b162 heb162 hB164 hF165 hsb162
   have hF_167 := hF_156.new hF165
   have hB_168 := hB_157.fr0 hF165
   have hRA_169 := hRA_158.fr0 hF165
   have hK_171 := hK_160.alloc hF165 heb162 (by omega)
   refine V.pt h166 fun a h173 => ?_
   refine V.go (V.stn b162 0 (.agg #[.int .i64 0, .int .i64 ((bkt T1.seed T1.a.length k : Nat) : Int), .int .i64 (j : Int)]) [.int .i64 0, .int .i64 ((bkt T1.seed T1.a.length k : Nat) : Int), .int .i64 (j : Int)] h173.e h173.e rfl rfl (by kernel_rfl) hB164 (by simp) [.int .i64 0, .int .i64 ((bkt T1.seed T1.a.length k : Nat) : Int), .int .i64 (j : Int)] rfl ?_)
   intro w174 hB175 hF176 hsw174
   have hF_177 := hF_167.own hF176 (by simp <;> omega)
   have hB_178 := hB_168.fr1 hF176 (by omega)
   have hRA_179 := hRA_169.fr1 hF176 (by omega)
   have hK_181 := hK_171.fr hF176 (by simp)
   refine V.re h173 [] 1 0 [(8, .bool true)] fun a h183 => k21 _ _ ?_
   refine V.seq fun K184 k185 => ?_
   refine V.sr h183 [] 19 19 [(20, .bool false)] fun a h188 => ?_
   refine V.cf h188 ?_
   refine V.skip ?_
   refine V.then_n (k185 _ _ ?_)
   refine V.seq fun K189 k190 => ?_
   refine V.pl [([0,1,2,3,4,5,6,7,8,9,10,11,12,13,14,15,16,17],none)] fun w191 hF192 hsw191 => ?_
   have hF_193 := hF_177.new hF192
   have hB_194 := hB_178.fr0 hF192
   have hRA_195 := hRA_179.fr0 hF192
   have hK_197 := hK_181.fr0 hF192
   have hB175_199 := hB175.fr0 hF192
   obtain ⟨A200, c201, hv202⟩ := hK_197.getA hlA (i := (bkt T1.seed T1.a.length k)) (by omega) nilS
   have hS203 := hK_197.slA hlA (i := (bkt T1.seed T1.a.length k)) (by omega) hv202
   obtain ⟨g204, o205, hA206, hA206l, hA206z⟩ := hS203.addr (by omega)
   obtain ⟨cs207, hok208, hE209⟩ := hS203.els hA206 (j : Int) (by omega) (by omega)
   refine V.pz0 ?_
   refine V.run h188 [(2, .b hB175_199 0), (3, .b hB_194 1), (1, .b hB175_199 1), (0, .ix gA 0 T1.a.length T1.a.length .i64 ((bkt T1.seed T1.a.length k : Nat) : Int) 1 rfl), (0, .l ⟨gA, 0 + ((bkt T1.seed T1.a.length k : Nat) : Int).toNat * 1, none⟩ (.slice A200 ((T1.a.getD (bkt T1.seed T1.a.length k) []).length) c201) ((hRA_195.at (bkt T1.seed T1.a.length k) nilS (by omega)).trans (congrArg some hv202))), (1, .b hB175_199 2), (0, .ix g204 o205 ((T1.a.getD (bkt T1.seed T1.a.length k) []).length) c201 .i64 (j : Int) 2 hA206)] 15 23 35 [(22, .pointer (some ⟨t, 0, none⟩)), (36, .pointer (some ⟨g204, (o205 + (j : Int).toNat * 2) + 1, none⟩))] fun a h210 => ?_
   obtain rfl : cs207 = [.string (at_ itI (T1.a.getD (bkt T1.seed T1.a.length k) []) (j : Int)).1, .int .i64 (at_ itI (T1.a.getD (bkt T1.seed T1.a.length k) []) (j : Int)).2] := hok208
   refine V.se h210 [(0, .l ⟨g204, (o205 + (j : Int).toNat * 2) + 1, none⟩ (.int .i64 ((at_ itI (T1.a.getD (bkt T1.seed T1.a.length k) []) (j : Int)).2)) (hE209.at 1 rfl))] 37 37 [(4, .int .i64 ((at_ itI (T1.a.getD (bkt T1.seed T1.a.length k) []) (j : Int)).2)), (5, .bool true)] fun a h211 => k190 _ _ ?_
   refine V.ret ?_
   refine V.r2 h211 (.int .i64 ((at_ itI (T1.a.getD (bkt T1.seed T1.a.length k) []) (j : Int)).2)) (.bool true) ?_
   refine ⟨?_, hF_193⟩
   unfold lookT; rw [hf]
   rfl
 ·
  rcases hT_16.2 with ⟨hb0, gA, vsA, hN⟩ | ⟨hb0, gA, gB, vsA, vsB, hN⟩
  ·
   exact absurd (by rw [hb0]; rfl) hbn
  ·
   have hb1 : T1.b.length ≠ 0 := fun h => hb0 (List.eq_nil_of_length_eq_zero h)
   obtain ⟨hB, hRA, hRB, hlA, hlB, hK, hne, hne2, hne3, hpt, hpg, hph⟩ := hN
   replace hK := hK.toH
   have hltt := hB.lt
   have hltg := hRA.lt
   have hltg2 := hRB.lt
   have hE : FrP (gp (H) av) w14 w14 := FrP.refl _ _
   have hK0 : ∀ k ∈ av, k < w14.heap.size := fun k hk => hK.avl k (by simp [hk])
   obtain ⟨hsd, hpa, hla, hlb, hmv, hmz, hnn, hcn, hks⟩ := (show T1.Ok from hok1)
   have hbl := hok1.bl
   have hFPE := hFP_17
   refine V.cl (av := #[.pointer (some ⟨t, 0, none⟩), .string k]) h22 (Go.Proofs.enters_of Try.func53 (by kernel_rfl) rfl) (by have h := find_any w14 (H) (av) t T1 hT_16 k hkz; rw [hf] at h; exact h) ?_
   rintro _ w213 ⟨rfl, hF212⟩
   refine ⟨_, rfl, fun a h214 => ?_⟩
   have hsw213 := hF212.size
   have hF_215 := hF_18.new hF212
   have hB_216 := hB.fr0 hF212
   have hRB_218 := hRB.fr0 hF212
   have hK_219 := hK.fr0 hF212
   have hbkl := bkt_lt T1.seed k (n := T1.b.length) (by omega)
   refine V.run h214 [] 3 13 13 [(17, .agg #[.int .i64 1, .int .i64 ((bkt T1.seed T1.b.length k : Nat) : Int), .int .i64 (j : Int)]), (18, .bool true)] fun a h225 => ?_
   refine V.go (V.mk [] trivial (by kernel_rfl) [.int .i64 0, .int .i64 0, .int .i64 0] 82 (fun b => .pointer (some ⟨b, 0, none⟩)) (by kernel_rfl) ?_)
   intro w222 b221 heb221 hB223 hF224 hsb221
   have hF_226 := hF_215.new hF224
   have hB_227 := hB_216.fr0 hF224
   have hRB_229 := hRB_218.fr0 hF224
   have hK_230 := hK_219.alloc hF224 heb221 (by omega)
   refine V.pt h225 fun a h232 => ?_
   refine V.go (V.stn b221 0 (.agg #[.int .i64 1, .int .i64 ((bkt T1.seed T1.b.length k : Nat) : Int), .int .i64 (j : Int)]) [.int .i64 1, .int .i64 ((bkt T1.seed T1.b.length k : Nat) : Int), .int .i64 (j : Int)] h232.e h232.e rfl rfl (by kernel_rfl) hB223 (by simp) [.int .i64 1, .int .i64 ((bkt T1.seed T1.b.length k : Nat) : Int), .int .i64 (j : Int)] rfl ?_)
   intro w233 hB234 hF235 hsw233
   have hF_236 := hF_226.own hF235 (by simp <;> omega)
   have hB_237 := hB_227.fr1 hF235 (by omega)
   have hRB_239 := hRB_229.fr1 hF235 (by omega)
   have hK_240 := hK_230.fr hF235 (by simp)
   refine V.re h232 [] 1 0 [(8, .bool true)] fun a h242 => k21 _ _ ?_
   refine V.seq fun K243 k244 => ?_
   refine V.sr h242 [] 19 19 [(20, .bool false)] fun a h247 => ?_
   refine V.cf h247 ?_
   refine V.skip ?_
   refine V.then_n (k244 _ _ ?_)
   refine V.seq fun K248 k249 => ?_
   refine V.pl [([0,1,2,3,4,5,6,7,8,9,10,11,12,13,14,15,16,17],none)] fun w250 hF251 hsw250 => ?_
   have hF_252 := hF_236.new hF251
   have hB_253 := hB_237.fr0 hF251
   have hRB_255 := hRB_239.fr0 hF251
   have hK_256 := hK_240.fr0 hF251
   have hB234_258 := hB234.fr0 hF251
   obtain ⟨A259, c260, hv261⟩ := hK_256.getB hlA (i := (bkt T1.seed T1.b.length k)) (by omega) nilS
   have hS262 := hK_256.slB hlA (i := (bkt T1.seed T1.b.length k)) (by omega) hv261
   obtain ⟨g263, o264, hA265, hA265l, hA265z⟩ := hS262.addr (by omega)
   obtain ⟨cs266, hok267, hE268⟩ := hS262.els hA265 (j : Int) (by omega) (by omega)
   refine V.pz0 ?_
   refine V.run h247 [(2, .b hB234_258 0), (3, .b hB_253 2), (1, .b hB234_258 1), (0, .ix gB 0 T1.b.length T1.b.length .i64 ((bkt T1.seed T1.b.length k : Nat) : Int) 1 rfl), (0, .l ⟨gB, 0 + ((bkt T1.seed T1.b.length k : Nat) : Int).toNat * 1, none⟩ (.slice A259 ((T1.b.getD (bkt T1.seed T1.b.length k) []).length) c260) ((hRB_255.at (bkt T1.seed T1.b.length k) nilS (by omega)).trans (congrArg some hv261))), (1, .b hB234_258 2), (0, .ix g263 o264 ((T1.b.getD (bkt T1.seed T1.b.length k) []).length) c260 .i64 (j : Int) 2 hA265)] 15 23 35 [(22, .pointer (some ⟨t, 0, none⟩)), (36, .pointer (some ⟨g263, (o264 + (j : Int).toNat * 2) + 1, none⟩))] fun a h269 => ?_
   obtain rfl : cs266 = [.string (at_ itI (T1.b.getD (bkt T1.seed T1.b.length k) []) (j : Int)).1, .int .i64 (at_ itI (T1.b.getD (bkt T1.seed T1.b.length k) []) (j : Int)).2] := hok267
   refine V.se h269 [(0, .l ⟨g263, (o264 + (j : Int).toNat * 2) + 1, none⟩ (.int .i64 ((at_ itI (T1.b.getD (bkt T1.seed T1.b.length k) []) (j : Int)).2)) (hE268.at 1 rfl))] 37 37 [(4, .int .i64 ((at_ itI (T1.b.getD (bkt T1.seed T1.b.length k) []) (j : Int)).2)), (5, .bool true)] fun a h270 => k249 _ _ ?_
   refine V.ret ?_
   refine V.r2 h270 (.int .i64 ((at_ itI (T1.b.getD (bkt T1.seed T1.b.length k) []) (j : Int)).2)) (.bool true) ?_
   refine ⟨?_, hF_252⟩
   unfold lookT; rw [hf]
   rfl
theorem get_any (w : World) (H : Nat → Prop) (av : List Nat) (t : Nat) (T : Tb Int) (hT : TabX 67 87 86 itI w H av t T) (hm : T.Mv) (k : ByteArray) (hkz : k.size ≤ 9223372036854775807) : Calls Try.prog 36 #[.pointer (some ⟨t, 0, none⟩), .string k] w (fun e w' => e = .returned (.tuple #[.int .i64 (lookT 0 (tbStep T) k).1, .bool (lookT 0 (tbStep T) k).2]) ∧ TabX 67 87 86 itI w' (gr H w w') av t (tbStep T) ∧ FrP (gp H av) w w') := by
 have hFP := FrP.refl (gp H av) w
 obtain ⟨hok0, hm1⟩ := tbStep_ok hT.1 hm
 obtain ⟨T1, hT1⟩ : ∃ T1, T1 = tbStep T := ⟨_, rfl⟩
 rw [← hT1] at hok0 hm1 ⊢
 refine V.en 15 Try.func36 fun a h1 => ?_
 refine V.sr h1 [] 4 5 [] fun a h4 => ?_
 refine V.seq fun K5 k6 => ?_
 refine V.sg fun K7 k8 => ?_
 refine V.run h4 [] 1 1 0 [(6, .pointer (some ⟨t, 0, none⟩))] fun a h9 => ?_
 refine V.cl h9 (Go.Proofs.enters_of Try.func51 (by kernel_rfl) rfl) (made_any w (H) (av) t (T) hT) ?_
 rintro _ w11 ⟨rfl, hF10⟩
 refine ⟨_, rfl, fun a h12 => ?_⟩
 have hsw11 := hF10.size
 have hT_13 := hT.fr0 hF10
 have hFP_14 := hFP.tr0 hF10
 refine V.nt (k8 _ _ ?_)
 refine V.ct h12 ?_
 refine V.rg ?_
 refine V.run h12 [] 1 1 0 [(8, .pointer (some ⟨t, 0, none⟩))] fun a h15 => ?_
 refine V.cl h15 (Go.Proofs.enters_of Try.func64 (by kernel_rfl) rfl) (step_any w11 (H) (av) t (T) hT_13 hm) ?_
 rintro _ w18 ⟨rfl, hT16, hfp17⟩
 refine ⟨_, rfl, fun a h19 => ?_⟩
 have hsw18 := hfp17.size
 have hFP_20 := hFP_14.trP hfp17 (fun k hk => .inl hk)
 have hT16q := hT16.grm (w := w) (by omega)
 rw [← hT1] at hT16q
 refine V.nt (k6 _ _ ?_)
 refine V.sg fun K21 k22 => ?_
 refine V.run h19 [] 2 1 0 [(10, .pointer (some ⟨t, 0, none⟩)), (11, .string k)] fun a h23 => ?_
 refine V.cl h23 (Go.Proofs.enters_of Try.func22 (by kernel_rfl) rfl) (look_any w18 (gr H w w18) (av) t (T1) hT16q k (by first | exact hkz | decide | omega)) ?_
 rintro _ w25 ⟨rfl, hF24⟩
 refine ⟨_, rfl, fun a h26 => ?_⟩
 have hsw25 := hF24.size
 have hFP_27 := hFP_20.tr0 hF24
 have hT16q_28 := hT16q.fr0 hF24
 refine V.re h26 [] 13 14 [(4, .int .i64 ((lookT 0 (T1) k).1)), (5, .bool ((lookT 0 (T1) k).2))] fun a h29 => k22 _ _ ?_
 refine V.ret ?_
 refine V.r2 h29 (.int .i64 ((lookT 0 (T1) k).1)) (.bool ((lookT 0 (T1) k).2)) ?_
 exact ⟨rfl, hT16q_28.grl (by omega), hFP_27⟩
theorem stepx_any (w : World) (H : Nat → Prop) (av : List Nat) (t : Nat) (T : Tb Int) (hT : TabX 67 87 86 itI w H av t T) (hm : T.Mv) : Calls Try.prog 40 #[.pointer (some ⟨t, 0, none⟩)] w (fun e w' => e = .returned (.bool (decide ((tbStep T).b.length ≠ 0))) ∧ TabX 67 87 86 itI w' (gr H w w') av t (tbStep T) ∧ FrP (gp H av) w w') := by
 have hFP := FrP.refl (gp H av) w
 obtain ⟨hok0, hm1⟩ := tbStep_ok hT.1 hm
 obtain ⟨T1, hT1⟩ : ∃ T1, T1 = tbStep T := ⟨_, rfl⟩
 rw [← hT1] at hok0 hm1 ⊢
 refine V.en 10 Try.func40 fun a h1 => ?_
 refine V.sr h1 [] 2 2 [] fun a h4 => ?_
 refine V.seq fun K5 k6 => ?_
 refine V.sg fun K7 k8 => ?_
 refine V.run h4 [] 1 1 0 [(3, .pointer (some ⟨t, 0, none⟩))] fun a h9 => ?_
 refine V.cl h9 (Go.Proofs.enters_of Try.func51 (by kernel_rfl) rfl) (made_any w (H) (av) t (T) hT) ?_
 rintro _ w11 ⟨rfl, hF10⟩
 refine ⟨_, rfl, fun a h12 => ?_⟩
 have hsw11 := hF10.size
 have hT_13 := hT.fr0 hF10
 have hFP_14 := hFP.tr0 hF10
 refine V.re h12 [] 1 0 [(5, .bool false)] fun a h15 => k8 _ _ ?_
 refine V.cf h15 ?_
 refine V.skip ?_
 refine V.then_n (k6 _ _ ?_)
 refine V.sg fun K16 k17 => ?_
 refine V.run h15 [] 1 1 0 [(6, .pointer (some ⟨t, 0, none⟩))] fun a h18 => ?_
 refine V.cl h18 (Go.Proofs.enters_of Try.func64 (by kernel_rfl) rfl) (step_any w11 (H) (av) t (T) hT_13 hm) ?_
 rintro _ w21 ⟨rfl, hT19, hfp20⟩
 refine ⟨_, rfl, fun a h22 => ?_⟩
 have hsw21 := hfp20.size
 have hFP_23 := hFP_14.trP hfp20 (fun k hk => .inl hk)
 have hT19q := hT19.grm (w := w) (by omega)
 rw [← hT1] at hT19q
 refine V.nt (k17 _ _ ?_)
 refine V.sg fun K24 k25 => ?_
 refine V.run h22 [] 1 1 0 [(8, .pointer (some ⟨t, 0, none⟩))] fun a h26 => ?_
 refine V.cl h26 (Go.Proofs.enters_of Try.func65 (by kernel_rfl) rfl) (moves_any w21 (gr H w w21) (av) t (T1) hT19q) ?_
 rintro _ w28 ⟨rfl, hF27⟩
 refine ⟨_, rfl, fun a h29 => ?_⟩
 have hsw28 := hF27.size
 have hFP_30 := hFP_23.tr0 hF27
 have hT19q_31 := hT19q.fr0 hF27
 refine V.re h29 [] 1 0 [(2, .bool (decide ((T1).b.length ≠ 0)))] fun a h32 => k25 _ _ ?_
 refine V.ret ?_
 refine V.r1 h32 (.bool (decide ((T1).b.length ≠ 0))) ?_
 exact ⟨rfl, hT19q_31.grl (by omega), hFP_30⟩
theorem sizes_N (w : World) (t : Nat) (seed n0 n1 c1 gA gB : Nat) (m1 m2 : Value) (hB : Blk w t [.int .u64 (seed : Int), .slice (some ⟨gA, 0, none⟩) n0 n0, .slice none 0 0, m1, m2] 67) : Calls Try.prog 17 #[.pointer (some ⟨t, 0, none⟩)] w (fun e w' => e = .returned (.tuple #[.int .i64 ((n0 : Nat) : Int), .int .i64 0, m1]) ∧ Fr [] w w') := by
 have hF := Fr.refl [] w
 refine V.en 24 Try.func17 fun a h1 => ?_
 refine V.sr h1 [] 2 4 [] fun a h4 => ?_
 refine V.seq fun K5 k6 => ?_
 refine V.sg fun K7 k8 => ?_
 refine V.run h4 [] 1 1 0 [(5, .pointer (some ⟨t, 0, none⟩))] fun a h9 => ?_
 refine V.cl h9 (Go.Proofs.enters_of Try.func51 (by kernel_rfl) rfl) (made_N w t seed n0 0 0 gA 0 m1 m2 hB) ?_
 rintro _ w11 ⟨rfl, hF10⟩
 refine ⟨_, rfl, fun a h12 => ?_⟩
 have hsw11 := hF10.size
 have hF_13 := hF.new hF10
 have hB_14 := hB.fr0 hF10
 refine V.re h12 [] 1 0 [(7, .bool false)] fun a h15 => k8 _ _ ?_
 refine V.cf h15 ?_
 refine V.skip ?_
 refine V.then_n (k6 _ _ ?_)
 refine V.seq fun K16 k17 => ?_
 refine V.pl [([0,1,2,3,4,5,6,7,8,9,10,11,12,13,14,15,16,17,18],none)] fun w18 hF19 hsw18 => ?_
 have hF_20 := hF_13.new hF19
 have hB_21 := hB_14.fr0 hF19
 refine V.pz h15 [(4, .b hB_21 1), (5, .b hB_21 2), (4, .b hB_21 3)] 8 23 [(2, .int .i64 ((n0 : Nat) : Int)), (3, .int .i64 0), (4, m1)] fun a h22 => k17 _ _ ?_
 refine V.ret ?_
 refine V.r3 h22 (.int .i64 ((n0 : Nat) : Int)) (.int .i64 0) (m1) ?_
 exact ⟨rfl, hF_20⟩
theorem sizes_M (w : World) (t : Nat) (seed n0 n1 c1 gA gB : Nat) (m1 m2 : Value) (hB : Blk w t [.int .u64 (seed : Int), .slice (some ⟨gA, 0, none⟩) n0 n0, .slice (some ⟨gB, 0, none⟩) n1 n1, m1, m2] 67) : Calls Try.prog 17 #[.pointer (some ⟨t, 0, none⟩)] w (fun e w' => e = .returned (.tuple #[.int .i64 ((n0 : Nat) : Int), .int .i64 ((n1 : Nat) : Int), m1]) ∧ Fr [] w w') := by
 have hF := Fr.refl [] w
 refine V.en 24 Try.func17 fun a h1 => ?_
 refine V.sr h1 [] 2 4 [] fun a h4 => ?_
 refine V.seq fun K5 k6 => ?_
 refine V.sg fun K7 k8 => ?_
 refine V.run h4 [] 1 1 0 [(5, .pointer (some ⟨t, 0, none⟩))] fun a h9 => ?_
 refine V.cl h9 (Go.Proofs.enters_of Try.func51 (by kernel_rfl) rfl) (made_M w t seed n0 n1 0 gA gB m1 m2 hB) ?_
 rintro _ w11 ⟨rfl, hF10⟩
 refine ⟨_, rfl, fun a h12 => ?_⟩
 have hsw11 := hF10.size
 have hF_13 := hF.new hF10
 have hB_14 := hB.fr0 hF10
 refine V.re h12 [] 1 0 [(7, .bool false)] fun a h15 => k8 _ _ ?_
 refine V.cf h15 ?_
 refine V.skip ?_
 refine V.then_n (k6 _ _ ?_)
 refine V.seq fun K16 k17 => ?_
 refine V.pl [([0,1,2,3,4,5,6,7,8,9,10,11,12,13,14,15,16,17,18],none)] fun w18 hF19 hsw18 => ?_
 have hF_20 := hF_13.new hF19
 have hB_21 := hB_14.fr0 hF19
 refine V.pz h15 [(4, .b hB_21 1), (5, .b hB_21 2), (4, .b hB_21 3)] 8 23 [(2, .int .i64 ((n0 : Nat) : Int)), (3, .int .i64 ((n1 : Nat) : Int)), (4, m1)] fun a h22 => k17 _ _ ?_
 refine V.ret ?_
 refine V.r3 h22 (.int .i64 ((n0 : Nat) : Int)) (.int .i64 ((n1 : Nat) : Int)) (m1) ?_
 exact ⟨rfl, hF_20⟩
theorem len_blk (w : World) (t : Nat) (seed n0 c0 : Nat) (A0 : Option Addr) (v1 m1 m2 : Value) (hB : Blk w t [.int .u64 (seed : Int), .slice A0 n0 c0, v1, m1, m2] 67) : Calls Try.prog 18 #[.pointer (some ⟨t, 0, none⟩)] w (fun e w' => e = .returned m2 ∧ Fr [] w w') := by
 have hF := Fr.refl [] w
 refine V.en 9 Try.func18 fun a h1 => ?_
 refine V.sr h1 [] 2 2 [] fun a h4 => ?_
 refine V.seq fun K5 k6 => ?_
 refine V.sr h4 [] 3 3 [(4, .bool false)] fun a h9 => ?_
 refine V.cf h9 ?_
 refine V.skip ?_
 refine V.then_n (k6 _ _ ?_)
 refine V.sr h9 [(3, .b hB 4)] 5 8 [(2, m2)] fun a h12 => ?_
 refine V.ret ?_
 refine V.r1 h12 (m2) ?_
 exact ⟨rfl, hF⟩
theorem new_any (w : World) (av : List Nat) (hav : ∀ k ∈ av, k < w.heap.size) (seed : Nat) (hsd : seed < 18446744073709551616) : Calls Try.prog 14 #[.int .u64 (seed : Int)] w (fun e w' => ∃ t, e = .returned (.pointer (some ⟨t, 0, none⟩)) ∧ TabX 67 87 86 itI w' (gr (fun _ => False) w w') av t (newT seed) ∧ Fr [] w w') := by
 have hF := Fr.refl [] w
 refine V.en 13 Try.func14 fun a h1 => ?_
 refine V.sr h1 [] 2 2 [] fun a h4 => ?_
 refine V.sg fun K5 k6 => ?_
 refine V.run h4 [] 2 4 4 [(5, .agg #[.int .u64 (seed : Int), .slice none 0 0, .slice none 0 0, .int .i64 0, .int .i64 0])] fun a h7 => ?_
 refine V.go (V.mk [(5, .agg #[.int .u64 (seed : Int), .slice none 0 0, .slice none 0 0, .int .i64 0, .int .i64 0])] ⟨h7.e, trivial⟩ (by kernel_rfl) [.int .u64 (seed : Int), .slice none 0 0, .slice none 0 0, .int .i64 0, .int .i64 0] 67 (fun b => .pointer (some ⟨b, 0, none⟩)) (by kernel_rfl) ?_)
 intro w9 b8 heb8 hB10 hF11 hsb8
 have hF_12 := hF.new hF11
 refine V.pt h7 fun a h13 => ?_
 refine V.re h13 [] 1 0 [(3, .pointer (some ⟨b8, 0, none⟩))] fun a h14 => k6 _ _ ?_
 refine V.seq fun K15 k16 => ?_
 refine V.pl [([0,2,3],some (1,[])),([4],some (5,[])),([],none)] fun w17 hF18 hsw17 => ?_
 have hF_19 := hF_12.new hF18
 have hB10_20 := hB10.fr0 hF18
 refine V.pe h14 [] 7 9 [(10, .pointer (some ⟨b8, 1, none⟩))] fun a h21 => ?_
 refine V.go (V.mks (enc := idV) (4) (.slice none 0 0) nilS 24 (evc.trans (V.int_eq (by omega))) (evc.trans (V.int_eq (by omega))) (by kernel_rfl) info87 rfl rfl (by omega) (by omega) ?_)
 intro w23 b22 heb22 hR24 hF25
 have hsb22 := hR24.lt
 have hF_26 := hF_19.new hF25
 have hB10_27 := hB10_20.fr0 hF25
 refine V.pt h21 fun a h28 => ?_
 refine V.eh trivial ?_
 refine V.pe h28 [] 1 0 [(11, .pointer (some ⟨b8, 1, none⟩))] fun a h29 => ?_
 refine V.go (V.stn b8 1 (.slice (some ⟨b22, 0, none⟩) 4 4) [.slice (some ⟨b22, 0, none⟩) 4 4] h29.e h29.e rfl rfl (by kernel_rfl) hB10_27 (by simp) [.int .u64 (seed : Int), .slice (some ⟨b22, 0, none⟩) 4 4, .slice none 0 0, .int .i64 0, .int .i64 0] rfl ?_)
 intro w30 hB31 hF32 hsw30
 have hF_33 := hF_26.own hF32 (by simp <;> omega)
 have hR24_34 := hR24.fr1 hF32 (by omega)
 refine V.eh trivial ?_
 refine V.pz h29 [] 1 0 [] fun a h35 => k16 _ _ ?_
 refine V.sr h35 [] 12 12 [(2, .pointer (some ⟨b8, 0, none⟩))] fun a h38 => ?_
 refine V.ret ?_
 refine V.r1 h38 (.pointer (some ⟨b8, 0, none⟩)) ?_
 exact ⟨b8, rfl, newT_tab hB31 hR24_34 (by omega) (by omega) (by omega) hsd hav, hF_33⟩
theorem sizes_any (w : World) (H : Nat → Prop) (av : List Nat) (t : Nat) (T : Tb Int) (hT : TabX 67 87 86 itI w H av t T) :
    Calls Try.prog 17 #[.pointer (some ⟨t, 0, none⟩)] w (fun e w' => e = .returned (.tuple #[.int .i64 (T.a.length : Int), .int .i64 (T.b.length : Int), .int .i64 (T.moved : Int)]) ∧ Fr [] w w') := by
  rcases hT.2 with ⟨hb, gA, vsA, h⟩ | ⟨hb, gA, gB, vsA, vsB, h⟩
  · rw [hb]; exact sizes_N w t T.seed T.a.length 0 0 gA 0 _ _ h.blk
  · exact sizes_M w t T.seed T.a.length T.b.length 0 gA gB _ _ h.blk
theorem len_any (w : World) (H : Nat → Prop) (av : List Nat) (t : Nat) (T : Tb Int) (hT : TabX 67 87 86 itI w H av t T) :
    Calls Try.prog 18 #[.pointer (some ⟨t, 0, none⟩)] w (fun e w' => e = .returned (.int .i64 (T.n : Int)) ∧ Fr [] w w') := by
  rcases hT.2 with ⟨hb, gA, vsA, h⟩ | ⟨hb, gA, gB, vsA, vsB, h⟩
  · exact len_blk w t T.seed T.a.length T.a.length _ _ _ _ h.blk
  · exact len_blk w t T.seed T.a.length T.a.length _ _ _ _ h.blk
def al0 : Tb Int := newT 7
def al1 : Tb Int := putT al0 ⟨#[97]⟩ 0
def al2 : Tb Int := putT al1 ⟨#[98]⟩ 1
def al3 : Tb Int := putT al2 ⟨#[99]⟩ 2
def al4 : Tb Int := putT al3 ⟨#[100]⟩ 3
def al5 : Tb Int := putT al4 ⟨#[101]⟩ 4
def al6 : Tb Int := delT al5 ⟨#[97]⟩
theorem aln0 : al0.n < 1099511627776 := by decide +kernel
theorem aln1 : al1.n < 1099511627776 := by decide +kernel
theorem aln2 : al2.n < 1099511627776 := by decide +kernel
theorem aln3 : al3.n < 1099511627776 := by decide +kernel
theorem aln4 : al4.n < 1099511627776 := by decide +kernel
theorem alm0 : al0.Ok ∧ al0.Mv := newT_ok (by decide)
theorem alm1 : al1.Ok ∧ al1.Mv := putT_ok alm0.1 alm0.2 aln0 _ (by decide) _
theorem alm2 : al2.Ok ∧ al2.Mv := putT_ok alm1.1 alm1.2 aln1 _ (by decide) _
theorem alm3 : al3.Ok ∧ al3.Mv := putT_ok alm2.1 alm2.2 aln2 _ (by decide) _
theorem alm4 : al4.Ok ∧ al4.Mv := putT_ok alm3.1 alm3.2 aln3 _ (by decide) _
theorem alm5 : al5.Ok ∧ al5.Mv := putT_ok alm4.1 alm4.2 aln4 _ (by decide) _
theorem al5_a : al5.a.length = 4 := by decide +kernel
theorem al5_b : al5.b.length = 8 := by decide +kernel
theorem al5_m : al5.moved = 0 := by decide +kernel
theorem al5_l : lookT 0 al5 ⟨#[99]⟩ = (2, true) := by decide +kernel
theorem al5_n : al5.n = 5 := by decide +kernel
theorem al6_n : al6.n = 4 := by decide +kernel
theorem alive_any (w : World)  : Calls Try.prog 13 #[] w (fun e w' => e = .returned (.bool true) ∧ Fr [] w w') := by
 have hF := Fr.refl [] w
 refine V.en 66 Try.func13 fun a h1 => ?_
 refine V.sr h1 [] 0 0 [] fun a h4 => ?_
 refine V.sg fun K5 k6 => ?_
 refine V.cl h4 (Go.Proofs.enters_of Try.func14 (by kernel_rfl) rfl) (new_any w [] (by simp) 7 (by omega)) ?_
 rintro _ w10 ⟨t7, rfl, hT8, hF9⟩
 refine ⟨_, rfl, fun a h11 => ?_⟩
 have hsw10 := hF9.size
 have hF_12 := hF.new hF9
 refine V.re h11 [] 1 0 [(1, .pointer (some ⟨t7, 0, none⟩))] fun a h13 => k6 _ _ ?_
 refine V.seq fun K14 k15 => ?_
 refine V.sr h13 [] 10 10 [(11, .bool false)] fun a h18 => ?_
 refine V.cf h18 ?_
 refine V.skip ?_
 refine V.then_n (k15 _ _ ?_)
 refine V.seq fun K19 k20 => ?_
 refine V.sg fun K21 k22 => ?_
 refine V.go (V.mk [] trivial (by kernel_rfl) [.string ⟨#[97]⟩, .string ⟨#[98]⟩, .string ⟨#[99]⟩, .string ⟨#[100]⟩, .string ⟨#[101]⟩] 9 (fun b => .slice (some ⟨b, 0, none⟩) 5 5) (by kernel_rfl) ?_)
 intro w24 b23 heb23 hB25 hF26 hsb23
 have hF_27 := hF_12.new hF26
 have hT8_28 := hT8.alloc hF26 heb23 (by omega)
 refine V.pt h18 fun a h29 => ?_
 refine V.re h29 [] 1 0 [(13, .int .i64 5), (14, .int .i64 0)] fun a h30 => k22 _ _ ?_
 refine V.block ?_
 refine V.loopR 6 ?_
 refine V.rnd ?_
 refine V.sr h30 [] 1 0 [(15, .bool true)] fun a h33 => ?_
 refine V.seq fun K34 k35 => ?_
 refine V.ct h33 ?_
 refine V.skip ?_
 refine V.then_n (k35 _ _ ?_)
 refine V.seq fun K36 k37 => ?_
 refine V.block ?_
 refine V.sr h33 [(1, .ix b23 0 5 5 .i64 0 1 rfl), (0, .b hB25 0)] 16 18 [(2, .int .i64 0), (3, .string ⟨#[97]⟩)] fun a h40 => ?_
 refine V.rg ?_
 refine V.run h40 [] 3 1 0 [(19, .pointer (some ⟨t7, 0, none⟩)), (20, .string ⟨#[97]⟩), (21, .int .i64 0)] fun a h41 => ?_
 refine V.cl h41 (Go.Proofs.enters_of Try.func38 (by kernel_rfl) rfl) (put_any w24 (gr (fun _ => False) w w10) (b23 :: []) t7 al0 hT8_28 alm0.2 ⟨#[97]⟩ (by decide) 0 (by omega) aln0) ?_
 rintro _ w44 ⟨rfl, hT42, hfp43⟩
 refine ⟨_, rfl, fun a h45 => ?_⟩
 have hsw44 := hfp43.size
 have hF_46 := hF_27.trP hfp43 (fun k hk => .inr (hk.1.elim (fun q => q.elim) (fun q => by have := q.1; omega)))
 have hB25_47 := hB25.frP hfp43 (by exact fun hp => hp.2 (by simp))
 have hT42q : TabX 67 87 86 itI w44 (gr (fun _ => False) w w44) (b23 :: []) t7 al1 := hT42.gr4 (by omega)
 refine V.nil ?_
 refine V.blk_n ?_
 refine V.then_n (k37 _ _ ?_)
 refine V.rr h45 [] 23 23 [(14, .int .i64 1)] fun a h48 => ?_
 refine V.then_n ?_
 refine V.rnd ?_
 refine V.sr h48 [] 1 0 [(15, .bool true)] fun a h51 => ?_
 refine V.seq fun K52 k53 => ?_
 refine V.ct h51 ?_
 refine V.skip ?_
 refine V.then_n (k53 _ _ ?_)
 refine V.seq fun K54 k55 => ?_
 refine V.block ?_
 refine V.sr h51 [(1, .ix b23 0 5 5 .i64 1 1 rfl), (0, .b hB25_47 1)] 16 18 [(2, .int .i64 1), (3, .string ⟨#[98]⟩)] fun a h58 => ?_
 refine V.rg ?_
 refine V.run h58 [] 3 1 0 [(19, .pointer (some ⟨t7, 0, none⟩)), (20, .string ⟨#[98]⟩), (21, .int .i64 1)] fun a h59 => ?_
 refine V.cl h59 (Go.Proofs.enters_of Try.func38 (by kernel_rfl) rfl) (put_any w44 (gr (fun _ => False) w w44) (b23 :: []) t7 al1 hT42q alm1.2 ⟨#[98]⟩ (by decide) 1 (by omega) aln1) ?_
 rintro _ w62 ⟨rfl, hT60, hfp61⟩
 refine ⟨_, rfl, fun a h63 => ?_⟩
 have hsw62 := hfp61.size
 have hF_64 := hF_46.trP hfp61 (fun k hk => .inr (hk.1.elim (fun q => q.elim) (fun q => by have := q.1; omega)))
 have hB25_65 := hB25_47.frP hfp61 (by exact fun hp => hp.2 (by simp))
 have hT60q : TabX 67 87 86 itI w62 (gr (fun _ => False) w w62) (b23 :: []) t7 al2 := hT60.gr4 (by omega)
 refine V.nil ?_
 refine V.blk_n ?_
 refine V.then_n (k55 _ _ ?_)
 refine V.rr h63 [] 23 23 [(14, .int .i64 2)] fun a h66 => ?_
 refine V.then_n ?_
 refine V.rnd ?_
 have h67 := h66.only [(1, .pointer (some ⟨t7, 0, none⟩)), (12, .slice (some ⟨b23, 0, none⟩) 5 5), (13, .int .i64 5), (14, .int .i64 2)]
 refine V.sr h67 [] 1 0 [(15, .bool true)] fun a h70 => ?_
 refine V.seq fun K71 k72 => ?_
 refine V.ct h70 ?_
 refine V.skip ?_
 refine V.then_n (k72 _ _ ?_)
 refine V.seq fun K73 k74 => ?_
 refine V.block ?_
 refine V.sr h70 [(1, .ix b23 0 5 5 .i64 2 1 rfl), (0, .b hB25_65 2)] 16 18 [(2, .int .i64 2), (3, .string ⟨#[99]⟩)] fun a h77 => ?_
 refine V.rg ?_
 refine V.run h77 [] 3 1 0 [(19, .pointer (some ⟨t7, 0, none⟩)), (20, .string ⟨#[99]⟩), (21, .int .i64 2)] fun a h78 => ?_
 refine V.cl h78 (Go.Proofs.enters_of Try.func38 (by kernel_rfl) rfl) (put_any w62 (gr (fun _ => False) w w62) (b23 :: []) t7 al2 hT60q alm2.2 ⟨#[99]⟩ (by decide) 2 (by omega) aln2) ?_
 rintro _ w81 ⟨rfl, hT79, hfp80⟩
 refine ⟨_, rfl, fun a h82 => ?_⟩
 have hsw81 := hfp80.size
 have hF_83 := hF_64.trP hfp80 (fun k hk => .inr (hk.1.elim (fun q => q.elim) (fun q => by have := q.1; omega)))
 have hB25_84 := hB25_65.frP hfp80 (by exact fun hp => hp.2 (by simp))
 have hT79q : TabX 67 87 86 itI w81 (gr (fun _ => False) w w81) (b23 :: []) t7 al3 := hT79.gr4 (by omega)
 refine V.nil ?_
 refine V.blk_n ?_
 refine V.then_n (k74 _ _ ?_)
 refine V.rr h82 [] 23 23 [(14, .int .i64 3)] fun a h85 => ?_
 refine V.then_n ?_
 refine V.rnd ?_
 refine V.sr h85 [] 1 0 [(15, .bool true)] fun a h88 => ?_
 refine V.seq fun K89 k90 => ?_
 refine V.ct h88 ?_
 refine V.skip ?_
 refine V.then_n (k90 _ _ ?_)
 refine V.seq fun K91 k92 => ?_
 refine V.block ?_
 refine V.sr h88 [(1, .ix b23 0 5 5 .i64 3 1 rfl), (0, .b hB25_84 3)] 16 18 [(2, .int .i64 3), (3, .string ⟨#[100]⟩)] fun a h95 => ?_
 refine V.rg ?_
 refine V.run h95 [] 3 1 0 [(19, .pointer (some ⟨t7, 0, none⟩)), (20, .string ⟨#[100]⟩), (21, .int .i64 3)] fun a h96 => ?_
 refine V.cl h96 (Go.Proofs.enters_of Try.func38 (by kernel_rfl) rfl) (put_any w81 (gr (fun _ => False) w w81) (b23 :: []) t7 al3 hT79q alm3.2 ⟨#[100]⟩ (by decide) 3 (by omega) aln3) ?_
 rintro _ w99 ⟨rfl, hT97, hfp98⟩
 refine ⟨_, rfl, fun a h100 => ?_⟩
 have hsw99 := hfp98.size
 have hF_101 := hF_83.trP hfp98 (fun k hk => .inr (hk.1.elim (fun q => q.elim) (fun q => by have := q.1; omega)))
 have hB25_102 := hB25_84.frP hfp98 (by exact fun hp => hp.2 (by simp))
 have hT97q : TabX 67 87 86 itI w99 (gr (fun _ => False) w w99) (b23 :: []) t7 al4 := hT97.gr4 (by omega)
 refine V.nil ?_
 refine V.blk_n ?_
 refine V.then_n (k92 _ _ ?_)
 refine V.rr h100 [] 23 23 [(14, .int .i64 4)] fun a h103 => ?_
 refine V.then_n ?_
 refine V.rnd ?_
 refine V.sr h103 [] 1 0 [(15, .bool true)] fun a h106 => ?_
 refine V.seq fun K107 k108 => ?_
 refine V.ct h106 ?_
 refine V.skip ?_
 refine V.then_n (k108 _ _ ?_)
 refine V.seq fun K109 k110 => ?_
 refine V.block ?_
 refine V.sr h106 [(1, .ix b23 0 5 5 .i64 4 1 rfl), (0, .b hB25_102 4)] 16 18 [(2, .int .i64 4), (3, .string ⟨#[101]⟩)] fun a h113 => ?_
 refine V.rg ?_
 refine V.run h113 [] 3 1 0 [(19, .pointer (some ⟨t7, 0, none⟩)), (20, .string ⟨#[101]⟩), (21, .int .i64 4)] fun a h114 => ?_
 refine V.cl h114 (Go.Proofs.enters_of Try.func38 (by kernel_rfl) rfl) (put_any w99 (gr (fun _ => False) w w99) (b23 :: []) t7 al4 hT97q alm4.2 ⟨#[101]⟩ (by decide) 4 (by omega) aln4) ?_
 rintro _ w117 ⟨rfl, hT115, hfp116⟩
 refine ⟨_, rfl, fun a h118 => ?_⟩
 have hsw117 := hfp116.size
 have hF_119 := hF_101.trP hfp116 (fun k hk => .inr (hk.1.elim (fun q => q.elim) (fun q => by have := q.1; omega)))
 have hT115q : TabX 67 87 86 itI w117 (gr (fun _ => False) w w117) (b23 :: []) t7 al5 := hT115.gr4 (by omega)
 refine V.nil ?_
 refine V.blk_n ?_
 refine V.then_n (k110 _ _ ?_)
 refine V.rr h118 [] 23 23 [(14, .int .i64 5)] fun a h121 => ?_
 refine V.then_n ?_
 refine V.rnd ?_
 have h122 := h121.only [(1, .pointer (some ⟨t7, 0, none⟩)), (12, .slice (some ⟨b23, 0, none⟩) 5 5), (13, .int .i64 5), (14, .int .i64 5)]
 refine V.sr h122 [] 1 0 [(15, .bool false)] fun a h125 => ?_
 refine V.seq fun K126 k127 => ?_
 refine V.cf h125 ?_
 refine V.exit (V.then_e (V.then_e (V.blk_hit ?_)))
 refine V.then_n (k20 _ _ ?_)
 refine V.sg fun K128 k129 => ?_
 refine V.run h125 [] 1 1 0 [(25, .pointer (some ⟨t7, 0, none⟩))] fun a h130 => ?_
 refine V.cl (av := #[.pointer (some ⟨t7, 0, none⟩)]) h130 (Go.Proofs.enters_of Try.func17 (by kernel_rfl) rfl) (by (have h := sizes_any w117 (gr (fun _ => False) w w117) (b23 :: []) t7 al5 hT115q; rw [al5_a, al5_b, al5_m] at h; exact h)) ?_
 rintro _ w132 ⟨rfl, hF131⟩
 refine ⟨_, rfl, fun a h133 => ?_⟩
 have hsw132 := hF131.size
 have hF_134 := hF_119.new hF131
 have hT115q_136 := hT115q.fr0 hF131
 refine V.re h133 [] 24 29 [(4, .int .i64 4), (5, .int .i64 8), (6, .int .i64 0)] fun a h137 => k129 _ _ ?_
 refine V.sg fun K138 k139 => ?_
 refine V.run h137 [] 1 1 0 [(31, .pointer (some ⟨t7, 0, none⟩))] fun a h140 => ?_
 refine V.cl (av := #[.pointer (some ⟨t7, 0, none⟩), .string ⟨#[99]⟩]) h140 (Go.Proofs.enters_of Try.func22 (by kernel_rfl) rfl) (by (have h := look_any w132 (gr (fun _ => False) w w117) (b23 :: []) t7 al5 hT115q_136 ⟨#[99]⟩ (by decide); rw [al5_l] at h; exact h)) ?_
 rintro _ w142 ⟨rfl, hF141⟩
 refine ⟨_, rfl, fun a h143 => ?_⟩
 have hsw142 := hF141.size
 have hF_144 := hF_134.new hF141
 have hT115q_146 := hT115q_136.fr0 hF141
 refine V.re h143 [] 30 34 [(7, .int .i64 2), (8, .bool true)] fun a h147 => k139 _ _ ?_
 refine V.sg fun K148 k149 => ?_
 refine V.run h147 [] 1 1 0 [(35, .pointer (some ⟨t7, 0, none⟩))] fun a h150 => ?_
 refine V.cl (av := #[.pointer (some ⟨t7, 0, none⟩)]) h150 (Go.Proofs.enters_of Try.func18 (by kernel_rfl) rfl) (by (have h := len_any w142 (gr (fun _ => False) w w117) (b23 :: []) t7 al5 hT115q_146; rw [al5_n] at h; exact h)) ?_
 rintro _ w152 ⟨rfl, hF151⟩
 refine ⟨_, rfl, fun a h153 => ?_⟩
 have hsw152 := hF151.size
 have hF_154 := hF_144.new hF151
 have hT115q_156 := hT115q_146.fr0 hF151
 refine V.run h153 [] 22 37 56 [(57, .bool true), (58, .pointer (some ⟨t7, 0, none⟩))] fun a h157 => ?_
 refine V.clg h157 (Go.Proofs.enters_of Try.func39 (by kernel_rfl) rfl) (del_any w152 (gr (fun _ => False) w w117) (b23 :: []) t7 al5 hT115q_156 alm5.2 ⟨#[97]⟩ (by decide)) ?_
 rintro _ w160 ⟨rfl, hT158, hfp159⟩
 refine ⟨_, rfl, fun a h161 => ?_⟩
 have hsw160 := hfp159.size
 have hF_162 := hF_154.trP hfp159 (fun k hk => .inr (hk.1.elim (fun q => q.elim) (fun q => by have := q.1; omega)))
 have hT158q : TabX 67 87 86 itI w160 (gr (fun _ => False) w w160) (b23 :: []) t7 al6 := hT158.gr4 (by omega)
 refine V.run h161 [] 3 60 60 [(61, .bool true), (62, .pointer (some ⟨t7, 0, none⟩))] fun a h164 => ?_
 refine V.clg (av := #[.pointer (some ⟨t7, 0, none⟩)]) h164 (Go.Proofs.enters_of Try.func18 (by kernel_rfl) rfl) (by (have h := len_any w160 (gr (fun _ => False) w w160) (b23 :: []) t7 al6 hT158q; rw [al6_n] at h; exact h)) ?_
 rintro _ w166 ⟨rfl, hF165⟩
 refine ⟨_, rfl, fun a h167 => ?_⟩
 have hsw166 := hF165.size
 have hF_168 := hF_162.new hF165
 refine V.re h167 [] 64 65 [(0, .bool true)] fun a h171 => k149 _ _ ?_
 have h172 := h171.only [(0, .bool true)]
 refine V.ret ?_
 refine V.r1 h172 (.bool true) ?_
 exact ⟨rfl, hF_168⟩
end Go.Proofs.Ytalhmegjomfbaaa
end
section
namespace Go.V
open Go.Base Go.RowKit
set_option linter.unusedVariables false
set_option linter.unusedSimpArgs false
section
variable {α : Type} {R : Rp α} {Z : Nat → Prop} {w : World} {xs ys : List α} {g o n c : Nat}
/-- The first ones of a slice. -/
theorem SlR.takeN (h : SlR R Z w (.slice (some ⟨g, o, none⟩) n c) xs) {i : Nat} (hi : i ≤ xs.length) : SlR R Z w (.slice (some ⟨g, o, none⟩) i c) (xs.take i) := by
  obtain ⟨A', c', e, h1, h2, h3⟩ := h
  injection e with e1 e2 e3
  subst e1; subst e3
  refine ⟨_, c, by rw [List.length_take, Nat.min_eq_left hi], by rw [List.length_take]; omega, by rw [List.length_take]; omega, fun j x hj => ?_⟩
  rw [List.getElem?_take] at hj
  split at hj
  · exact h3 j x hj
  · cases hj
/-- .. the last ones. -/
theorem SlR.dropN (h : SlR R Z w (.slice (some ⟨g, o, none⟩) n c) xs) {i : Nat} (hi : i ≤ xs.length) {ad : Addr} (had : c - i ≠ 0 → ad = ⟨g, o + i * R.sz, none⟩) {m : Nat} (hm : m = xs.length - i) : SlR R Z w (.slice (some ad) m (c - i)) (xs.drop i) := by
  subst hm
  obtain ⟨A', c', e, h1, h2, h3⟩ := h
  injection e with e1 e2 e3
  subst e1; subst e3
  refine ⟨_, c - i, by rw [List.length_drop], by rw [List.length_drop]; omega, by rw [List.length_drop]; omega, fun j x hj => ?_⟩
  rw [List.getElem?_drop] at hj
  have hlt := (List.getElem?_eq_some_iff.1 hj).1
  obtain ⟨g', o', cs, hA, hz, hg, hok, hc⟩ := h3 (i + j) x hj
  injection hA with hA
  injection hA with e4 e5
  subst e4; subst e5
  refine ⟨g, o + i * R.sz, cs, by rw [had (by omega)], hz, hg, hok, fun q u hq => ?_⟩
  have := hc q u hq
  rwa [Nat.add_mul, ← Nat.add_assoc o] at this
/-- The cells of a slice that is read. -/
theorem SlR.cells {Z' : Nat → Prop} (hz : ∀ x cs, R.ok Z w x cs → R.ok Z' w x cs) : ∀ {ys : List α} {o n c : Nat}, SlR R Z w (.slice (some ⟨g, o, none⟩) n c) ys → ∃ news, Cells R Z' w ys news ∧ ∀ j u, news[j]? = some u → w.cell? ⟨g, o + j, none⟩ = some u
  | [], o, n, c, _ => ⟨[], rfl, fun j u h => by simp at h⟩
  | y :: ys, o, n, c, h => by
    have hd := h.dropN (i := 1) (by simp) (ad := ⟨g, o + 1 * R.sz, none⟩) (fun _ => rfl) (m := ys.length) (by simp)
    simp only [List.drop_succ_cons, List.drop_zero] at hd
    obtain ⟨A', c', e, h1, h2, h3⟩ := h
    injection e with e1 e2 e3
    subst e1
    obtain ⟨g', o', cs, hA, _, hg, hok, hc⟩ := h3 0 y (by simp)
    injection hA with hA
    injection hA with e4 e5
    subst e4; subst e5
    obtain ⟨r, hr, hrc⟩ := SlR.cells hz hd
    refine ⟨cs ++ r, ⟨cs, r, rfl, hz _ _ hok, hr⟩, fun j u hj => ?_⟩
    have hl := R.len hok
    rcases Nat.lt_or_ge j cs.length with hjl | hjl
    · rw [List.getElem?_append_left hjl] at hj
      have := hc j u hj
      rwa [Nat.zero_mul, Nat.add_zero] at this
    · rw [List.getElem?_append_right hjl] at hj
      have := hrc _ u hj
      rwa [Nat.one_mul, show o + R.sz + (j - cs.length) = o + j by omega] at this
end
section
variable {α : Type} {R : Rp α} {Z : Nat → Prop} {w : World} {xs ys : List α} {base : Nat} {e : TypeId} {v : Value} {A : Option Addr} {m c : Nat}
variable {ro : Option Nat} {P : Program} {Q : Exit → Act → World → Prop} {a : Act} {ops : Array Oper} {rest : List Oper} {d : Option Tmp} {ty : TypeId} {pos : String} {aft : Array Edge} {gd : Option (Nat × Bool)}
theorem app0 {t : TypeId} {s x : Operand} {n0 c0 : Nat} {A0 : Option Addr} (hs : a.eval s = .slice A0 n0 c0) (hx : a.eval x = .slice A 0 c) (ht : P.underlying t = some (.slice e)) (hinfo : (P.info? e).map (·.size) = some R.sz) (hle : n0 ≤ c0)
    (k : L ro P ops Q rest (a.put d (.slice A0 n0 c0)) w) : St ro P ops Q rest ⟨d, .call ⟨.builtin .append, #[s, x], #[t, t]⟩, ty, pos, aft, gd⟩ a w := by
  obtain ⟨i, hi, hsz⟩ := Option.map_eq_some_iff.1 hinfo
  refine St.val (v := .slice A0 n0 c0) (w' := w) ?_ k
  simp only [execOp, resolve, invoke, builtin, Sem.run_bind, Sem.run_pure, Result.andThen_ok, List.map_toArray, List.map_cons, List.map_nil, hs, hx]
  cases A <;> cases A0 <;> simp [Builtin.append_, Builtin.lenOf, Builtin.firstCells, loadCells, loadCellsFrom, storeCells, sizeOf, typeInfo, run_underlying ht, hi, Sem.run_bind, hle]
theorem appS {t : TypeId} {s x : Operand} {z : Value} {bytes : Nat} (hs : a.eval s = v) (hx : a.eval x = .slice A m c) (ht : P.underlying t = some (.slice e))
    (hinfo : (P.info? e).map (fun i => (i.zero, i.size, i.bytes)) = some (some z, R.sz, bytes)) (hzs : z.cells.size = R.sz) (hsz : 0 < R.sz) (hown : OwR R NoZ w base e v xs) (hS : SlR R Z w (.slice A m c) ys) (hz : ∀ x cs, R.ok Z w x cs → R.ok NoZ w x cs)
    (hbytes : (xs.length + ys.length) * bytes ≤ 140737488355328) (hb0 : 0 < bytes) (hbase : base ≤ w.heap.size)
    (k : ∀ A' c' w1, OwR R NoZ w1 base e (.slice A' (xs.length + ys.length) c') (xs ++ ys) → Fr (v.ownBlock.toList) w w1 → L ro P ops Q rest (a.put d (.slice A' (xs.length + ys.length) c')) w1) : St ro P ops Q rest ⟨d, .call ⟨.builtin .append, #[s, x], #[t, t]⟩, ty, pos, aft, gd⟩ a w := by
  obtain rfl : m = ys.length := by obtain ⟨A', c', e, _⟩ := hS; injection e with e1 e2 e3
  cases ys with
  | nil =>
    obtain ⟨i, hi, hzz⟩ := Option.map_eq_some_iff.1 hinfo
    simp only [Prod.mk.injEq] at hzz
    have hown' := hown
    obtain ⟨A0, c0, rfl⟩ := hown.slice
    have hle : xs.length ≤ c0 := by
      obtain ⟨cs, h1, _⟩ := hown'
      rcases h1.2 with ⟨he, h⟩ | ⟨g, cap, cur, he, _, _, hnc, _⟩
      · injection he; omega
      · injection he with e1 e2 e3; omega
    refine app0 (R := R) hs hx ht (by rw [hi]; exact congrArg some hzz.2.1) hle ?_
    have := k A0 c0 w
    rw [List.append_nil] at this
    exact this hown (Fr.refl _ _)
  | cons y ys =>
    obtain ⟨g, o, rfl, _, _⟩ := hS.addr (by simp)
    obtain ⟨news, h1, h2⟩ := hS.cells hz
    refine app hs ⟨g, o, none⟩ _ c hx ht hinfo hzs hsz hown rfl h1 (fun j u hj => ?_) hbytes hb0 hbase fun A' c' w1 ho hf _ => k A' c' w1 (ho.zone (fun _ _ q => q.1) (fun _ _ q => q)) hf
    rw [show (⟨g, o, none⟩ : Addr).add j = ⟨g, o + j, none⟩ by unfold Addr.add; split <;> simp_all]
    exact h2 j u hj
/-- An empty row. -/
theorem OwR.empty {g : Nat} (hB : Blk w g [] e) (hg : base ≤ g) : OwR R NoZ w base e (.slice (some ⟨g, 0, none⟩) 0 0) [] :=
  ⟨[], ⟨by simp, .inr ⟨g, 0, #[], rfl, hg, hB, Nat.le_refl _, Nat.zero_le _, by simp, by simp⟩⟩, rfl, fun b hb hz => hz⟩
theorem OwR.rebase {base' : Nat} (h : OwR R NoZ w base e v xs) (hb : base' ≤ base) : OwR R NoZ w base' e v xs := by
  obtain ⟨cs, h1, h2, h3⟩ := h
  refine ⟨cs, ⟨h1.1, ?_⟩, h2, h3⟩
  rcases h1.2 with h | ⟨g, cap, cur, he, hg, hr⟩
  · exact .inl h
  · exact .inr ⟨g, cap, cur, he, Nat.le_trans hb hg, hr⟩
end
section
variable {α : Type} {R : Rp α} {w w1 : World} {e : TypeId} {H : Nat → Prop} {av : List Nat} {vs vsA vsB : List Value} {xs xa xb : List (List α)} {i n c : Nat} {d v' : Value}
/-- A slice made anew in the place of one. -/
theorem Bks.updN (h : Bks R w e H av vs xs) (hi : i < xs.length) {v : Value} {x' : List α} (hv : vs[i]? = some v) (f : Fr [] w w1) (ho : OwR R NoZ w1 w.heap.size e v' x') (hH : ∀ k, w.heap.size ≤ k → H k) : Bks R w1 e H av (vs.set i v') (xs.set i x') := by
  have hil : i < vs.length := by rw [h.len]; exact hi
  have h0 := h.fr0 f
  have hnew : ∀ k, v'.ownBlock = some k → w.heap.size ≤ k := fun k hk => (ho.lt k hk).1
  have hset : ∀ (j : Nat) (u : Value), (vs.set i v')[j]? = some u → (j = i ∧ u = v') ∨ (j ≠ i ∧ vs[j]? = some u) := fun j u hu => by
    by_cases hj : j = i
    · subst hj; rw [List.getElem?_set_self hil] at hu; injection hu with hu; exact .inl ⟨rfl, hu.symm⟩
    · rw [List.getElem?_set_ne (fun e => hj e.symm)] at hu; exact .inr ⟨hj, hu⟩
  refine ⟨by simp [h.len], fun j u hu => ?_, fun j j' u u' k hu hu' hk hk' => ?_, fun j u k hu hk => ?_, h0.avl⟩
  · rcases hset j u hu with ⟨rfl, rfl⟩ | ⟨hj, hu⟩
    · rw [getD_set_self hi]; exact ho.rebase (Nat.zero_le _)
    · rw [Go.V.getD_set_ne (fun e => hj e.symm)]; exact h0.own j u hu
  · rcases hset j u hu with ⟨rfl, rfl⟩ | ⟨hj, hu1⟩ <;> rcases hset j' u' hu' with ⟨rfl, rfl⟩ | ⟨hj', hu2⟩
    · rfl
    · have := h.lt hu2 hk'; have := hnew k hk; omega
    · have := h.lt hu1 hk; have := hnew k hk'; omega
    · exact h.nd j j' u u' k hu1 hu2 hk hk'
  · rcases hset j u hu with ⟨rfl, rfl⟩ | ⟨hj, hu⟩
    · exact ⟨fun hm => by have := h.avl _ hm; have := hnew k hk; omega, hH k (hnew k hk)⟩
    · exact h.hom j u k hu hk
theorem Bks.newA (h : Bks R w e H av (vsA ++ vsB) (xa ++ xb)) (hl : vsA.length = xa.length) (hi : i < xa.length) (f : Fr [] w w1) {x' : List α} (ho : OwR R NoZ w1 w.heap.size e v' x') (hH : ∀ k, w.heap.size ≤ k → H k) : Bks R w1 e H av (vsA.set i v' ++ vsB) (xa.set i x' ++ xb) := by
  have := h.updN (i := i) (by simp; omega) (h.atA hl hi (d := nilS) rfl) f ho hH
  rwa [List.set_append_left _ _ (by omega), List.set_append_left _ _ hi] at this
theorem Bks.newB (h : Bks R w e H av (vsA ++ vsB) (xa ++ xb)) (hl : vsA.length = xa.length) (hi : i < xb.length) (f : Fr [] w w1) {x' : List α} (ho : OwR R NoZ w1 w.heap.size e v' x') (hH : ∀ k, w.heap.size ≤ k → H k) : Bks R w1 e H av (vsA ++ vsB.set i v') (xa ++ xb.set i x') := by
  have := h.updN (i := xa.length + i) (by simp; omega) (h.atB hl hi (d := nilS) rfl) f ho hH
  rwa [show xa.length + i = vsA.length + i by omega, List.set_append_right _ _ (by omega), Nat.add_sub_cancel_left, hl, List.set_append_right _ _ (by omega), Nat.add_sub_cancel_left] at this
end
end Go.V
end
section
namespace Go.V
open Go.Plan (wpL)
open Go.RowKit Go.Base
set_option linter.unusedVariables false
set_option linter.unusedSimpArgs false
section
variable {P : Program} {ro : Option Nat} {Q : Exit → Act → World → Prop} {a : Act} {w : World} {ops : Array Oper} {rest : List Oper} {d : Option Tmp} {ty : TypeId} {pos : String} {aft : Array Edge} {g : Option (Nat × Bool)}
/-- append(nothing, make(n)...). -/
theorem appZ {α : Type} {R : Rp α} {t tn e : TypeId} {s x : Operand} {z : Value} {bytes n : Nat} {k kn : IntKind} (hs : a.eval s = .slice none 0 0) (hx : a.eval x = .int k (n : Int)) (ht : P.underlying t = some (.slice e)) (htn : P.underlying tn = some (.int kn))
    (hinfo : (P.info? e).map (fun i => (i.zero, i.size, i.bytes)) = some (some z, R.sz, bytes)) (hzs : z.cells.size = R.sz) (hsz : 0 < R.sz) (h0 : 0 < n) (hb0 : 0 < bytes) (hb : n * bytes ≤ 140737488355328)
    (kk : ∀ g' c w1, OwR R NoZ w1 w.heap.size e (.slice (some ⟨g', 0, none⟩) 0 c) [] → Fr [] w w1 → L ro P ops Q rest (a.put d (.slice (some ⟨g', 0, none⟩) n c)) w1) : St ro P ops Q rest ⟨d, .call ⟨.builtin .append, #[s, x], #[t, tn]⟩, ty, pos, aft, g⟩ a w := by
  obtain ⟨i, hi, hzz⟩ := Option.map_eq_some_iff.1 hinfo
  simp only [Prod.mk.injEq] at hzz
  obtain ⟨hz0, hz1, hz2⟩ := hzz
  have hle : n ≤ 140737488355328 := Nat.le_trans (Nat.le_mul_of_pos_right _ hb0) hb
  have hr := Lib.run_append_nil_zeros (P := P) w t tn ty e i z k kn ht htn hi hz0 n h0 (by omega) (by omega) (by rw [hz2]; omega)
  have hcap := grownCap_ge w n 0 e
  have hmax := grownCap_le_maxLen w n 0 e (by unfold maxLen; omega)
  generalize grownCap w n 0 e = c at hr hcap hmax
  generalize hZ : Builtin.zeroCells z.cells n ++ Builtin.zeroCells z.cells (c - n) = Z at hr
  have hZs : Z.size = c * R.sz := by
    rw [← hZ]; simp only [Array.size_append, size_zeroCells, hzs]; rw [← Nat.add_mul]; congr 1; omega
  have hrun : (execOp a.eval ⟨d, .call ⟨.builtin .append, #[s, x], #[t, tn]⟩, ty, pos, aft, g⟩).run P w = .ok (.value (.slice (some ⟨w.heap.size, 0, none⟩) n c)) (w.drew.alloc (.cells Z e)) := by
    simp only [execOp, resolve, invoke, builtin, Sem.run_bind, Sem.run_pure, Result.andThen_ok, List.map_toArray, List.map_cons, List.map_nil, hs, hx, hr]
  have hf : Fr [] w (w.drew.alloc (.cells Z e)) := (Fr.drew [] w).new (Fr.alloc [] _ _)
  refine St.val hrun (kk _ c _ ⟨[], ⟨by simp, .inr ⟨w.heap.size, c, Z, rfl, Nat.le_refl _, ?_, Nat.zero_le _, hmax, hZs, by simp⟩⟩, rfl, fun b hb hz => hz⟩ hf)
  exact World.alloc_heap_new w.drew _
end
end Go.V
end
section
namespace Go.V
open Go.Plan (wpL)
open Go.RowKit Go.Base
set_option linter.unusedVariables false
set_option linter.unusedSimpArgs false
section
variable {P : Program}
end
section
variable {P : Program} {ro : Option Nat} {Q : Exit → Act → World → Prop} {a : Act} {w : World} {ops : Array Oper} {rest : List Oper} {d : Option Tmp} {ty : TypeId} {pos : String} {aft : Array Edge} {g : Option (Nat × Bool)}
end
end Go.V
end
section
namespace Go.V
open Go.Plan (FW)
open Go.RowKit Go.Base
set_option linter.unusedVariables false
set_option linter.unusedSimpArgs false
/-- One round, by a call of yield. -/
def Yld (P : Program) (l : Nat) (args : Array Value) (W : World) (R : Ending → World → Prop) : Prop := YieldAt (FW none) 0 P l args W R
section
variable {P : Program} {Q : Exit → Act → World → Prop} {a : Act} {w : World} {ops : Array Oper} {rest : List Oper} {d : Option Tmp} {ty : TypeId} {pos : String} {aft : Array Edge} {g : Option (Nat × Bool)}
/-- A call of yield. -/
theorem yield {f : Operand} {args : Array Operand} {ts : Array TypeId} (l : Nat) (av : Array Value) (hf : a.eval f = .func (.yield l) #[] #[]) (ha : args.map a.eval = av) {R : Ending → World → Prop} (hc : Yld P l av w R)
    (k : ∀ e w1, R e w1 → ∃ v, e = .returned v ∧ L none P ops Q rest (a.put d v) w1) : St none P ops Q rest ⟨d, .call ⟨.value f, args, ts⟩, ty, pos, aft, g⟩ a w := by
  obtain ⟨fn, tmps, assign, body, hy, hR⟩ := hc
  unfold St
  have hr : (execOp a.eval ⟨d, .call ⟨.value f, args, ts⟩, ty, pos, aft, g⟩).run P w = .ok (.round l fn tmps assign body) w := by
    simp only [execOp, resolve, hf, ha, Deferred.ofValue, Sem.run_bind, Sem.run_pure, Result.andThen_ok, invoke, Array.empty_append, Array.append_empty, hy]
  rw [hr]
  refine ⟨(fun h => by cases h), hR.mono fun e w1 h => ?_⟩
  obtain ⟨v, rfl, hk⟩ := k e w1 h
  exact hk
end
/-- Blocks that lie as they lay. -/
def Kept (l : List Nat) (w w' : World) : Prop := w.heap.size ≤ w'.heap.size ∧ ∀ k ∈ l, w'.heap[k]? = w.heap[k]?
theorem Kept.fr {l l' : List Nat} {w w1 w2 : World} (h : Kept l w w1) (f : Fr l' w1 w2) (hl : ∀ k ∈ l, k < w1.heap.size ∧ k ∉ l') : Kept l w w2 :=
  ⟨Nat.le_trans h.1 f.size, fun k hk => (f.block k (hl k hk).1 (hl k hk).2).trans (h.2 k hk)⟩
section
variable {P : Program} {Q : Exit → Act → World → Prop} {a : Act} {w : World}
theorem putObj_fr {W : World} {l : Nat} {o o' : Obj} (h : W.heap[l]? = some o) : Fr [l] W (W.putObj l o') :=
  ⟨rfl, rfl, rfl, by simp [World.putObj], fun k hk hn => World.putObj_heap_other (by simpa using hn)⟩
theorem foldl_size {l : Array (Nat × Value)} : ∀ (t : Array Value), True → (l.foldl (fun t (p, v) => t.setIfInBounds p v) t).size = t.size := by
  intro t _
  rw [← Array.foldl_toList]
  generalize l.toList = m
  induction m generalizing t with
  | nil => rfl
  | cons x m ih => rw [List.foldl_cons, ih]; simp
end
/-- What a function that holds such a loop must come to. -/
def mPost (P : Program) (fn : Func) (R : Ending → World → Prop) : Exit → Act → World → Prop
  | .normal, a, w | .ret, a, w => LeavesInM (FW none) 0 P fn a.tmps R a.defers .returning w
  | _, _, _ => False
section
variable {P : Program} {fn : Func} {R : Ending → World → Prop} {a : Act} {w : World} {n : Nat}
theorem enterM {f : FuncId} {c : Code} {args : Array Value} (N : Nat) (hf : P.funcs[f]? = some fn) (hb : fn.body = some c) (hn : args.size + (fn.ntmps - args.size) = N)
    (h : ∀ a, Sz N a → (∀ j v, args[j]? = some v → a.eval (.tmp j) = v) → Wp none P c (mPost P fn R) a w) : Calls P f args w R := by
  refine callsIn_wide.1 (callsIn_of_wp_marks (F := Fence.wide) (n := 0) hf hb trivial ?_)
  have hw := h { tmps := args ++ Array.replicate (fn.ntmps - args.size) undef, defers := [] } ⟨by simp only [Array.size_append, Array.size_replicate]; exact hn, rfl⟩ (by
    intro j v hj
    have hlt : j < args.size := (Array.getElem?_eq_some_iff.1 hj).1
    simp only [Act.eval, Array.getD_eq_getD_getElem?]
    rw [Array.getElem?_append_left hlt, hj]
    rfl)
  unfold Wp at hw
  refine wpIn_mono hw fun e a' w' q => ?_
  cases e <;> first | exact q | exact q.elim
end
/-- The block for the rounds' deferred calls: there are none. -/
def Df (w : World) (D : Nat) : Prop := w.heap[D]? = some (.deferred (some []))
section
variable {w w' : World} {D N : Nat} {a a1 : Act}
theorem Df.fr (h : Df w D) {l : List Nat} (f : Fr l w w') (hl : D ∉ l) : Df w' D := (f.block D (Array.getElem?_eq_some_iff.1 h).1 hl).trans h
theorem Kept.refl (l : List Nat) (w : World) : Kept l w w := ⟨Nat.le_refl _, fun _ _ => rfl⟩
theorem par_tm {t : Nat} {u : Value} (h : a1.tmps = a.tmps) (hu : a.eval (.tmp t) = u) : a1.eval (.tmp t) = u := by rw [← hu]; simp [Act.eval, h]
end
section
variable {P : Program} {fn : Func} {R : Ending → World → Prop} {a : Act} {w : World} {n D : Nat}
theorem retM (hz : Sd n [{ target := .collected D, args := #[] }] a) (hD : Df w D) (h : ∀ w', Fr [D] w w' → ∃ v, (results fn a.tmps).run P w' = .ok v w' ∧ R (.returned v) w') : mPost P fn R .ret a w := by
  show LeavesInM (FW none) 0 P fn a.tmps R a.defers .returning w
  rw [hz.defers]
  obtain ⟨v, h1, h2⟩ := h _ (putObj_fr hD)
  exact ⟨by simp, .inl ⟨_, _, rfl, run_takeDeferred hD, v, h1, h2⟩⟩
end
end Go.V
end
section
namespace Go.V
open Go.Plan (FW)
open Go.RowKit Go.Base
set_option linter.unusedVariables false
set_option linter.unusedSimpArgs false
/-- Blocks that lie as they lay. -/
def KeptP (K : Nat → Prop) (w w' : World) : Prop := w.heap.size ≤ w'.heap.size ∧ ∀ k, k < w.heap.size → K k → w'.heap[k]? = w.heap[k]?
theorem KeptP.refl (K : Nat → Prop) (w : World) : KeptP K w w := ⟨Nat.le_refl _, fun _ _ _ => rfl⟩
theorem KeptP.fr {K : Nat → Prop} {l : List Nat} {w w1 w2 : World} (h : KeptP K w w1) (f : Fr l w1 w2) (hl : ∀ k ∈ l, ¬ K k) : KeptP K w w2 :=
  ⟨Nat.le_trans h.1 f.size, fun k hk hK => (f.block k (Nat.lt_of_lt_of_le hk h.1) fun hm => hl k hm hK).trans (h.2 k hk hK)⟩
theorem KeptP.frP {K P : Nat → Prop} {w w1 w2 : World} (h : KeptP K w w1) (f : FrP P w1 w2) (hl : ∀ k, P k → ¬ K k) : KeptP K w w2 :=
  ⟨Nat.le_trans h.1 f.size, fun k hk hK => (f.block k (Nat.lt_of_lt_of_le hk h.1) fun hm => hl k hm hK).trans (h.2 k hk hK)⟩
theorem SlR.kept {α : Type} {R : Rp α} {Z K : Nat → Prop} {w w' : World} {v : Value} {xs : List α} (h : SlR R Z w v xs) (f : KeptP K w w') (hz : ∀ k, Z k → K k) : SlR R Z w' v xs :=
  h.mono (fun b hb hZ => ⟨hZ, f.2 b hb (hz b hZ)⟩) f.1
/-- A call of a function's value. -/
def CallV (P : Program) (fv : Value) (args : Array Value) (w : World) (R : Ending → World → Prop) : Prop :=
  (∃ l, fv = .func (.yield l) #[] #[] ∧ Yld P l args w R) ∨ (∃ f cap, fv = .func (.func f) #[] cap ∧ (∀ args w, (callFunc f args).run P w = .ok (.enter f args) w) ∧ Calls P f (args ++ cap) w R)
section
variable {P : Program} {Q : Exit → Act → World → Prop} {a : Act} {w : World} {ops : Array Oper} {rest : List Oper} {d : Option Tmp} {ty : TypeId} {pos : String} {aft : Array Edge} {g : Option (Nat × Bool)}
theorem callV {f : Operand} {args : Array Operand} {ts : Array TypeId} (fv : Value) (av : Array Value) (hf : a.eval f = fv) (ha : args.map a.eval = av) {R : Ending → World → Prop} (hc : CallV P fv av w R)
    (k : ∀ e w1, R e w1 → ∃ v, e = .returned v ∧ L none P ops Q rest (a.put d v) w1) : St none P ops Q rest ⟨d, .call ⟨.value f, args, ts⟩, ty, pos, aft, g⟩ a w := by
  rcases hc with ⟨l, rfl, hy⟩ | ⟨fn, cap, rfl, he, hc⟩
  · exact yield l av hf ha hy k
  · exact call fn cap av hf ha he hc k
end
def rPostP {α : Type} (KB : Nat → Prop) (I : List α → World → Prop) (Ix : Code → List α → World → Prop) (s : List α) (W : World) : Exit → Act → World → Prop
  | .normal, _, W' => KeptP KB W W' ∧ I s W'
  | .ret, _, W' => KeptP KB W W' ∧ Ix .ret s W'
  | .exit i, _, W' => KeptP KB W W' ∧ Ix (.exit i) s W'
  | .goto t, _, W' => KeptP KB W W' ∧ Ix (.goto t) s W'
  | _, _, _ => False
/-- What an iterator promises of the world w: whoever is told of the data one by one, and keeps the blocks of KB. -/
def IterP {α : Type} (P : Program) (gf : Nat) (lb : Array Value) (encs : α → Array Value) (X : World → α → World → Prop) (S Sp : List α → Prop) (KB : Nat → Prop) (w : World) : Prop :=
  ∀ (W1 : World), Fr [] w W1 → w.heap.size + 2 ≤ W1.heap.size → ∀ (l : Nat) (J Jx : List α → World → Prop),
    (∀ pre x W0 W, J pre W0 → Fr [] W0 W → X W0 x W → Sp (pre ++ [x]) → Yld P l (encs x) W (fun e W' => (e = .returned (.bool true) ∧ J (pre ++ [x]) W' ∧ KeptP KB W W') ∨ (e = .returned (.bool false) ∧ Jx (pre ++ [x]) W'))) →
    J [] W1 → Calls P gf (#[.func (.yield l) #[] #[]] ++ lb) W1 (fun e W' => (∃ v, e = .returned v) ∧ ((∃ xs W2, S xs ∧ J xs W2 ∧ Fr [] W2 W') ∨ (∃ pre W2, Sp pre ∧ Jx pre W2 ∧ Fr [] W2 W')))
section
variable {P : Program} {Q : Exit → Act → World → Prop} {a : Act} {w : World}
theorem rngP {α : Type} {g : Operand} {ps : Array Tmp} {assign body : Code} {N : Nat} (hz : Sz N a) {gf : Nat} {lb : Array Value} (hg : a.eval g = .func (.func gf) #[] lb) (eg : ∀ args w, (callFunc gf args).run P w = .ok (.enter gf args) w)
    {encs : α → Array Value} {X : World → α → World → Prop} {S Sp : List α → Prop} {KB : Nat → Prop} (hKB : ∀ k, KB k → k ≠ w.heap.size ∧ k ≠ w.heap.size + 1) (hit : IterP P gf lb encs X S Sp KB w) (hps : ∀ x, (encs x).size = ps.size)
    (I : List α → World → Prop) (Ix : Code → List α → World → Prop) (hI : ∀ pre W W', I pre W → Fr [w.heap.size + 1] W W' → I pre W') (hIx : ∀ c pre W W', Ix c pre W → Fr [w.heap.size + 1] W W' → Ix c pre W')
    (h0 : ∀ W, Fr [] w W → W.heap.size = w.heap.size + 2 → I [] W)
    (hbody : ∀ (l : Nat) (pre : List α) (x : α) (W0 W : World), l = w.heap.size + 1 → I pre W0 → Fr [] W0 W → X W0 x W → Sp (pre ++ [x]) → w.heap.size + 2 ≤ W0.heap.size →
      ∀ a1, Sz N a1 → a1.tmps = (ps.zip (encs x)).foldl (fun t (p, v) => t.setIfInBounds p v) a.tmps →
        Wp (some l) P assign (Exit.then (fun a2 W1 => KeptP (fun k => k = w.heap.size ∨ k = l ∨ KB k) W W1 ∧ ∀ W2, Fr [l] W1 W2 → Wp (some l) P body (rPostP (fun k => k = w.heap.size ∨ k = l ∨ KB k) I Ix (pre ++ [x]) W2) a2 W2) (fun _ _ _ => False)) a1 W)
    (hdone : ∀ (xs : List α) (W : World), S xs → I xs W → W.heap[w.heap.size]? = some (.deferred (some [])) → ∀ a1, Sd N [{ target := .collected w.heap.size, args := #[] }] a1 → a1.tmps = a.tmps → Q .normal a1 W)
    (hstop : ∀ (c : Code) (pre : List α) (W : World), Sp pre → Ix c pre W → W.heap[w.heap.size]? = some (.deferred (some [])) → ∀ a1, Sd N [{ target := .collected w.heap.size, args := #[] }] a1 → a1.tmps = a.tmps → Wp none P c Q a1 W) :
    Wp none P (.rangeFunc g ps assign body) Q a w := by
  unfold Wp
  refine wpIn_rangeFunc ?_
  intro fn hfn
  obtain ⟨rec, hrec⟩ : ∃ rec : LoopState → Option Code → Loop, rec = fun st pe => { state := st, pending := pe, fn, tmps := a.tmps, params := ps, assign, body, defers := w.heap.size } := ⟨_, rfl⟩
  obtain ⟨W1, hW1⟩ : ∃ W1, (w.alloc (.deferred (some []))).alloc (.loop (rec .ready none)) = W1 := ⟨_, rfl⟩
  have hs1 : W1.heap.size = w.heap.size + 2 := by rw [← hW1]; simp
  have hL1 : W1.heap[w.heap.size + 1]? = some (.loop (rec .ready none)) := by
    rw [← hW1]; have := World.alloc_heap_new (w.alloc (.deferred (some []))) (.loop (rec .ready none)); rwa [World.size_alloc] at this
  have hK1 : W1.heap[w.heap.size]? = some (.deferred (some [])) := by
    rw [← hW1]; exact (Below.heap_alloc _ _ _ (by simp)).trans (World.alloc_heap_new w _)
  have hF1 : Fr [] w W1 := by rw [← hW1]; exact (Fr.alloc [] w _).new (Fr.alloc [] _ _)
  refine ⟨w.heap.size + 1, [{ target := .collected w.heap.size, args := #[] }], W1, { target := .fn (.func gf) lb, args := #[.func (.yield (w.heap.size + 1)) #[] #[]] }, W1, gf,
    #[.func (.yield (w.heap.size + 1)) #[] #[]] ++ lb, W1, ?_, ?_, (fun _ _ => trivial), ?_, (fun h => by cases h), ?_⟩
  · rw [← hW1, hrec]; exact run_enterLoop_outer _ _ _ _ _
  · simp only [resolve, hg]
    simp [go_sem]
  · simp [invoke, go_sem, eg]
  · refine (callsFW (ro := none) (hit W1 hF1 (by omega) (w.heap.size + 1)
      (fun pre W => I pre W ∧ w.heap.size + 2 ≤ W.heap.size ∧ W.heap[w.heap.size + 1]? = some (.loop (rec .ready none)) ∧ W.heap[w.heap.size]? = some (.deferred (some [])))
      (fun pre W => ∃ c, Ix c pre W ∧ w.heap.size + 2 ≤ W.heap.size ∧ W.heap[w.heap.size + 1]? = some (.loop (rec .done (some c))) ∧ W.heap[w.heap.size]? = some (.deferred (some []))) ?_ ⟨h0 W1 hF1 hs1, by omega, hL1, hK1⟩)).mono ?_
    · rintro pre x W0 W ⟨hi, hsz, hl0, hk0⟩ hfr hx hsp
      have hl := (hfr.block (w.heap.size + 1) (by omega) (by simp)).trans hl0
      have hk := (hfr.block w.heap.size (by omega) (by simp)).trans hk0
      have hszW := hfr.size
      have hy := run_yield (P := P) (args := encs x) hl (by rw [hrec]; exact hps x)
      rw [hrec] at hy
      refine ⟨fn, _, assign, body, hy, roundIn_of_wpIn trivial ?_⟩
      have hbd := hbody (w.heap.size + 1) pre x W0 W rfl hi hfr hx hsp hsz { tmps := (ps.zip (encs x)).foldl (fun t (p, v) => t.setIfInBounds p v) a.tmps, defers := [] } ⟨by
        show ((ps.zip (encs x)).foldl (fun t (p, v) => t.setIfInBounds p v) a.tmps).size = N
        rw [← hz.size]
        exact foldl_size _ trivial, rfl⟩ rfl
      unfold Wp at hbd
      refine wpIn_mono hbd ?_
      intro e a2 W1' q
      cases e with
      | normal =>
        obtain ⟨hkept, hbdy⟩ := q
        have hkz := hkept.1
        have hkl := (hkept.2 (w.heap.size + 1) (by omega) (.inr (.inl rfl))).trans hl
        have hkD := (hkept.2 w.heap.size (by omega) (.inl rfl)).trans hk
        refine ⟨_, run_beginRound hkl (by rw [hrec]), ?_⟩
        have hfp := putObj_fr (o' := .loop { rec .ready none with state := .busy }) hkl
        have hb2 := hbdy _ hfp
        unfold Wp at hb2
        have hl2 : (W1'.putObj (w.heap.size + 1) (.loop { rec .ready none with state := .busy })).heap[w.heap.size + 1]? = some (.loop { rec .ready none with state := .busy }) := World.putObj_heap_same (Array.getElem?_eq_some_iff.1 hkl).1
        have hD2 := (hfp.block w.heap.size (by omega) (by simp)).trans hkD
        have hz2 := hfp.size
        refine wpIn_mono hb2 ?_
        have fin : ∀ (jump : Option Code) (W3 : World), KeptP (fun k => k = w.heap.size ∨ k = w.heap.size + 1 ∨ KB k) (W1'.putObj (w.heap.size + 1) (.loop { rec .ready none with state := .busy })) W3 →
            ∃ W4, (Instr.endRound (w.heap.size + 1) jump).run P W3 = .ok (.bool jump.isNone) W4 ∧ Fr [w.heap.size + 1] W3 W4 ∧ w.heap.size + 2 ≤ W4.heap.size ∧
              W4.heap[w.heap.size + 1]? = some (.loop (rec (if jump.isNone then .ready else .done) jump)) ∧ W4.heap[w.heap.size]? = some (.deferred (some [])) ∧ KeptP KB W W4 := fun jump W3 hk3 => by
          have hz3 := hk3.1
          have hl3 := (hk3.2 (w.heap.size + 1) (by omega) (.inr (.inl rfl))).trans hl2
          have hD3 := (hk3.2 w.heap.size (by omega) (.inl rfl)).trans hD2
          have hfp3 := putObj_fr (o' := .loop (rec (if jump.isNone then .ready else .done) jump)) hl3
          have hz4 := hfp3.size
          refine ⟨_, ?_, hfp3, by omega, World.putObj_heap_same (Array.getElem?_eq_some_iff.1 hl3).1, (hfp3.block w.heap.size (by omega) (by simp)).trans hD3, by omega, ?_⟩
          · have := run_endRound (P := P) jump hl3
            rw [hrec] at this ⊢
            exact this
          · intro k hkl' hKk
            have hne := hKB k hKk
            exact (hfp3.block k (by omega) (by simp; omega)).trans ((hk3.2 k (by omega) (.inr (.inr hKk))).trans ((hfp.block k (by omega) (by simp; omega)).trans (hkept.2 k hkl' (.inr (.inr hKk)))))
        intro e a3 W3 hp
        cases e with
        | normal =>
          obtain ⟨hk3, hi3⟩ := hp
          obtain ⟨W4, hr, hf4, hz4, hl4, hD4, hb4⟩ := fin none W3 hk3
          exact ⟨_, W4, hr, .inl ⟨rfl, ⟨hI _ _ _ hi3 hf4, hz4, hl4, hD4⟩, hb4⟩⟩
        | ret =>
          obtain ⟨hk3, hi3⟩ := hp
          obtain ⟨W4, hr, hf4, hz4, hl4, hD4, hb4⟩ := fin (some .ret) W3 hk3
          exact ⟨_, W4, hr, .inr ⟨rfl, .ret, hIx _ _ _ _ hi3 hf4, hz4, hl4, hD4⟩⟩
        | exit i =>
          obtain ⟨hk3, hi3⟩ := hp
          obtain ⟨W4, hr, hf4, hz4, hl4, hD4, hb4⟩ := fin (some (.exit i)) W3 hk3
          exact ⟨_, W4, hr, .inr ⟨rfl, .exit i, hIx _ _ _ _ hi3 hf4, hz4, hl4, hD4⟩⟩
        | goto t =>
          obtain ⟨hk3, hi3⟩ := hp
          obtain ⟨W4, hr, hf4, hz4, hl4, hD4, hb4⟩ := fin (some (.goto t)) W3 hk3
          exact ⟨_, W4, hr, .inr ⟨rfl, .goto t, hIx _ _ _ _ hi3 hf4, hz4, hl4, hD4⟩⟩
        | panic ch => exact hp.elim
        | outgrown => exact hp.elim
      | _ => exact q.elim
    · rintro e W2 ⟨⟨v, rfl⟩, (⟨xs, W3, hS, ⟨hi, hz3, hl, hk⟩, hf⟩ | ⟨pre, W3, hSp, ⟨c, hi, hz3, hl, hk⟩, hf⟩)⟩
      · have hl' := (hf.block (w.heap.size + 1) (by omega) (by simp)).trans hl
        have hk' := (hf.block w.heap.size (by omega) (by simp)).trans hk
        have hs' := hf.size
        have hfp := putObj_fr (o' := .loop { rec .ready none with state := .exhausted }) hl'
        refine ⟨none, _, by have := run_endLoop (P := P) hl' (by rw [hrec]; simp); rw [hrec] at this; exact this, ?_⟩
        refine hdone xs _ hS (hI _ _ _ (hI _ _ _ hi (hf.mono fun i hi => by cases hi)) (by rw [hrec] at hfp; exact hfp)) ?_ _ ⟨hz.size, by show [_] ++ a.defers = _; rw [hz.defers]; rfl⟩ rfl
        rw [hrec] at hfp
        exact (hfp.block w.heap.size (by omega) (by simp)).trans hk'
      · have hl' := (hf.block (w.heap.size + 1) (by omega) (by simp)).trans hl
        have hk' := (hf.block w.heap.size (by omega) (by simp)).trans hk
        have hs' := hf.size
        have hfp := putObj_fr (o' := .loop { rec .done (some c) with state := .exhausted }) hl'
        refine ⟨some c, _, by have := run_endLoop (P := P) hl' (by rw [hrec]; simp); rw [hrec] at this; exact this, ?_⟩
        have hst := hstop c pre (W2.putObj (w.heap.size + 1) (.loop { rec .done (some c) with state := .exhausted })) hSp (hIx _ _ _ _ (hIx _ _ _ _ hi (hf.mono fun i hi => by cases hi)) hfp) ((hfp.block w.heap.size (by omega) (by simp)).trans hk') { a with defers := { target := .collected w.heap.size, args := #[] } :: a.defers } ⟨hz.size, by show _ :: a.defers = _; rw [hz.defers]⟩ rfl
        unfold Wp at hst
        rw [hrec] at hst
        exact hst
end
section
variable {P : Program} {fn : Func} {R : Ending → World → Prop} {a : Act} {w : World} {n : Nat}
theorem retM0 (hz : Sz n a) (h : ∃ v, (results fn a.tmps).run P w = .ok v w ∧ R (.returned v) w) : mPost P fn R .ret a w := by
  show LeavesInM (FW none) 0 P fn a.tmps R a.defers .returning w
  rw [hz.defers]
  exact h
theorem resCCC {s t s' t' s'' t'' : Nat} (hf : fn.results = #[.cell s t, .cell s' t', .cell s'' t'']) (ad ad' ad'' : Addr) (hs : a.eval (.tmp s) = .pointer (some ad)) (hs' : a.eval (.tmp s') = .pointer (some ad')) (hs'' : a.eval (.tmp s'') = .pointer (some ad'')) {v v' v'' : Value}
    (hl : (loadVar t ad).run P w = .ok v w) (hl' : (loadVar t' ad').run P w = .ok v' w) (hl'' : (loadVar t'' ad'').run P w = .ok v'' w) : (results fn a.tmps).run P w = .ok (.tuple #[v, v', v'']) w := by
  have e1 : a.tmps[s]?.getD undef = .pointer (some ad) := by have := hs; simpa [Act.eval] using this
  have e2 : a.tmps[s']?.getD undef = .pointer (some ad') := by have := hs'; simpa [Act.eval] using this
  have e3 : a.tmps[s'']?.getD undef = .pointer (some ad'') := by have := hs''; simpa [Act.eval] using this
  simp [results, hf, e1, e2, e3, asAddr, Sem.run_bind, hl, hl', hl'']
end
theorem Yld.mono {P : Program} {l : Nat} {args : Array Value} {W : World} {R R' : Ending → World → Prop} (h : Yld P l args W R) (hr : ∀ e w, R e w → R' e w) : Yld P l args W R' := by
  obtain ⟨fn, tmps, assign, body, hy, hR⟩ := h
  exact ⟨fn, tmps, assign, body, hy, hR.mono hr⟩
section
variable {a a1 : Act} {N p q t : Nat} {v u x : Value}
theorem par2_snd (hz : Sz N a) (hq : decide (q < N) = true) (h : a1.tmps = (a.tmps.setIfInBounds p v).setIfInBounds q u) : a1.eval (.tmp q) = u := by
  have : q < a.tmps.size := by rw [hz.size]; exact of_decide_eq_true hq
  simp [Act.eval, h, this]
theorem par2_fst (hz : Sz N a) (hp : decide (p < N) = true) (hne : Nat.beq q p = false) (h : a1.tmps = (a.tmps.setIfInBounds p v).setIfInBounds q u) : a1.eval (.tmp p) = v := by
  have : p < a.tmps.size := by rw [hz.size]; exact of_decide_eq_true hp
  have hne' : q ≠ p := Nat.ne_of_beq_eq_false hne
  simp only [Act.eval, Array.getD_eq_getD_getElem?, h]
  rw [Array.getElem?_setIfInBounds_ne hne']
  simp [this]
theorem par2_other (h : a1.tmps = (a.tmps.setIfInBounds p v).setIfInBounds q u) (h1 : Nat.beq p t = false) (h2 : Nat.beq q t = false) (hx : a.eval (.tmp t) = x) : a1.eval (.tmp t) = x := by
  have h1' : p ≠ t := Nat.ne_of_beq_eq_false h1
  have h2' : q ≠ t := Nat.ne_of_beq_eq_false h2
  rw [← hx]
  simp [Act.eval, h, Array.getElem?_setIfInBounds_ne h1', Array.getElem?_setIfInBounds_ne h2']
end
end Go.V
end
section
namespace Go.Proofs.Ytalhmegjomfbaaa
open Go.V Go.Base
open Go.RowKit (Below)
attribute [local irreducible] Act.put Act.eval
set_option linter.unusedVariables false
set_option linter.unusedSimpArgs false
set_option maxHeartbeats 4000000
set_option maxRecDepth 20000
theorem flat_take {β : Type} {l : List (List β)} {i : Nat} (h : i < l.length) : (l.take (i + 1)).flatten = (l.take i).flatten ++ l.getD i [] := by
  rw [List.take_add_one, List.getElem?_eq_getElem h, List.flatten_append, List.getD_eq_getElem?_getD, List.getElem?_eq_getElem h]; simp
theorem flat_take_le {β : Type} (l : List (List β)) (i : Nat) : (l.take i).flatten.length ≤ l.flatten.length := by
  have h : (l.take i).flatten.length + (l.drop i).flatten.length = l.flatten.length := by rw [← List.length_append, ← List.flatten_append, List.take_append_drop]
  omega
theorem _root_.Go.V.SlR.cap {α : Type} {R : Rp α} {Z : Nat → Prop} {w : World} {A : Option Addr} {n c : Nat} {xs : List α} (h : SlR R Z w (.slice A n c) xs) : xs.length ≤ c := by
  obtain ⟨A', c', e, h1, _⟩ := h
  injection e with e1 e2 e3
  omega
theorem grow_any (w : World) (n : Nat) (hn : n ≤ 1099511627776) : Calls Try.prog 82 #[.slice none 0 0, .int .i64 (n : Int)] w (fun e w' => ∃ A c, e = .returned (.slice A 0 c) ∧ OwR itI NoZ w' w.heap.size 86 (.slice A 0 c) [] ∧ Fr [] w w') := by
 have hF := Fr.refl [] w
 refine V.en 27 Try.func82 fun a h1 => ?_
 refine V.sr h1 [] 4 4 [] fun a h4 => ?_
 refine V.seq fun K5 k6 => ?_
 refine V.sr h4 [] 5 5 [(6, .bool (decide ((n : Int) < 0)))] fun a h9 => ?_
 refine V.cp h9 ((n : Int) < 0) (fun ht10 => ?_) (fun ht10 => ?_)
 · exact absurd ht10 (by omega)
 ·
  refine V.skip ?_
  refine V.then_n (k6 _ _ ?_)
  refine V.seq fun K11 k12 => ?_
  refine V.sr h9 [(5, .i (0 - 0)), (0, .i ((n : Int) - (0 - 0)))] 8 14 [(1, .int .i64 ((n : Int) - (0 - 0)))] fun a h15 => ?_
  refine V.sr h15 [] 15 15 [(16, .bool (decide (((n : Int) - (0 - 0)) > 0)))] fun a h18 => ?_
  refine V.cp h18 (((n : Int) - (0 - 0)) > 0) (fun ht19 => ?_) (fun ht19 => ?_)
  ·
   refine V.rg ?_
   refine V.run h18 [] 5 17 19 [(20, .slice none 0 0), (21, .int .i64 ((n : Int) - (0 - 0)))] fun a h25 => ?_
   refine V.go (V.appZ (R := itI) (kn := .i64) (n := n) (h25.e (v := (.slice none 0 0))) ((h25.e (v := (.int .i64 ((n : Int) - (0 - 0))))).trans (V.int_eq (by omega))) (by kernel_rfl) (by kernel_rfl) info86 (by kernel_rfl) (by decide) (by omega) (by decide) (by omega) ?_)
   intro g20 c21 w22 hO23 hF24
   have hsw22 := hF24.size
   have hF_26 := hF.new hF24
   refine V.pt h25 fun a h27 => ?_
   refine V.run h27 [] 2 23 23 [(24, .int .i64 0)] fun a h28 => ?_
   refine V.go (V.slc (e := 86) (sz := 2) g20 0 n c21 0 0 c21 (h28.e (v := (.slice (some ⟨g20, 0, none⟩) n c21))) rfl ⟨_, ((h28.e (v := (.int .i64 0)))).trans (V.int_eq (by omega))⟩ rfl (by omega) (by omega) (by omega) (by kernel_rfl) (by kernel_rfl) ?_)
   intro ad29 had30 hae31
   obtain rfl := hae31 rfl
   refine V.pt h28 fun a h32 => ?_
   refine V.re h32 [] 1 0 [(0, .slice (some ⟨g20, 0, none⟩) (0 - 0) (c21 - 0))] fun a h33 => k12 _ _ ?_
   refine V.sr h33 [] 26 26 [(4, .slice (some ⟨g20, 0, none⟩) (0 - 0) (c21 - 0))] fun a h36 => ?_
   refine V.ret ?_
   refine V.r1 h36 (.slice (some ⟨g20, 0, none⟩) (0 - 0) (c21 - 0)) ?_
   exact ⟨_, _, rfl, hO23, hF_26⟩
  ·
   refine V.skip ?_
   refine V.then_n (k12 _ _ ?_)
   refine V.sr h18 [] 26 26 [(4, .slice none 0 0)] fun a h39 => ?_
   refine V.ret ?_
   refine V.r1 h39 (.slice none 0 0) ?_
   exact ⟨_, _, rfl, OwR.nil itI NoZ _ w.heap.size 86, hF⟩
theorem concat_nil (w : World)  : Calls Try.prog 79 #[.slice none 0 0] w (fun e w' => ∃ A c, e = .returned (.slice A 0 c) ∧ OwR itI NoZ w' w.heap.size 86 (.slice A 0 c) [] ∧ Fr [] w w') := by
 have hF := Fr.refl [] w
 refine V.en 36 Try.func79 fun a h1 => ?_
 refine V.sr h1 [] 2 2 [] fun a h4 => ?_
 refine V.sr h4 [] 1 0 [(3, .int .i64 0)] fun a h7 => ?_
 refine V.seq fun K8 k9 => ?_
 refine V.sr h7 [] 1 0 [(9, .slice none 0 0), (10, .int .i64 0), (11, .int .i64 0)] fun a h12 => ?_
 refine V.block ?_
 refine V.loopR 2 ?_
 refine V.rnd ?_
 refine V.sr h12 [] 1 0 [(12, .bool false)] fun a h15 => ?_
 refine V.seq fun K16 k17 => ?_
 refine V.cf h15 ?_
 refine V.exit (V.then_e (V.then_e (V.blk_hit ?_)))
 refine V.then_n (k9 _ _ ?_)
 refine V.sg fun K18 k19 => ?_
 refine V.run h15 [] 1 1 0 [(23, .int .i64 0)] fun a h20 => ?_
 refine V.cl h20 (Go.Proofs.enters_of Try.func82 (by kernel_rfl) rfl) (grow_any w 0 (by omega)) ?_
 rintro _ w25 ⟨A21, c22, rfl, hO23, hF24⟩
 refine ⟨_, rfl, fun a h26 => ?_⟩
 have hsw25 := hF24.size
 have hF_27 := hF.new hF24
 have hO23q := hO23.rebase (base' := w.heap.size) (by omega)
 refine V.re h26 [] 1 0 [(6, .slice A21 0 c22)] fun a h28 => k19 _ _ ?_
 refine V.seq fun K29 k30 => ?_
 refine V.sr h28 [] 1 0 [(25, .slice none 0 0), (26, .int .i64 0), (27, .int .i64 0)] fun a h33 => ?_
 refine V.block ?_
 refine V.loopR 2 ?_
 refine V.rnd ?_
 refine V.sr h33 [] 1 0 [(28, .bool false)] fun a h36 => ?_
 refine V.seq fun K37 k38 => ?_
 refine V.cf h36 ?_
 refine V.exit (V.then_e (V.then_e (V.blk_hit ?_)))
 refine V.then_n (k30 _ _ ?_)
 refine V.sr h36 [] 35 35 [(2, .slice A21 0 c22)] fun a h41 => ?_
 refine V.ret ?_
 refine V.r1 h41 (.slice A21 0 c22) ?_
 exact ⟨_, _, rfl, hO23q, hF_27⟩
theorem concat_row (w : World) (H : Nat → Prop) (av : List Nat) (g : Nat) (vs vsB : List Value) (xs xsB : List (List (ByteArray × Int))) (hR : Row idV w g vs 87) (hl : vs.length = xs.length) (hK : Bks itI w 86 H av (vs ++ vsB) (xs ++ xsB)) (hHb : ∀ k, H k → k < w.heap.size) (hx : xs.length ≤ 4398046511104) (hf : xs.flatten.length ≤ 1099511627776) : Calls Try.prog 79 #[.slice (some ⟨g, 0, none⟩) xs.length xs.length] w (fun e w' => ∃ A c, e = .returned (.slice A xs.flatten.length c) ∧ OwR itI NoZ w' w.heap.size 86 (.slice A xs.flatten.length c) xs.flatten ∧ Fr [] w w') := by
 have hF := Fr.refl [] w
 have hltr := hR.lt
 refine V.en 36 Try.func79 fun a h1 => ?_
 refine V.sr h1 [] 2 2 [] fun a h4 => ?_
 refine V.sr h4 [] 1 0 [(3, .int .i64 0)] fun a h7 => ?_
 refine V.seq fun K8 k9 => ?_
 refine V.sr h7 [] 1 0 [(9, .slice (some ⟨g, 0, none⟩) xs.length xs.length), (10, .int .i64 ((xs.length : Nat) : Int)), (11, .int .i64 0)] fun a h12 => ?_
 refine V.block ?_
 refine V.loop1 (fun (i : Nat) a_ w_ => En 36 [] a_ [(0, .slice (some ⟨g, 0, none⟩) xs.length xs.length), (3, .int .i64 (((xs.take i).flatten.length : Nat) : Int)), (9, .slice (some ⟨g, 0, none⟩) xs.length xs.length), (10, .int .i64 ((xs.length : Nat) : Int)), (11, .int .i64 (i : Int))] ∧ Fr [] w w_ ∧ Row idV w_ g vs 87 ∧ Bks itI w_ 86 H (av) (vs ++ vsB) (xs ++ xsB) ∧ (i ≤ xs.length)) (fun (i : Nat) => xs.length - i) 0 ?_ ?_
 ·
  refine ⟨((h12.eq 3 (v := (.int .i64 0)) (u := (.int .i64 (((xs.take 0).flatten.length : Nat) : Int))) (V.int_eq (by simp))).eq 11 (v := (.int .i64 0)) (u := (.int .i64 (0 : Int))) (V.int_eq (by omega))).only _, hF, hR, hK, (by omega)⟩
 ·
  rintro i a13 w14 ⟨h15, hF_16, hR_17, hK_18, hi⟩
  have hfs19 := hF_16.size
  have hlt20 := hR_17.lt
  have hft := flat_take_le xs (i + 1)
  have hft0 := flat_take_le xs i
  have hbq := flat_getD xs i
  refine V.sr h15 [] 1 0 [(12, .bool (decide ((i : Int) < ((xs.length : Nat) : Int))))] fun a h23 => ?_
  refine V.seq fun K24 k25 => ?_
  refine V.cp h23 ((i : Int) < ((xs.length : Nat) : Int)) (fun ht26 => ?_) (fun ht26 => ?_)
  ·
   refine V.skip ?_
   refine V.then_n (k25 _ _ ?_)
   refine V.seq fun K27 k28 => ?_
   refine V.block ?_
   obtain ⟨A31, c32, hv33⟩ := hK_18.getA hl (i := i) (by omega) nilS
   have hS34 := hK_18.slA hl (i := i) (by omega) hv33
   refine V.sr h23 [(0, .ix g 0 xs.length xs.length .i64 (i : Int) 1 rfl), (0, .l ⟨g, 0 + (i : Int).toNat * 1, none⟩ (.slice A31 ((xs.getD i []).length) c32) ((hR_17.at i nilS (by omega)).trans (congrArg some hv33)))] 13 14 [(5, .slice A31 ((xs.getD i []).length) c32)] fun a h35 => ?_
   refine V.sr h35 [(3, .i ((((xs.take i).flatten.length : Nat) : Int) + (((xs.getD i []).length : Nat) : Int)))] 15 18 [(3, .int .i64 ((((xs.take i).flatten.length : Nat) : Int) + (((xs.getD i []).length : Nat) : Int)))] fun a h38 => ?_
   refine V.seq fun K39 k40 => ?_
   have htk : (xs.take (i + 1)).flatten = (xs.take i).flatten ++ xs.getD i [] := flat_take (by omega)
   have hln : ((xs.take (i + 1)).flatten).length = ((xs.take i).flatten).length + (xs.getD i []).length := by rw [htk, List.length_append]
   refine V.rr h38 [] 19 19 [(20, .bool (decide (((((xs.take i).flatten.length : Nat) : Int) + (((xs.getD i []).length : Nat) : Int)) < 0)))] fun a h41 => ?_
   refine V.then_n (k40 _ _ ?_)
   refine V.cp h41 (((((xs.take i).flatten.length : Nat) : Int) + (((xs.getD i []).length : Nat) : Int)) < 0) (fun ht42 => ?_) (fun ht42 => ?_)
   · exact absurd ht42 (by omega)
   ·
    refine V.skip (V.blk_n ?_)
    refine V.then_n (k28 _ _ ?_)
    refine V.rr h41 [(0, .i ((i : Int) + 1))] 22 22 [(11, .int .i64 ((i : Int) + 1))] fun a h43 => ?_
    refine V.then_n ?_
    refine ⟨i + 1, by omega, ?_⟩
    refine ⟨((h43.eq 3 (v := (.int .i64 ((((xs.take i).flatten.length : Nat) : Int) + (((xs.getD i []).length : Nat) : Int)))) (u := (.int .i64 (((xs.take (i + 1)).flatten.length : Nat) : Int))) (V.int_eq (by omega))).eq 11 (v := (.int .i64 ((i : Int) + 1))) (u := (.int .i64 ((i + 1) : Int))) (V.int_eq (by omega))).only _, hF_16, hR_17, hK_18, (by omega)⟩
  ·
   refine V.exit (V.then_e (V.then_e (V.blk_hit ?_)))
   refine V.then_n (k9 _ _ ?_)
   refine V.seq fun K44 k45 => ?_
   have hft9 := flat_take_le xs i
   refine V.rg ?_
   refine V.run h23 [] 1 1 0 [(23, .int .i64 (((xs.take i).flatten.length : Nat) : Int))] fun a h46 => ?_
   refine V.cl h46 (Go.Proofs.enters_of Try.func82 (by kernel_rfl) rfl) (grow_any w14 ((xs.take i).flatten.length) (by omega)) ?_
   rintro _ w51 ⟨A47, c48, rfl, hO49, hF50⟩
   refine ⟨_, rfl, fun a h52 => ?_⟩
   have hsw51 := hF50.size
   have hF_53 := hF_16.new hF50
   have hR_54 := hR_17.fr0 hF50
   have hK_55 := hK_18.fr0 hF50
   have hO49q := hO49.rebase (base' := w.heap.size) (by omega)
   refine V.re h52 [] 1 0 [(6, .slice A47 0 c48)] fun a h56 => k45 _ _ ?_
   refine V.seq fun K57 k58 => ?_
   refine V.sr h56 [] 1 0 [(25, .slice (some ⟨g, 0, none⟩) xs.length xs.length), (26, .int .i64 ((xs.length : Nat) : Int)), (27, .int .i64 0)] fun a h61 => ?_
   refine V.block ?_
   refine V.loop3 (fun (i2 : Nat) (A2 : Option Addr) (c2 : Nat) a_ w_ => En 36 [] a_ [(6, .slice A2 ((xs.take i2).flatten.length) c2), (25, .slice (some ⟨g, 0, none⟩) xs.length xs.length), (26, .int .i64 ((xs.length : Nat) : Int)), (27, .int .i64 (i2 : Int))] ∧ OwR itI NoZ w_ w.heap.size 86 (.slice A2 ((xs.take i2).flatten.length) c2) ((xs.take i2).flatten) ∧ Fr [] w w_ ∧ Row idV w_ g vs 87 ∧ Bks itI w_ 86 H (av) (vs ++ vsB) (xs ++ xsB) ∧ (i2 ≤ xs.length)) (fun (i2 : Nat) (A2 : Option Addr) (c2 : Nat) => xs.length - i2) 0 A47 c48 ?_ ?_
   ·
    refine ⟨((h61.eq 6 (v := (.slice A47 0 c48)) (u := (.slice A47 ((xs.take 0).flatten.length) c48)) (V.sl_eq (by simp))).eq 27 (v := (.int .i64 0)) (u := (.int .i64 (0 : Int))) (V.int_eq (by omega))).only _, (by simpa using hO49q), hF_53, hR_54, hK_55, (by omega)⟩
   ·
    rintro i2 A2 c2 a62 w63 ⟨h64, hO_65, hF_66, hR_67, hK_68, hi2⟩
    have hfs69 := hF_66.size
    have hlt70 := hR_67.lt
    have hft := flat_take_le xs (i2 + 1)
    have hft0 := flat_take_le xs i2
    have hbq := flat_getD xs i2
    refine V.sr h64 [] 1 0 [(28, .bool (decide ((i2 : Int) < ((xs.length : Nat) : Int))))] fun a h73 => ?_
    refine V.seq fun K74 k75 => ?_
    refine V.cp h73 ((i2 : Int) < ((xs.length : Nat) : Int)) (fun ht76 => ?_) (fun ht76 => ?_)
    ·
     refine V.skip ?_
     refine V.then_n (k75 _ _ ?_)
     refine V.seq fun K77 k78 => ?_
     refine V.block ?_
     obtain ⟨A81, c82, hv83⟩ := hK_68.getA hl (i := i2) (by omega) nilS
     have hS84 := hK_68.slA hl (i := i2) (by omega) hv83
     refine V.sr h73 [(0, .ix g 0 xs.length xs.length .i64 (i2 : Int) 1 rfl), (0, .l ⟨g, 0 + (i2 : Int).toNat * 1, none⟩ (.slice A81 ((xs.getD i2 []).length) c82) ((hR_67.at i2 nilS (by omega)).trans (congrArg some hv83)))] 29 30 [(8, .slice A81 ((xs.getD i2 []).length) c82)] fun a h85 => ?_
     refine V.rg ?_
     refine V.run h85 [] 2 1 0 [(31, .slice A2 ((xs.take i2).flatten.length) c2), (32, .slice A81 ((xs.getD i2 []).length) c82)] fun a h91 => ?_
     refine V.go (V.appS (R := itI) (h91.e (v := (.slice A2 ((xs.take i2).flatten.length) c2))) (h91.e (v := (.slice A81 ((xs.getD i2 []).length) c82))) (by kernel_rfl) info86 (by kernel_rfl) (by decide) hO_65 hS84 (fun _ _ h => h) (by (try simp only [List.length_append]); omega) (by decide) (by omega) ?_)
     intro A86 c87 w88 hO89 hF90
     have hsw88 := hF90.size
     have hF_92 := hF_66.own hF90 (own_ge hO_65 (by omega))
     have hR_93 := hR_67.fr hF90 (by first | exact own_notin hO_65 (by omega) | exact own_notin2 hO_65 (by omega))
     have hK_94 := hK_68.frP (FrP.of hF90) (fun k hk => .inr (fun hq => by have h1 := hHb k hq; have h2 := own_ge hO_65 (Nat.le_refl _) k hk; omega))
     refine V.pt h91 fun a h95 => ?_
     refine V.re h95 [] 1 0 [(6, .slice A86 (((xs.take i2).flatten).length + (xs.getD i2 []).length) c87)] fun a h96 => ?_
     refine V.blk_n ?_
     refine V.then_n (k78 _ _ ?_)
     refine V.rr h96 [(0, .i ((i2 : Int) + 1))] 34 34 [(27, .int .i64 ((i2 : Int) + 1))] fun a h97 => ?_
     refine V.then_n ?_
     have htk : (xs.take (i2 + 1)).flatten = (xs.take i2).flatten ++ xs.getD i2 [] := flat_take (by omega)
     have hln : ((xs.take (i2 + 1)).flatten).length = ((xs.take i2).flatten).length + (xs.getD i2 []).length := by rw [htk, List.length_append]
     refine ⟨i2 + 1, A86, c87, by omega, ?_⟩
     refine ⟨((h97.eq 6 (v := (.slice A86 (((xs.take i2).flatten).length + (xs.getD i2 []).length) c87)) (u := (.slice A86 ((xs.take (i2 + 1)).flatten.length) c87)) (V.sl_eq hln.symm)).eq 27 (v := (.int .i64 ((i2 : Int) + 1))) (u := (.int .i64 ((i2 + 1) : Int))) (V.int_eq (by omega))).only _, (by rw [hln, htk]; exact hO89), hF_92, hR_93, hK_94, (by omega)⟩
    ·
     refine V.exit (V.then_e (V.then_e (V.blk_hit ?_)))
     refine V.then_n (k58 _ _ ?_)
     refine V.sr h73 [] 35 35 [(2, .slice A2 ((xs.take i2).flatten.length) c2)] fun a h100 => ?_
     refine V.ret ?_
     refine V.r1 h100 (.slice A2 ((xs.take i2).flatten.length) c2) ?_
     have hq : (xs.take i2).flatten = xs.flatten := by rw [List.take_of_length_le (by omega)]
     rw [hq] at hO_65 ⊢
     exact ⟨_, _, rfl, hO_65, hF_66⟩
theorem items_N (w : World) (H : Nat → Prop) (av : List Nat) (t gA : Nat) (vsA : List Value) (T : Tb Int) (hok : T.Ok) (hT : TabN 67 87 86 itI w H av t gA vsA T) (hHb : ∀ k, H k → k < w.heap.size) (hb : T.b.length = 0) : Calls Try.prog 70 #[.pointer (some ⟨t, 0, none⟩)] w (fun e w' => ∃ A c, e = .returned (.slice A T.n c) ∧ OwR itI NoZ w' w.heap.size 86 (.slice A T.n c) (T.a ++ T.b).flatten ∧ Fr [] w w') := by
 have hF := Fr.refl [] w
 have hok0 := hok
 have hsum := hok.sum
 obtain ⟨hsd, hpa, hla, hlb, hmv, hmz, hnn, hcn, hks⟩ := hok
 obtain ⟨hB, hRA, hlA, hK, hne, hpt, hpg⟩ := hT
 have hltt := hB.lt
 have hltg := hRA.lt
 refine V.en 19 Try.func70 fun a h1 => ?_
 refine V.sr h1 [] 2 2 [] fun a h4 => ?_
 refine V.seq fun K5 k6 => ?_
 refine V.sg fun K7 k8 => ?_
 refine V.run h4 [] 1 1 0 [(3, .pointer (some ⟨t, 0, none⟩))] fun a h9 => ?_
 refine V.cl h9 (Go.Proofs.enters_of Try.func51 (by kernel_rfl) rfl) (made_N w t T.seed T.a.length 0 0 gA 0 (.int .i64 (T.moved : Int)) (.int .i64 (T.n : Int)) hB) ?_
 rintro _ w11 ⟨rfl, hF10⟩
 refine ⟨_, rfl, fun a h12 => ?_⟩
 have hsw11 := hF10.size
 have hF_13 := hF.new hF10
 have hB_14 := hB.fr0 hF10
 have hRA_15 := hRA.fr0 hF10
 have hK_16 := hK.fr0 hF10
 refine V.re h12 [] 1 0 [(5, .bool false)] fun a h17 => k8 _ _ ?_
 refine V.cf h17 ?_
 refine V.skip ?_
 refine V.then_n (k6 _ _ ?_)
 refine V.seq fun K18 k19 => ?_
 refine V.pl [([0,1,2,3,4,6,7,8,9,10],some (5,[10])),([],some (11,[])),([],some (12,[])),([13],none)] fun w20 hF21 hsw20 => ?_
 have hF_22 := hF_13.new hF21
 have hB_23 := hB_14.fr0 hF21
 have hRA_24 := hRA_15.fr0 hF21
 have hK_25 := hK_16.fr0 hF21
 refine V.pe h17 [(4, .b hB_23 1), (4, .b hB_23 2)] 6 14 [(10, .slice (some ⟨gA, 0, none⟩) T.a.length T.a.length), (15, .pointer (some ⟨t, 2, none⟩)), (16, .slice none 0 0)] fun a h26 => ?_
 refine V.cl h26 (Go.Proofs.enters_of Try.func79 (by kernel_rfl) rfl) (concat_row w20 _ _ gA vsA ([]) T.a ([]) hRA_24 hlA hK_25 (fun k hk => by have := hHb k hk; omega) (by omega) (by omega)) ?_
 rintro _ w33 ⟨A27, c28, rfl, hO29, hF30⟩
 refine ⟨_, rfl, fun a h34 => ?_⟩
 have hsw33 := hF30.size
 have hF_35 := hF_22.new hF30
 have hB_36 := hB_23.fr0 hF30
 have hO29q := hO29.rebase (base' := w.heap.size) (by omega)
 refine V.eh (fun _ => held_blk (n := 1) (hx := (h26.e (v := (.pointer (some ⟨t, 2, none⟩))))) hB_23 hB_36 (by kernel_rfl) rfl (by simp only [List.length]; omega)) ?_
 refine V.pe h34 [] 1 0 [] fun a h39 => ?_
 refine V.cl h39 (Go.Proofs.enters_of Try.func79 (by kernel_rfl) rfl) (concat_nil w33) ?_
 rintro _ w45 ⟨A40, c41, rfl, hO42, hF43⟩
 refine ⟨_, rfl, fun a h46 => ?_⟩
 have hsw45 := hF43.size
 have hF_47 := hF_35.new hF43
 have hO29q_51 := hO29q.fr0 hF43
 have hS44 := hO42.read (Z' := fun _ => True) (fun _ _ _ => trivial) (fun _ _ _ => trivial)
 refine V.eh trivial ?_
 refine V.pe h46 [] 1 0 [] fun a h52 => ?_
 refine V.go (V.appS (R := itI) (h52.e (v := (.slice A27 T.a.flatten.length c28))) (h52.e (v := (.slice A40 0 c41))) (by kernel_rfl) info86 (by kernel_rfl) (by decide) hO29q_51 hS44 (fun _ _ h => h) (by (try simp only [List.length_nil]); omega) (by decide) (by omega) ?_)
 intro A53 c54 w55 hO56 hF57
 have hsw55 := hF57.size
 have hF_58 := hF_47.own hF57 (own_ge hO29q_51 (by omega))
 refine V.pt h52 fun a h62 => ?_
 refine V.eh trivial ?_
 refine V.pz h62 [] 1 0 [(2, .slice A53 ((T.a.flatten).length + (([] : List (ByteArray × Int))).length) c54)] fun a h63 => k19 _ _ ?_
 refine V.ret ?_
 refine V.r1 h63 (.slice A53 ((T.a.flatten).length + (([] : List (ByteArray × Int))).length) c54) ?_
 have hq : T.a.flatten ++ ([] : List (ByteArray × Int)) = (T.a ++ T.b).flatten := by rw [List.flatten_append, List.eq_nil_of_length_eq_zero hb]; simp only [List.flatten_nil]
 have hn : (T.a.flatten).length + (([] : List (ByteArray × Int))).length = T.n := by rw [← hok0.cn, ← hq]; simp
 rw [hn, hq] at hO56
 rw [hn]
 exact ⟨_, _, rfl, hO56, hF_58⟩
theorem items_M (w : World) (H : Nat → Prop) (av : List Nat) (t gA gB : Nat) (vsA vsB : List Value) (T : Tb Int) (hok : T.Ok) (hT : TabM 67 87 86 itI w H av t gA gB vsA vsB T) (hHb : ∀ k, H k → k < w.heap.size) (hb : T.b.length ≠ 0) : Calls Try.prog 70 #[.pointer (some ⟨t, 0, none⟩)] w (fun e w' => ∃ A c, e = .returned (.slice A T.n c) ∧ OwR itI NoZ w' w.heap.size 86 (.slice A T.n c) (T.a ++ T.b).flatten ∧ Fr [] w w') := by
 have hF := Fr.refl [] w
 have hok0 := hok
 have hsum := hok.sum
 obtain ⟨hsd, hpa, hla, hlb, hmv, hmz, hnn, hcn, hks⟩ := hok
 obtain ⟨hB, hRA, hRB, hlA, hlB, hK, hne, hne2, hne3, hpt, hpg, hph⟩ := hT
 have hltg2 := hRB.lt
 have hltt := hB.lt
 have hltg := hRA.lt
 refine V.en 19 Try.func70 fun a h1 => ?_
 refine V.sr h1 [] 2 2 [] fun a h4 => ?_
 refine V.seq fun K5 k6 => ?_
 refine V.sg fun K7 k8 => ?_
 refine V.run h4 [] 1 1 0 [(3, .pointer (some ⟨t, 0, none⟩))] fun a h9 => ?_
 refine V.cl h9 (Go.Proofs.enters_of Try.func51 (by kernel_rfl) rfl) (made_M w t T.seed T.a.length T.b.length 0 gA gB (.int .i64 (T.moved : Int)) (.int .i64 (T.n : Int)) hB) ?_
 rintro _ w11 ⟨rfl, hF10⟩
 refine ⟨_, rfl, fun a h12 => ?_⟩
 have hsw11 := hF10.size
 have hF_13 := hF.new hF10
 have hB_14 := hB.fr0 hF10
 have hRA_15 := hRA.fr0 hF10
 have hRB_16 := hRB.fr0 hF10
 have hK_17 := hK.fr0 hF10
 refine V.re h12 [] 1 0 [(5, .bool false)] fun a h18 => k8 _ _ ?_
 refine V.cf h18 ?_
 refine V.skip ?_
 refine V.then_n (k6 _ _ ?_)
 refine V.seq fun K19 k20 => ?_
 refine V.pl [([0,1,2,3,4,6,7,8,9,10],some (5,[10])),([],some (11,[])),([],some (12,[])),([13],none)] fun w21 hF22 hsw21 => ?_
 have hF_23 := hF_13.new hF22
 have hB_24 := hB_14.fr0 hF22
 have hRA_25 := hRA_15.fr0 hF22
 have hRB_26 := hRB_16.fr0 hF22
 have hK_27 := hK_17.fr0 hF22
 refine V.pe h18 [(4, .b hB_24 1), (4, .b hB_24 2)] 6 14 [(10, .slice (some ⟨gA, 0, none⟩) T.a.length T.a.length), (15, .pointer (some ⟨t, 2, none⟩)), (16, .slice (some ⟨gB, 0, none⟩) T.b.length T.b.length)] fun a h28 => ?_
 refine V.cl h28 (Go.Proofs.enters_of Try.func79 (by kernel_rfl) rfl) (concat_row w21 _ _ gA vsA vsB T.a T.b hRA_25 hlA hK_27 (fun k hk => by have := hHb k hk; omega) (by omega) (by omega)) ?_
 rintro _ w35 ⟨A29, c30, rfl, hO31, hF32⟩
 refine ⟨_, rfl, fun a h36 => ?_⟩
 have hsw35 := hF32.size
 have hF_37 := hF_23.new hF32
 have hB_38 := hB_24.fr0 hF32
 have hRB_40 := hRB_26.fr0 hF32
 have hK_41 := hK_27.fr0 hF32
 have hO31q := hO31.rebase (base' := w.heap.size) (by omega)
 refine V.eh (fun _ => held_blk (n := 1) (hx := (h28.e (v := (.pointer (some ⟨t, 2, none⟩))))) hB_24 hB_38 (by kernel_rfl) rfl (by simp only [List.length]; omega)) ?_
 refine V.pe h36 [] 1 0 [] fun a h42 => ?_
 refine V.cl h42 (Go.Proofs.enters_of Try.func79 (by kernel_rfl) rfl) (concat_row w35 _ _ gB vsB [] T.b [] hRB_40 hlB (by have h := hK_41.dropNil hlA; rw [List.append_nil, List.append_nil]; exact h) (fun k hk => by have := hHb k hk; omega) (by omega) (by omega)) ?_
 rintro _ w49 ⟨A43, c44, rfl, hO45, hF46⟩
 refine ⟨_, rfl, fun a h50 => ?_⟩
 have hsw49 := hF46.size
 have hF_51 := hF_37.new hF46
 have hO31q_56 := hO31q.fr0 hF46
 have hS47 := hO45.read (Z' := fun _ => True) (fun _ _ _ => trivial) (fun _ _ _ => trivial)
 refine V.eh trivial ?_
 refine V.pe h50 [] 1 0 [] fun a h57 => ?_
 refine V.go (V.appS (R := itI) (h57.e (v := (.slice A29 T.a.flatten.length c30))) (h57.e (v := (.slice A43 T.b.flatten.length c44))) (by kernel_rfl) info86 (by kernel_rfl) (by decide) hO31q_56 hS47 (fun _ _ h => h) (by (try simp only [List.length_nil]); omega) (by decide) (by omega) ?_)
 intro A58 c59 w60 hO61 hF62
 have hsw60 := hF62.size
 have hF_63 := hF_51.own hF62 (own_ge hO31q_56 (by omega))
 refine V.pt h57 fun a h68 => ?_
 refine V.eh trivial ?_
 refine V.pz h68 [] 1 0 [(2, .slice A58 ((T.a.flatten).length + (T.b.flatten).length) c59)] fun a h69 => k20 _ _ ?_
 refine V.ret ?_
 refine V.r1 h69 (.slice A58 ((T.a.flatten).length + (T.b.flatten).length) c59) ?_
 have hq : T.a.flatten ++ T.b.flatten = (T.a ++ T.b).flatten := by rw [List.flatten_append]
 have hn : (T.a.flatten).length + (T.b.flatten).length = T.n := by rw [← hok0.cn, ← hq]; simp
 rw [hn, hq] at hO61
 rw [hn]
 exact ⟨_, _, rfl, hO61, hF_63⟩
theorem items_any (w : World) (H : Nat → Prop) (av : List Nat) (t : Nat) (T : Tb Int) (hT : TabX 67 87 86 itI w H av t T) (hHb : ∀ k, H k → k < w.heap.size) :
    Calls Try.prog 70 #[.pointer (some ⟨t, 0, none⟩)] w (fun e w' => ∃ A c, e = .returned (.slice A T.n c) ∧ OwR itI NoZ w' w.heap.size 86 (.slice A T.n c) (T.a ++ T.b).flatten ∧ Fr [] w w') := by
  rcases hT.2 with ⟨hb, gA, vsA, h⟩ | ⟨hb, gA, gB, vsA, vsB, h⟩
  · exact items_N w H av t gA vsA T hT.1 h hHb (by rw [hb]; rfl)
  · exact items_M w H av t gA gB vsA vsB T hT.1 h hHb (fun h => hb (List.eq_nil_of_length_eq_zero h))
theorem all_any (w : World) (q : Option Addr) : Calls Try.prog 43 #[.pointer q] w (fun e w' => ∃ b, e = .returned (.func (.func 69) #[] #[.pointer (some ⟨b, 0, none⟩)]) ∧ Blk w' b [.pointer q] 28 ∧ w.heap.size ≤ b ∧ Fr [] w w') := by
 have hF := Fr.refl [] w
 refine V.en 4 Try.func43 fun a h1 => ?_
 refine V.sg fun K2 k3 => ?_
 refine V.go (V.mk [(0, .pointer q)] ⟨h1.e, trivial⟩ (by kernel_rfl) [.pointer q] 28 (fun b => .pointer (some ⟨b, 0, none⟩)) (by kernel_rfl) ?_)
 intro w5 b4 heb4 hB6 hF7 hsb4
 have hF_8 := hF.new hF7
 refine V.pt h1 fun a h9 => ?_
 refine V.re h9 [] 2 2 [] fun a h10 => k3 _ _ ?_
 refine V.sr h10 [] 3 3 [(2, .func (.func 69) #[] #[.pointer (some ⟨b4, 0, none⟩)])] fun a h13 => ?_
 refine V.ret ?_
 refine V.r1 h13 (.func (.func 69) #[] #[.pointer (some ⟨b4, 0, none⟩)]) ?_
 exact ⟨b4, rfl, hB6, by omega, hF_8⟩
theorem all1_any (w : World) (H : Nat → Prop) (av : List Nat) (t : Nat) (T : Tb Int) (hT : TabX 67 87 86 itI w H av t T) (hHb : ∀ k, H k → k < w.heap.size) (b : Nat) (hB : Blk w b [.pointer (some ⟨t, 0, none⟩)] 28) (fv : Value) (I Ix : Nat → List (ByteArray × Int) → World → Prop) (hI : ∀ n pre W W', I n pre W → Fr [] W W' → I n pre W') (h0 : ∀ W1, Fr [] w W1 → I W1.heap.size [] W1) (hY : ∀ n pre x W, w.heap.size ≤ n → n ≤ W.heap.size → I n pre W → (∃ rest, pre ++ x :: rest = (T.a ++ T.b).flatten) → CallV Try.prog fv #[.string x.1, .int .i64 x.2] W (fun e W' => (e = .returned (.bool true) ∧ I n (pre ++ [x]) W' ∧ KeptP (fun k => w.heap.size ≤ k ∧ k < n) W W') ∨ (e = .returned (.bool false) ∧ Ix n (pre ++ [x]) W'))) : Calls Try.prog 69 #[fv, .pointer (some ⟨b, 0, none⟩)] w (fun e w' => (∃ v, e = .returned v) ∧ ((∃ n, w.heap.size ≤ n ∧ I n (T.a ++ T.b).flatten w') ∨ (∃ n pre, w.heap.size ≤ n ∧ (∃ rest, pre ++ rest = (T.a ++ T.b).flatten) ∧ Ix n pre w'))) := by
 have hF := Fr.refl [] w
 refine V.en 20 Try.func69 fun a h1 => ?_
 refine V.sg fun K2 k3 => ?_
 refine V.run h1 [(0, .b hB 0)] 1 1 0 [(5, .pointer (some ⟨t, 0, none⟩))] fun a h4 => ?_
 refine V.cl h4 (Go.Proofs.enters_of Try.func70 (by kernel_rfl) rfl) (items_any w (H) (av) t (T) hT (fun k hk => by have := hHb k hk; omega)) ?_
 rintro _ w10 ⟨A5, c6, rfl, hO7, hF8⟩
 refine ⟨_, rfl, fun a h11 => ?_⟩
 have hsw10 := hF8.size
 have hF_12 := hF.new hF8
 obtain ⟨n, hn⟩ : ∃ n, n = w10.heap.size := ⟨_, rfl⟩
 have hS := hO7.read (Z' := fun k => w.heap.size ≤ k ∧ k < n) (fun _ _ h => h.elim) (fun b hb hl => ⟨hb, by omega⟩)
 have hcn := hT.1.cn
 have hnn := hT.1.nn
 refine V.re h11 [] 1 0 [(7, .int .i64 ((T.n : Nat) : Int)), (8, .int .i64 0)] fun a h13 => k3 _ _ ?_
 refine V.block ?_
 refine V.loop2 (fun (i : Nat) (W0 : World) a_ w_ => En 20 [] a_ [(0, fv), (6, .slice A5 T.n c6), (7, .int .i64 ((T.n : Nat) : Int)), (8, .int .i64 (i : Int))] ∧ Fr [] W0 w_ ∧ SlR itI (fun k => w.heap.size ≤ k ∧ k < n) w_ (.slice A5 T.n c6) ((T.a ++ T.b).flatten) ∧ (i ≤ (T.a ++ T.b).flatten.length) ∧ (w.heap.size ≤ n) ∧ (n ≤ W0.heap.size) ∧ (I n ((T.a ++ T.b).flatten.take i) W0)) (fun (i : Nat) (W0 : World) => (T.a ++ T.b).flatten.length - i) 0 w10 ?_ ?_
 ·
  refine ⟨(h13.eq 8 (v := (.int .i64 0)) (u := (.int .i64 (0 : Int))) (V.int_eq (by omega))).only _, (Fr.refl [] _), hS, (by omega), (by omega), (by omega), (by rw [hn]; exact h0 _ hF_12)⟩
 ·
  rintro i W0 a14 w15 ⟨h16, hFr_17, hS_18, hi, hn0, hnl, hJ⟩
  have hfs19 := hFr_17.size
  refine V.sr h16 [] 1 0 [(9, .bool (decide ((i : Int) < ((T.n : Nat) : Int))))] fun a h22 => ?_
  refine V.seq fun K23 k24 => ?_
  refine V.cp h22 ((i : Int) < ((T.n : Nat) : Int)) (fun ht25 => ?_) (fun ht25 => ?_)
  ·
   refine V.skip ?_
   refine V.then_n (k24 _ _ ?_)
   refine V.seq fun K26 k27 => ?_
   refine V.block ?_
   obtain ⟨g30, o31, hA32, hA32l, hA32z⟩ := hS_18.addr (by omega)
   try dsimp only at hA32z
   obtain ⟨cs33, hok34, hE35⟩ := hS_18.els hA32 (i : Int) (by omega) (by omega)
   refine V.sg fun K28 k29 => ?_
   refine V.run h22 [(0, .ix g30 o31 T.n c6 .i64 (i : Int) 2 hA32)] 1 1 0 [(10, .pointer (some ⟨g30, o31 + (i : Int).toNat * 2, none⟩))] fun a h36 => ?_
   obtain rfl : cs33 = [.string (at_ itI ((T.a ++ T.b).flatten) (i : Int)).1, .int .i64 (at_ itI ((T.a ++ T.b).flatten) (i : Int)).2] := hok34
   refine V.run h36 [(0, .ls ⟨g30, o31 + (i : Int).toNat * 2, none⟩ [.string ((at_ itI ((T.a ++ T.b).flatten) (i : Int)).1), .int .i64 ((at_ itI ((T.a ++ T.b).flatten) (i : Int)).2)] (hE35.cells 0 _ rfl))] 1 1 0 [(11, .agg #[.string ((at_ itI ((T.a ++ T.b).flatten) (i : Int)).1), .int .i64 ((at_ itI ((T.a ++ T.b).flatten) (i : Int)).2)])] fun a h41 => ?_
   refine V.go (V.mk [] trivial (by kernel_rfl) [.string ⟨#[]⟩, .int .i64 0] 86 (fun b => .pointer (some ⟨b, 0, none⟩)) (by kernel_rfl) ?_)
   intro w38 b37 heb37 hB39 hF40 hsb37
   have hFr_42 := hFr_17.new hF40
   have hS_43 := hS_18.fr0 hF40
   refine V.pt h41 fun a h45 => ?_
   refine V.go (V.stn b37 0 (.agg #[.string ((at_ itI ((T.a ++ T.b).flatten) (i : Int)).1), .int .i64 ((at_ itI ((T.a ++ T.b).flatten) (i : Int)).2)]) [.string ((at_ itI ((T.a ++ T.b).flatten) (i : Int)).1), .int .i64 ((at_ itI ((T.a ++ T.b).flatten) (i : Int)).2)] h45.e h45.e rfl rfl (by kernel_rfl) hB39 (by simp) [.string ((at_ itI ((T.a ++ T.b).flatten) (i : Int)).1), .int .i64 ((at_ itI ((T.a ++ T.b).flatten) (i : Int)).2)] rfl ?_)
   intro w46 hB47 hF48 hsw46
   have hFr_49 := hFr_42.own hF48 (by simp <;> omega)
   have hS_50 := hS_43.fr hF48 (by simp <;> omega)
   refine V.nt (k29 _ _ ?_)
   refine V.sg fun K52 k53 => ?_
   refine V.run h45 [(2, .b hB47 0), (1, .b hB47 1)] 5 13 15 [(12, fv), (14, .string ((at_ itI ((T.a ++ T.b).flatten) (i : Int)).1)), (16, .int .i64 ((at_ itI ((T.a ++ T.b).flatten) (i : Int)).2))] fun a h55 => ?_
   have htk := take_at itI (l := (T.a ++ T.b).flatten) (k := i) (by omega)
   have hcall := hY n ((T.a ++ T.b).flatten.take i) (at_ itI (T.a ++ T.b).flatten (i : Int)) w46 hn0 (by omega) (hI _ _ _ _ hJ hFr_49) ⟨_, by rw [List.append_cons, ← htk]; exact List.take_append_drop (i + 1) _⟩
   refine V.go (V.callV fv #[.string ((at_ itI ((T.a ++ T.b).flatten) (i : Int)).1), .int .i64 ((at_ itI ((T.a ++ T.b).flatten) (i : Int)).2)] (h55.e (v := (fv))) (args2 (h55.e (v := (.string ((at_ itI ((T.a ++ T.b).flatten) (i : Int)).1)))) (h55.e (v := (.int .i64 ((at_ itI ((T.a ++ T.b).flatten) (i : Int)).2))))) hcall ?_)
   rintro e w54 (⟨rfl, hJ1, hkp⟩ | ⟨rfl, hJx⟩)
   ·
    refine ⟨_, rfl, ?_⟩
    rw [← htk] at hJ1
    have hS56 := hS_50.kept hkp (fun k hk => hk)
    refine V.pt h55 fun a h57 => ?_
    refine V.re h57 [] 1 0 [(18, .bool false)] fun a h58 => k53 _ _ ?_
    refine V.cf h58 ?_
    refine V.skip (V.blk_n ?_)
    refine V.then_n (k27 _ _ ?_)
    refine V.rr h58 [(0, .i ((i : Int) + 1))] 19 19 [(8, .int .i64 ((i : Int) + 1))] fun a h59 => ?_
    refine V.then_n ?_
    refine ⟨i + 1, w54, by omega, ?_⟩
    refine ⟨(h59.eq 8 (v := (.int .i64 ((i : Int) + 1))) (u := (.int .i64 ((i + 1) : Int))) (V.int_eq (by omega))).only _, (Fr.refl [] _), hS56, (by omega), (by omega), (by have := hkp.1; omega), hJ1⟩
   ·
    refine ⟨_, rfl, ?_⟩
    rw [← htk] at hJx
    refine V.pt h55 fun a h60 => ?_
    refine V.re h60 [] 1 0 [(18, .bool true)] fun a h61 => k53 _ _ ?_
    refine V.ct h61 ?_
    refine V.ret (V.blk_r (V.then_r (V.then_r (V.blk_r ?_))))
    refine V.r0 h61 ?_
    exact ⟨⟨_, rfl⟩, .inr ⟨n, _, hn0, ⟨_, List.take_append_drop (i + 1) _⟩, hJx⟩⟩
  ·
   refine V.exit (V.then_e (V.then_e (V.blk_hit ?_)))
   refine V.e0 h22 ?_
   exact ⟨⟨_, rfl⟩, .inl ⟨n, hn0, by have h := hI _ _ _ _ hJ hFr_17; rwa [List.take_of_length_le (by omega)] at h⟩⟩
theorem info60 : (Try.prog.info? 60).map (fun i => (i.zero, i.size, i.bytes)) = some (some (.agg #[.string ⟨#[]⟩, .int .i64 0]), 2, 24) := by kernel_rfl
theorem info42 : (Try.prog.info? 42).map (fun i => (i.zero, i.size, i.bytes)) = some (some (.slice none 0 0), 1, 24) := by kernel_rfl
def rfT {α : Type} (T : Tb α) (k : ByteArray) : Int × Int × Int := if (findT T k).2 = true then (findT T k).1 else (-1, 0, 0)
theorem rfT_yes {α : Type} {T : Tb α} {k : ByteArray} {p : Int × Int × Int} (h : findT T k = (p, true)) : rfT T k = p := by unfold rfT; rw [h]; rfl
theorem rfT_no {α : Type} {T : Tb α} {k : ByteArray} {p : Int × Int × Int} (h : findT T k = (p, false)) : rfT T k = (-1, 0, 0) := by unfold rfT; rw [h]; rfl
theorem rbucket_blk (w : World) (t : Nat) (seed : Nat) (v1 v2 m1 m2 : Value) (hB : Blk w t [.int .u64 (seed : Int), v1, v2, m1, m2] 40) (n : Nat) (k : ByteArray) (hsd : seed < 18446744073709551616) (hk : k.size ≤ 9223372036854775807) (hn : 0 < n) (hn2 : n ≤ 4398046511104) : Calls Try.prog 72 #[.pointer (some ⟨t, 0, none⟩), .int .i64 (n : Int), .string k] w (fun e w' => e = .returned (.int .i64 ((bkt seed n k : Nat) : Int)) ∧ Fr [] w w') := by
 have hF := Fr.refl [] w
 have hbk := bkt_lt seed k hn
 refine V.en 17 Try.func72 fun a h1 => ?_
 refine V.sr h1 [] 6 6 [] fun a h4 => ?_
 refine V.sg fun K5 k6 => ?_
 refine V.run h4 [(3, .b hB 0)] 5 7 9 [(10, .int .u64 (seed : Int)), (11, .string k)] fun a h7 => ?_
 refine V.cl h7 (Go.Proofs.enters_of Try.func12 (by kernel_rfl) rfl) (rhash_any w seed k (by omega) (by omega)) ?_
 rintro _ w9 ⟨rfl, hF8⟩
 refine ⟨_, rfl, fun a h10 => ?_⟩
 have hsw9 := hF8.size
 have hF_11 := hF.new hF8
 have hhl8 := hashN_lt (seed := seed) (by omega) k
 refine V.re h10 [(1, .q (.int .u64 (n : Int)) (V.w_u64 (by omega) (by omega))), (0, .remN .u64 (hashN seed k) n), (0, .q (.int .i64 ((bkt seed n k : Nat) : Int)) (V.w_i64 (by omega) (by omega)))] 13 16 [(6, .int .i64 ((bkt seed n k : Nat) : Int))] fun a h13 => k6 _ _ ?_
 refine V.ret ?_
 refine V.r1 h13 (.int .i64 ((bkt seed n k : Nat) : Int)) ?_
 exact ⟨rfl, hF_11⟩
theorem rin_any (w : World) (Z : Nat → Prop) (A0 : Option Addr) (c0 : Nat) (l : List (ByteArray × Int)) (k : ByteArray) (hS : SlR itI Z w (.slice A0 l.length c0) l) : Calls Try.prog 80 #[.slice A0 l.length c0, .string k] w (fun e w' => e = .returned (.int .i64 (ixI l k)) ∧ Fr [] w w') := by
 have hF := Fr.refl [] w
 have hlen0 := hS.len_le
 refine V.en 20 Try.func80 fun a h1 => ?_
 refine V.sr h1 [] 4 4 [] fun a h4 => ?_
 refine V.seq fun K5 k6 => ?_
 refine V.sr h4 [] 1 0 [(5, .int .i64 0)] fun a h9 => ?_
 refine V.block ?_
 refine V.loop1 (fun (i : Nat) a_ w_ => En 20 [] a_ [(0, .slice A0 l.length c0), (1, .string k), (5, .int .i64 (i : Int))] ∧ Fr [] w w_ ∧ SlR itI Z w_ (.slice A0 l.length c0) l ∧ (i ≤ l.length) ∧ (∀ (j : Nat) (x : ByteArray × Int), j < i → l[j]? = some x → x.1 ≠ k)) (fun (i : Nat) => l.length - i) 0 ?_ ?_
 ·
  refine ⟨(h9.eq 5 (v := (.int .i64 0)) (u := (.int .i64 (0 : Int))) (V.int_eq (by omega))).only _, hF, hS, (by omega), (fun j x hj => by omega)⟩
 ·
  rintro i a10 w11 ⟨h12, hF_13, hS_14, hi, hmiss⟩
  have hfs15 := hF_13.size
  refine V.seq fun K16 k17 => ?_
  refine V.sr h12 [] 6 8 [(9, .bool (decide ((i : Int) < ((l.length : Nat) : Int))))] fun a h20 => ?_
  refine V.cp h20 ((i : Int) < ((l.length : Nat) : Int)) (fun ht21 => ?_) (fun ht21 => ?_)
  ·
   refine V.skip ?_
   refine V.then_n (k17 _ _ ?_)
   refine V.seq fun K22 k23 => ?_
   refine V.block ?_
   obtain ⟨g26, o27, hA28, hA28l, hA28z⟩ := hS_14.addr (by omega)
   obtain ⟨cs29, hok30, hE31⟩ := hS_14.els hA28 (i : Int) (by omega) (by omega)
   refine V.sg fun K24 k25 => ?_
   refine V.run h20 [(2, .ix g26 o27 l.length c0 .i64 (i : Int) 2 hA28)] 4 12 14 [(15, .pointer (some ⟨g26, o27 + (i : Int).toNat * 2, none⟩))] fun a h32 => ?_
   obtain rfl : cs29 = [.string (at_ itI l (i : Int)).1, .int .i64 (at_ itI l (i : Int)).2] := hok30
   refine V.re h32 [(0, .l ⟨g26, o27 + (i : Int).toNat * 2, none⟩ (.string ((at_ itI l (i : Int)).1)) (hE31.at 0 rfl)), (1, .seq ((at_ itI l (i : Int)).1) k)] 16 17 [(18, .bool (decide (((at_ itI l (i : Int)).1) = k)))] fun a h33 => k25 _ _ ?_
   refine V.cp h33 (((at_ itI l (i : Int)).1) = k) (fun ht34 => ?_) (fun ht34 => ?_)
   ·
    refine V.sr h33 [] 19 19 [(4, .int .i64 (i : Int))] fun a h37 => ?_
    refine V.ret (V.blk_r (V.then_r (V.then_r (V.blk_r (V.then_r ?_)))))
    refine V.r1 h37 (.int .i64 (i : Int)) ?_
    exact ⟨congrArg Ending.returned (int_eq (hit_end itI hmiss (by omega) ht34).symm), hF_13⟩
   ·
    refine V.skip (V.blk_n ?_)
    refine V.then_n (k23 _ _ ?_)
    refine V.rr h33 [(1, .i ((i : Int) + 1))] 10 11 [(5, .int .i64 ((i : Int) + 1))] fun a h38 => ?_
    refine V.then_n ?_
    refine ⟨i + 1, by omega, ?_⟩
    refine ⟨(h38.eq 5 (v := (.int .i64 ((i : Int) + 1))) (u := (.int .i64 ((i + 1) : Int))) (V.int_eq (by omega))).only _, hF_13, hS_14, (by omega), (miss_step itI hmiss (by omega) ht34)⟩
  ·
   refine V.exit (V.then_e (V.then_e (V.blk_hit ?_)))
   refine V.then_n (k6 _ _ ?_)
   refine V.sr h20 [] 1 0 [(4, .int .i64 (-1))] fun a h41 => ?_
   refine V.ret ?_
   refine V.r1 h41 (.int .i64 (-1)) ?_
   exact ⟨congrArg Ending.returned (int_eq (miss_end hmiss (by omega)).symm), hF_13⟩
theorem rfind_N (w : World) (H : Nat → Prop) (av : List Nat) (t gA : Nat) (vsA : List Value) (T : Tb Int) (hok : T.Ok) (hT : TabN 40 42 60 itI w H av t gA vsA T) (k : ByteArray) (hk : k.size ≤ 9223372036854775807) (hb : T.b.length = 0) : Calls Try.prog 71 #[.pointer (some ⟨t, 0, none⟩), .string k] w (fun e w' => e = .returned (.tuple #[.int .i64 (rfT T k).1, .int .i64 (rfT T k).2.1, .int .i64 (rfT T k).2.2]) ∧ Fr [] w w') := by
 have hF := Fr.refl [] w
 obtain ⟨hsd, hpa, hla, hlb, hmv, hmz, hnn, hcn, hks⟩ := hok
 obtain ⟨hB, hRA, hlA, hK, hne, hpt, hpg⟩ := hT
 have hltt := hB.lt
 have hltg := hRA.lt
 refine V.en 57 Try.func71 fun a h1 => ?_
 refine V.sr h1 [] 4 6 [] fun a h4 => ?_
 refine V.sg fun K5 k6 => ?_
 refine V.run h4 [(4, .b hB 1)] 7 10 13 [(9, .pointer (some ⟨t, 0, none⟩)), (14, .int .i64 ((T.a.length : Nat) : Int)), (15, .string k)] fun a h7 => ?_
 refine V.cl h7 (Go.Proofs.enters_of Try.func72 (by kernel_rfl) rfl) (rbucket_blk w t T.seed (.slice (some ⟨gA, 0, none⟩) T.a.length T.a.length) (.slice none 0 0) (.int .i64 (T.moved : Int)) (.int .i64 (T.n : Int)) hB T.a.length k  (by omega) (by omega) (by omega) (by omega)) ?_
 rintro _ w9 ⟨rfl, hF8⟩
 refine ⟨_, rfl, fun a h10 => ?_⟩
 have hsw9 := hF8.size
 have hF_11 := hF.new hF8
 have hB_12 := hB.fr0 hF8
 have hRA_13 := hRA.fr0 hF8
 have hK_14 := hK.fr0 hF8
 have hbl8 := bkt_lt T.seed k (n := T.a.length) (by omega)
 refine V.re h10 [] 1 0 [(7, .int .i64 ((bkt T.seed T.a.length k : Nat) : Int))] fun a h15 => k6 _ _ ?_
 obtain ⟨A18, c19, hv20⟩ := hK_14.getA hlA (i := (bkt T.seed T.a.length k)) (by omega) nilS
 have hS21 := hK_14.slA hlA (i := (bkt T.seed T.a.length k)) (by omega) hv20
 refine V.sg fun K16 k17 => ?_
 refine V.run h15 [(3, .b hB_12 1), (1, .ix gA 0 T.a.length T.a.length .i64 ((bkt T.seed T.a.length k : Nat) : Int) 1 rfl), (0, .l ⟨gA, 0 + ((bkt T.seed T.a.length k : Nat) : Int).toNat * 1, none⟩ (.slice A18 ((T.a.getD (bkt T.seed T.a.length k) []).length) c19) ((hRA_13.at (bkt T.seed T.a.length k) nilS (by omega)).trans (congrArg some hv20)))] 8 17 22 [(23, .slice A18 ((T.a.getD (bkt T.seed T.a.length k) []).length) c19), (24, .string k)] fun a h22 => ?_
 refine V.cl h22 (Go.Proofs.enters_of Try.func80 (by kernel_rfl) rfl) (rin_any w9 _ A18 c19 (T.a.getD (bkt T.seed T.a.length k) []) k hS21) ?_
 rintro _ w24 ⟨rfl, hF23⟩
 refine ⟨_, rfl, fun a h25 => ?_⟩
 have hsw24 := hF23.size
 have hF_26 := hF_11.new hF23
 have hB_27 := hB_12.fr0 hF23
 have hix23 := ixI_lt (T.a.getD (bkt T.seed T.a.length k) []) k
 refine V.re h25 [] 1 0 [(8, .int .i64 (ixI (T.a.getD (bkt T.seed T.a.length k) []) k))] fun a h31 => k17 _ _ ?_
 refine V.seq fun K32 k33 => ?_
 refine V.sr h31 [] 26 26 [(27, .bool (decide ((ixI (T.a.getD (bkt T.seed T.a.length k) []) k) ≥ 0)))] fun a h36 => ?_
 refine V.cp h36 ((ixI (T.a.getD (bkt T.seed T.a.length k) []) k) ≥ 0) (fun ht37 => ?_) (fun ht37 => ?_)
 ·
  refine V.sr h36 [] 28 29 [(4, .int .i64 0), (5, .int .i64 ((bkt T.seed T.a.length k : Nat) : Int)), (6, .int .i64 (ixI (T.a.getD (bkt T.seed T.a.length k) []) k))] fun a h40 => ?_
  refine V.ret (V.then_r ?_)
  refine V.r3 h40 (.int .i64 0) (.int .i64 ((bkt T.seed T.a.length k : Nat) : Int)) (.int .i64 (ixI (T.a.getD (bkt T.seed T.a.length k) []) k)) ?_
  refine ⟨?_, hF_26⟩
  have hr : rfT T k = (0, ((bkt T.seed T.a.length k : Nat) : Int), ixI (T.a.getD (bkt T.seed T.a.length k) []) k) := rfT_yes (by unfold findT; rw [if_pos (by omega)])
  rw [hr]
 ·
  refine V.skip ?_
  refine V.then_n (k33 _ _ ?_)
  refine V.seq fun K41 k42 => ?_
  refine V.sr h36 [(3, .b hB_27 2)] 30 34 [(35, .bool false)] fun a h45 => ?_
  refine V.cf h45 ?_
  refine V.skip ?_
  refine V.then_n (k42 _ _ ?_)
  refine V.sr h45 [] 1 0 [(4, .int .i64 (-1)), (5, .int .i64 0), (6, .int .i64 0)] fun a h48 => ?_
  refine V.ret ?_
  refine V.r3 h48 (.int .i64 (-1)) (.int .i64 0) (.int .i64 0) ?_
  refine ⟨?_, hF_26⟩
  have hr : rfT T k = ((-1), 0, 0) := rfT_no (by unfold findT; rw [if_neg (by omega), if_neg (by omega)])
  rw [hr]
theorem rfind_M (w : World) (H : Nat → Prop) (av : List Nat) (t gA gB : Nat) (vsA vsB : List Value) (T : Tb Int) (hok : T.Ok) (hT : TabM 40 42 60 itI w H av t gA gB vsA vsB T) (k : ByteArray) (hk : k.size ≤ 9223372036854775807) (hb : T.b.length ≠ 0) : Calls Try.prog 71 #[.pointer (some ⟨t, 0, none⟩), .string k] w (fun e w' => e = .returned (.tuple #[.int .i64 (rfT T k).1, .int .i64 (rfT T k).2.1, .int .i64 (rfT T k).2.2]) ∧ Fr [] w w') := by
 have hF := Fr.refl [] w
 obtain ⟨hsd, hpa, hla, hlb, hmv, hmz, hnn, hcn, hks⟩ := hok
 obtain ⟨hB, hRA, hRB, hlA, hlB, hK, hne, hne2, hne3, hpt, hpg, hph⟩ := hT
 have hltg2 := hRB.lt
 have hltt := hB.lt
 have hltg := hRA.lt
 refine V.en 57 Try.func71 fun a h1 => ?_
 refine V.sr h1 [] 4 6 [] fun a h4 => ?_
 refine V.sg fun K5 k6 => ?_
 refine V.run h4 [(4, .b hB 1)] 7 10 13 [(9, .pointer (some ⟨t, 0, none⟩)), (14, .int .i64 ((T.a.length : Nat) : Int)), (15, .string k)] fun a h7 => ?_
 refine V.cl h7 (Go.Proofs.enters_of Try.func72 (by kernel_rfl) rfl) (rbucket_blk w t T.seed (.slice (some ⟨gA, 0, none⟩) T.a.length T.a.length) (.slice (some ⟨gB, 0, none⟩) T.b.length T.b.length) (.int .i64 (T.moved : Int)) (.int .i64 (T.n : Int)) hB T.a.length k  (by omega) (by omega) (by omega) (by omega)) ?_
 rintro _ w9 ⟨rfl, hF8⟩
 refine ⟨_, rfl, fun a h10 => ?_⟩
 have hsw9 := hF8.size
 have hF_11 := hF.new hF8
 have hB_12 := hB.fr0 hF8
 have hRA_13 := hRA.fr0 hF8
 have hRB_14 := hRB.fr0 hF8
 have hK_15 := hK.fr0 hF8
 have hbl8 := bkt_lt T.seed k (n := T.a.length) (by omega)
 refine V.re h10 [] 1 0 [(7, .int .i64 ((bkt T.seed T.a.length k : Nat) : Int))] fun a h16 => k6 _ _ ?_
 obtain ⟨A19, c20, hv21⟩ := hK_15.getA hlA (i := (bkt T.seed T.a.length k)) (by omega) nilS
 have hS22 := hK_15.slA hlA (i := (bkt T.seed T.a.length k)) (by omega) hv21
 refine V.sg fun K17 k18 => ?_
 refine V.run h16 [(3, .b hB_12 1), (1, .ix gA 0 T.a.length T.a.length .i64 ((bkt T.seed T.a.length k : Nat) : Int) 1 rfl), (0, .l ⟨gA, 0 + ((bkt T.seed T.a.length k : Nat) : Int).toNat * 1, none⟩ (.slice A19 ((T.a.getD (bkt T.seed T.a.length k) []).length) c20) ((hRA_13.at (bkt T.seed T.a.length k) nilS (by omega)).trans (congrArg some hv21)))] 8 17 22 [(23, .slice A19 ((T.a.getD (bkt T.seed T.a.length k) []).length) c20), (24, .string k)] fun a h23 => ?_
 refine V.cl h23 (Go.Proofs.enters_of Try.func80 (by kernel_rfl) rfl) (rin_any w9 _ A19 c20 (T.a.getD (bkt T.seed T.a.length k) []) k hS22) ?_
 rintro _ w25 ⟨rfl, hF24⟩
 refine ⟨_, rfl, fun a h26 => ?_⟩
 have hsw25 := hF24.size
 have hF_27 := hF_11.new hF24
 have hB_28 := hB_12.fr0 hF24
 have hRB_30 := hRB_14.fr0 hF24
 have hK_31 := hK_15.fr0 hF24
 have hix24 := ixI_lt (T.a.getD (bkt T.seed T.a.length k) []) k
 refine V.re h26 [] 1 0 [(8, .int .i64 (ixI (T.a.getD (bkt T.seed T.a.length k) []) k))] fun a h33 => k18 _ _ ?_
 refine V.seq fun K34 k35 => ?_
 refine V.sr h33 [] 26 26 [(27, .bool (decide ((ixI (T.a.getD (bkt T.seed T.a.length k) []) k) ≥ 0)))] fun a h38 => ?_
 refine V.cp h38 ((ixI (T.a.getD (bkt T.seed T.a.length k) []) k) ≥ 0) (fun ht39 => ?_) (fun ht39 => ?_)
 ·
  refine V.sr h38 [] 28 29 [(4, .int .i64 0), (5, .int .i64 ((bkt T.seed T.a.length k : Nat) : Int)), (6, .int .i64 (ixI (T.a.getD (bkt T.seed T.a.length k) []) k))] fun a h42 => ?_
  refine V.ret (V.then_r ?_)
  refine V.r3 h42 (.int .i64 0) (.int .i64 ((bkt T.seed T.a.length k : Nat) : Int)) (.int .i64 (ixI (T.a.getD (bkt T.seed T.a.length k) []) k)) ?_
  refine ⟨?_, hF_27⟩
  have hr : rfT T k = (0, ((bkt T.seed T.a.length k : Nat) : Int), ixI (T.a.getD (bkt T.seed T.a.length k) []) k) := rfT_yes (by unfold findT; rw [if_pos (by omega)])
  rw [hr]
 ·
  refine V.skip ?_
  refine V.then_n (k35 _ _ ?_)
  refine V.seq fun K43 k44 => ?_
  refine V.sr h38 [(3, .b hB_28 2)] 30 34 [(35, .bool (decide (((T.b.length : Nat) : Int) > 0)))] fun a h47 => ?_
  refine V.cp h47 (((T.b.length : Nat) : Int) > 0) (fun ht48 => ?_) (fun ht48 => ?_)
  ·
   refine V.sg fun K49 k50 => ?_
   refine V.run h47 [(4, .b hB_28 2)] 7 37 40 [(36, .pointer (some ⟨t, 0, none⟩)), (41, .int .i64 ((T.b.length : Nat) : Int)), (42, .string k)] fun a h51 => ?_
   refine V.cl h51 (Go.Proofs.enters_of Try.func72 (by kernel_rfl) rfl) (rbucket_blk w25 t T.seed (.slice (some ⟨gA, 0, none⟩) T.a.length T.a.length) (.slice (some ⟨gB, 0, none⟩) T.b.length T.b.length) (.int .i64 (T.moved : Int)) (.int .i64 (T.n : Int)) hB_28 T.b.length k  (by omega) (by omega) (by omega) (by omega)) ?_
   rintro _ w53 ⟨rfl, hF52⟩
   refine ⟨_, rfl, fun a h54 => ?_⟩
   have hsw53 := hF52.size
   have hF_55 := hF_27.new hF52
   have hB_56 := hB_28.fr0 hF52
   have hRB_58 := hRB_30.fr0 hF52
   have hK_59 := hK_31.fr0 hF52
   have hbl52 := bkt_lt T.seed k (n := T.b.length) (by omega)
   refine V.re h54 [] 1 0 [(7, .int .i64 ((bkt T.seed T.b.length k : Nat) : Int))] fun a h61 => k50 _ _ ?_
   obtain ⟨A64, c65, hv66⟩ := hK_59.getB hlA (i := (bkt T.seed T.b.length k)) (by omega) nilS
   have hS67 := hK_59.slB hlA (i := (bkt T.seed T.b.length k)) (by omega) hv66
   refine V.sg fun K62 k63 => ?_
   refine V.run h61 [(3, .b hB_56 2), (1, .ix gB 0 T.b.length T.b.length .i64 ((bkt T.seed T.b.length k : Nat) : Int) 1 rfl), (0, .l ⟨gB, 0 + ((bkt T.seed T.b.length k : Nat) : Int).toNat * 1, none⟩ (.slice A64 ((T.b.getD (bkt T.seed T.b.length k) []).length) c65) ((hRB_58.at (bkt T.seed T.b.length k) nilS (by omega)).trans (congrArg some hv66)))] 8 44 49 [(50, .slice A64 ((T.b.getD (bkt T.seed T.b.length k) []).length) c65), (51, .string k)] fun a h68 => ?_
   refine V.cl h68 (Go.Proofs.enters_of Try.func80 (by kernel_rfl) rfl) (rin_any w53 _ A64 c65 (T.b.getD (bkt T.seed T.b.length k) []) k hS67) ?_
   rintro _ w70 ⟨rfl, hF69⟩
   refine ⟨_, rfl, fun a h71 => ?_⟩
   have hsw70 := hF69.size
   have hF_72 := hF_55.new hF69
   have hix69 := ixI_lt (T.b.getD (bkt T.seed T.b.length k) []) k
   refine V.re h71 [] 1 0 [(8, .int .i64 (ixI (T.b.getD (bkt T.seed T.b.length k) []) k))] fun a h79 => k63 _ _ ?_
   have h80 := h79.only [(7, .int .i64 ((bkt T.seed T.b.length k : Nat) : Int)), (8, .int .i64 (ixI (T.b.getD (bkt T.seed T.b.length k) []) k))]
   refine V.sr h80 [] 53 53 [(54, .bool (decide ((ixI (T.b.getD (bkt T.seed T.b.length k) []) k) ≥ 0)))] fun a h83 => ?_
   refine V.cp h83 ((ixI (T.b.getD (bkt T.seed T.b.length k) []) k) ≥ 0) (fun ht84 => ?_) (fun ht84 => ?_)
   ·
    refine V.sr h83 [] 55 56 [(4, .int .i64 1), (5, .int .i64 ((bkt T.seed T.b.length k : Nat) : Int)), (6, .int .i64 (ixI (T.b.getD (bkt T.seed T.b.length k) []) k))] fun a h87 => ?_
    refine V.ret (V.then_r ?_)
    refine V.r3 h87 (.int .i64 1) (.int .i64 ((bkt T.seed T.b.length k : Nat) : Int)) (.int .i64 (ixI (T.b.getD (bkt T.seed T.b.length k) []) k)) ?_
    refine ⟨?_, hF_72⟩
    have hr : rfT T k = (1, ((bkt T.seed T.b.length k : Nat) : Int), ixI (T.b.getD (bkt T.seed T.b.length k) []) k) := rfT_yes (by unfold findT; rw [if_neg (by omega), if_pos ⟨by omega, by omega⟩])
    rw [hr]
   ·
    refine V.skip ?_
    refine V.then_n (k44 _ _ ?_)
    refine V.sr h83 [] 1 0 [(4, .int .i64 (-1)), (5, .int .i64 0), (6, .int .i64 0)] fun a h90 => ?_
    refine V.ret ?_
    refine V.r3 h90 (.int .i64 (-1)) (.int .i64 0) (.int .i64 0) ?_
    refine ⟨?_, hF_72⟩
    have hr : rfT T k = ((-1), 0, 0) := rfT_no (by unfold findT; rw [if_neg (by omega), if_neg (by omega)])
    rw [hr]
  ·
   refine V.skip ?_
   refine V.then_n (k44 _ _ ?_)
   refine V.sr h47 [] 1 0 [(4, .int .i64 (-1)), (5, .int .i64 0), (6, .int .i64 0)] fun a h93 => ?_
   refine V.ret ?_
   refine V.r3 h93 (.int .i64 (-1)) (.int .i64 0) (.int .i64 0) ?_
   refine ⟨?_, hF_27⟩
   have hr : rfT T k = ((-1), 0, 0) := rfT_no (by unfold findT; rw [if_neg (by omega), if_neg (by omega)])
   rw [hr]
theorem rstep_N (w : World) (H : Nat → Prop) (av : List Nat) (t gA : Nat) (vsA : List Value) (T : Tb Int) (hok : T.Ok) (hT : TabN 40 42 60 itI w H av t gA vsA T) (hb : T.b.length = 0) : Calls Try.prog 49 #[.pointer (some ⟨t, 0, none⟩)] w (fun e w' => e = .returned (.bool false) ∧ Fr [] w w') := by
 have hF := Fr.refl [] w
 obtain ⟨hsd, hpa, hla, hlb, hmv, hmz, hnn, hcn, hks⟩ := hok
 obtain ⟨hB, hRA, hlA, hK, hne, hpt, hpg⟩ := hT
 have hltt := hB.lt
 have hltg := hRA.lt
 refine V.en 124 Try.func49 fun a h1 => ?_
 refine V.sr h1 [] 2 2 [] fun a h4 => ?_
 refine V.seq fun K5 k6 => ?_
 refine V.sr h4 [(3, .b hB 2)] 6 10 [(11, .bool true)] fun a h9 => ?_
 refine V.ct h9 ?_
 refine V.sr h9 [] 1 0 [(2, .bool false)] fun a h12 => ?_
 refine V.ret (V.then_r ?_)
 refine V.r1 h12 (.bool false) ?_
 exact ⟨rfl, hF⟩
theorem rstep_M (w : World) (H : Nat → Prop) (av : List Nat) (t gA gB : Nat) (vsA vsB : List Value) (T : Tb Int) (hok : T.Ok) (hT : TabM 40 42 60 itI w H av t gA gB vsA vsB T) (hb : T.b.length ≠ 0) (hm : T.Mv) : Calls Try.prog 49 #[.pointer (some ⟨t, 0, none⟩)] w (fun e w' => e = .returned (.bool (decide ((tbStep T).b.length ≠ 0))) ∧ TabX 40 42 60 itI w' (gr H w w') av t (tbStep T) ∧ FrP (gp H av) w w') := by
 have hok0 := hok
 have hK0 : ∀ k ∈ av, k < w.heap.size := fun k hk => hT.bk.avl k (by simp [hk])
 obtain ⟨hsd, hpa, hla, hlb, hmv, hmz, hnn, hcn, hks⟩ := hok0
 obtain ⟨hB, hRA, hRB, hlA, hlB, hK, hne, hne2, hne3, hpt, hpg, hph⟩ := hT
 have hltg2 := hRB.lt
 have hltt := hB.lt
 have hltg := hRA.lt
 have hFP := FrP.refl (gp H av) w
 replace hK := hK.toH
 refine V.en 124 Try.func49 fun a h1 => ?_
 refine V.sr h1 [] 2 2 [] fun a h4 => ?_
 refine V.seq fun K5 k6 => ?_
 refine V.sr h4 [(3, .b hB 2), (1, .eq ((T.b.length : Nat) : Int) 0)] 6 10 [(11, .bool (decide (((T.b.length : Nat) : Int) = 0)))] fun a h9 => ?_
 refine V.cp h9 (((T.b.length : Nat) : Int) = 0) (fun ht10 => ?_) (fun ht10 => ?_)
 ·
  refine V.sr h9 [] 1 0 [(2, .bool false)] fun a h13 => ?_
  refine V.ret (V.then_r ?_)
  refine V.r1 h13 (.bool false) ?_
  exact absurd ht10 (by omega)
 ·
  refine V.skip ?_
  refine V.then_n (k6 _ _ ?_)
  refine V.seq fun K14 k15 => ?_
  refine V.pl [([0,1,2,3,4,5,6,7,8,9,10],none)] fun w16 hF17 hsw16 => ?_
  have hB_18 := hB.fr0 hF17
  have hRA_19 := hRA.fr0 hF17
  have hRB_20 := hRB.fr0 hF17
  have hK_21 := hK.fr0 hF17
  have hFP_22 := hFP.tr0 hF17
  obtain ⟨A23, c24, hv25⟩ := hK_21.getA hlA (i := T.moved) (by omega) nilS
  have hS26 := hK_21.slA hlA (i := T.moved) (by omega) hv25
  refine V.pz h9 [(3, .b hB_18 1), (3, .b hB_18 3), (0, .ix gA 0 T.a.length T.a.length .i64 (T.moved : Int) 1 rfl), (0, .l ⟨gA, 0 + (T.moved : Int).toNat * 1, none⟩ (.slice A23 ((T.a.getD T.moved []).length) c24) ((hRA_19.at T.moved nilS (by omega)).trans (congrArg some hv25)))] 12 21 [(3, .slice A23 ((T.a.getD T.moved []).length) c24)] fun a h27 => k15 _ _ ?_
  refine V.seq fun K28 k29 => ?_
  obtain ⟨hK9, hS9, hoh⟩ := hK_21.takeA hlA (i := T.moved) (by omega) hv25
  have hlA2 : (vsA.set T.moved nilS).length = (T.a.set T.moved []).length := by simp [hlA]
  refine V.pl [([0,1,2,3,4,5,6,7,8],some (9,[])),([],none)] fun w30 hF31 hsw30 => ?_
  have hB_32 := hB_18.fr0 hF31
  have hRA_33 := hRA_19.fr0 hF31
  have hRB_34 := hRB_20.fr0 hF31
  have hFP_35 := hFP_22.tr0 hF31
  have hK9_36 := hK9.fr0 hF31
  have hS9_37 := hS9.fr0 hF31
  refine V.pe h27 [(3, .b hB_32 1), (3, .b hB_32 3), (0, .ix gA 0 T.a.length T.a.length .i64 (T.moved : Int) 1 rfl)] 22 29 [(30, .pointer (some ⟨gA, 0 + (T.moved : Int).toNat * 1, none⟩))] fun a h38 => ?_
  refine V.go (V.strow (enc := idV) gA ((T.moved : Int).toNat) (.slice none 0 0) h38.e evc rfl rfl (by kernel_rfl) hRA_33 (by first | omega | (simp only [List.length_set, List.length_replicate]; omega)) ?_)
  intro w39 hR40 hF41 hsw39
  have hB_42 := hB_32.fr1 hF41 (by omega)
  have hRB_43 := hRB_34.fr1 hF41 (by omega)
  have hFP_44 := hFP_35.tr1 hF41 (by first | exact .inl (by assumption) | exact .inr (by omega) | exact .inl (.inl rfl))
  have hK9_45 := hK9_36.fr hF41 (by simp)
  have hS9_46 := hS9_37.fr hF41 (by intro x hx hz; simp only [List.mem_singleton] at hx; subst hx; first | (have := (hoh _ hz).2; omega) | exact (hoh _ hz).1 (by simp))
  refine V.eh trivial ?_
  refine V.pz h38 [] 1 0 [] fun a h47 => k29 _ _ ?_
  refine V.seq fun K48 k49 => ?_
  refine V.sr h47 [] 1 0 [(4, .int .i64 0)] fun a h52 => ?_
  refine V.block ?_
  refine V.loop3 (fun (i : Nat) (vb : List Value) (xb : List (List (ByteArray × Int))) a_ w_ => En 124 [] a_ [(0, .pointer (some ⟨t, 0, none⟩)), (3, .slice A23 ((T.a.getD T.moved []).length) c24), (4, .int .i64 (i : Int))] ∧ Row idV w_ gB vb 42 ∧ Bks itI w_ 60 (gh H w) (((Value.slice A23 ((T.a.getD T.moved []).length) c24).ownBlock.toList ++ (t :: gA :: gB :: av))) (vsA.set T.moved nilS ++ vb) (T.a.set T.moved [] ++ xb) ∧ FrP (fun _ => True) w39 w_ ∧ Blk w_ t [.int .u64 (T.seed : Int), .slice (some ⟨gA, 0, none⟩) T.a.length T.a.length, .slice (some ⟨gB, 0, none⟩) T.b.length T.b.length, .int .i64 (T.moved : Int), .int .i64 (T.n : Int)] 40 ∧ FrP (gp H av) w w_ ∧ SlR itI (fun k => k ∈ (Value.slice A23 ((T.a.getD T.moved []).length) c24).ownBlock.toList) w_ (.slice A23 ((T.a.getD T.moved []).length) c24) (T.a.getD T.moved []) ∧ Row idV w_ gA (vsA.set ((T.moved : Int).toNat) (.slice none 0 0)) 42 ∧ (i ≤ (T.a.getD T.moved []).length) ∧ (vb.length = xb.length) ∧ (((T.a.getD T.moved []).take i).foldl (putB T.seed) T.b = xb)) (fun (i : Nat) (vb : List Value) (xb : List (List (ByteArray × Int))) => (T.a.getD T.moved []).length - i) 0 vsB T.b ?_ ?_
  ·
   refine ⟨(h52.eq 4 (v := (.int .i64 0)) (u := (.int .i64 (0 : Int))) (V.int_eq (by omega))).only _, hRB_43, hK9_45, (FrP.refl _ _), hB_42, hFP_44, hS9_46, hR40, (by omega), hlB, (by simp)⟩
  ·
   rintro i vb xb a53 w54 ⟨h55, hRB_56, hK_57, hF0_58, hB_59, hFP_60, hS9_61, hR40_62, hi, hlb, hxb⟩
   have hlt63 := hRB_56.lt
   have hfs64 := hF0_58.size
   have hlt65 := hB_59.lt
   have hfs66 := hFP_60.size
   have hlt67 := hR40_62.lt
   have hxl : xb.length = T.b.length := by rw [← hxb, putBs_length]
   have hfl : xb.flatten.length = T.b.flatten.length + i := by (rw [← hxb, putBs_flat _ _ (by omega), List.length_take]; omega)
   have hsum := hok.sum
   have hfa := flat_getD T.a T.moved
   refine V.seq fun K68 k69 => ?_
   refine V.sr h55 [] 31 33 [(34, .bool (decide ((i : Int) < (((T.a.getD T.moved []).length : Nat) : Int))))] fun a h72 => ?_
   refine V.cp h72 ((i : Int) < (((T.a.getD T.moved []).length : Nat) : Int)) (fun ht73 => ?_) (fun ht73 => ?_)
   ·
    refine V.skip ?_
    refine V.then_n (k69 _ _ ?_)
    refine V.seq fun K74 k75 => ?_
    refine V.block ?_
    refine V.seq fun K76 k77 => ?_
    have hkz := ks_at (R := itI) (hks.1 T.moved) (i := (i : Int)) (by omega) (by omega)
    refine V.pl [([0,1,2,3,4,5,6,7,8,9,10],some (11,[])),([12],none)] fun w78 hF79 hsw78 => ?_
    have hRB_80 := hRB_56.fr0 hF79
    have hK_81 := hK_57.fr0 hF79
    have hF0_82 := hF0_58.tr hF79 (fun _ _ => .inl trivial)
    have hB_83 := hB_59.fr0 hF79
    have hFP_84 := hFP_60.tr0 hF79
    have hS9_85 := hS9_61.fr0 hF79
    have hR40_86 := hR40_62.fr0 hF79
    obtain ⟨g87, o88, hA89, hA89l, hA89z⟩ := hS9_85.addr (by omega)
    obtain ⟨cs90, hok91, hE92⟩ := hS9_85.els hA89 (i : Int) (by omega) (by omega)
    refine V.pe0 ?_
    refine V.run h72 [(4, .b hB_83 2), (3, .ix g87 o88 ((T.a.getD T.moved []).length) c24 .i64 (i : Int) 2 hA89)] 10 39 45 [(37, .pointer (some ⟨t, 0, none⟩)), (38, .pointer (some ⟨t, 0, none⟩)), (41, .slice (some ⟨gB, 0, none⟩) T.b.length T.b.length), (42, .int .i64 ((T.b.length : Nat) : Int)), (46, .pointer (some ⟨g87, o88 + (i : Int).toNat * 2, none⟩))] fun a h93 => ?_
    obtain rfl : cs90 = [.string (at_ itI (T.a.getD T.moved []) (i : Int)).1, .int .i64 (at_ itI (T.a.getD T.moved []) (i : Int)).2] := hok91
    refine V.se h93 [(0, .l ⟨g87, o88 + (i : Int).toNat * 2, none⟩ (.string ((at_ itI (T.a.getD T.moved []) (i : Int)).1)) (hE92.at 0 rfl))] 1 0 [(47, .string ((at_ itI (T.a.getD T.moved []) (i : Int)).1))] fun a h94 => ?_
    refine V.cl h94 (Go.Proofs.enters_of Try.func72 (by kernel_rfl) rfl) (rbucket_blk w78 t T.seed (.slice (some ⟨gA, 0, none⟩) T.a.length T.a.length) (.slice (some ⟨gB, 0, none⟩) T.b.length T.b.length) (.int .i64 (T.moved : Int)) (.int .i64 (T.n : Int)) hB_83 T.b.length ((at_ itI (T.a.getD T.moved []) (i : Int)).1)  (by omega) (by omega) (by omega) (by omega)) ?_
    rintro _ w96 ⟨rfl, hF95⟩
    refine ⟨_, rfl, fun a h97 => ?_⟩
    have hsw96 := hF95.size
    have hRB_98 := hRB_80.fr0 hF95
    have hK_99 := hK_81.fr0 hF95
    have hF0_100 := hF0_82.tr hF95 (fun _ _ => .inl trivial)
    have hB_101 := hB_83.fr0 hF95
    have hFP_102 := hFP_84.tr0 hF95
    have hS9_103 := hS9_85.fr0 hF95
    have hR40_104 := hR40_86.fr0 hF95
    have hE92_105 := hE92.fr0 hF95
    have hbl95 := bkt_lt T.seed ((at_ itI (T.a.getD T.moved []) (i : Int)).1) (n := T.b.length) (by omega)
    refine V.eh trivial ?_
    refine V.pz h97 [] 1 0 [(5, .int .i64 ((bkt T.seed T.b.length ((at_ itI (T.a.getD T.moved []) (i : Int)).1) : Nat) : Int))] fun a h106 => k77 _ _ ?_
    have hfg := flat_getD xb (bkt T.seed T.b.length ((at_ itI (T.a.getD T.moved []) (i : Int)).1))
    refine V.pl [([0,1,2,3,4,5,6,7,8,9,10,11,12,13,14,15],some (16,[3,8,11])),([],some (17,[3])),([18],some (19,[])),([],none)] fun w107 hF108 hsw107 => ?_
    have hRB_109 := hRB_98.fr0 hF108
    have hK_110 := hK_99.fr0 hF108
    have hF0_111 := hF0_100.tr hF108 (fun _ _ => .inl trivial)
    have hB_112 := hB_101.fr0 hF108
    have hFP_113 := hFP_102.tr0 hF108
    have hS9_114 := hS9_103.fr0 hF108
    have hR40_115 := hR40_104.fr0 hF108
    have hE92_116 := hE92_105.fr0 hF108
    obtain ⟨A117, c118, hv119⟩ := hK_110.getB hlA2 (i := (bkt T.seed T.b.length ((at_ itI (T.a.getD T.moved []) (i : Int)).1))) (by omega) nilS
    have hS120 := hK_110.slB hlA2 (i := (bkt T.seed T.b.length ((at_ itI (T.a.getD T.moved []) (i : Int)).1))) (by omega) hv119
    refine V.pe h106 [(3, .b hB_112 2), (4, .b hB_112 2), (1, .ix gB 0 T.b.length T.b.length .i64 ((bkt T.seed T.b.length ((at_ itI (T.a.getD T.moved []) (i : Int)).1) : Nat) : Int) 1 rfl), (0, .l ⟨gB, 0 + ((bkt T.seed T.b.length ((at_ itI (T.a.getD T.moved []) (i : Int)).1) : Nat) : Int).toNat * 1, none⟩ (.slice A117 ((xb.getD (bkt T.seed T.b.length ((at_ itI (T.a.getD T.moved []) (i : Int)).1)) []).length) c118) ((hRB_109.at (bkt T.seed T.b.length ((at_ itI (T.a.getD T.moved []) (i : Int)).1)) nilS (by omega)).trans (congrArg some hv119))), (2, .ix g87 o88 ((T.a.getD T.moved []).length) c24 .i64 (i : Int) 2 hA89), (0, .ls ⟨g87, o88 + (i : Int).toNat * 2, none⟩ [.string ((at_ itI (T.a.getD T.moved []) (i : Int)).1), .int .i64 ((at_ itI (T.a.getD T.moved []) (i : Int)).2)] (hE92_116.cells 0 _ rfl))] 49 63 [(51, .pointer (some ⟨t, 2, none⟩)), (52, .slice (some ⟨gB, 0, none⟩) T.b.length T.b.length), (53, .int .i64 ((bkt T.seed T.b.length ((at_ itI (T.a.getD T.moved []) (i : Int)).1) : Nat) : Int)), (56, .pointer (some ⟨t, 2, none⟩)), (59, .pointer (some ⟨gB, 0 + ((bkt T.seed T.b.length ((at_ itI (T.a.getD T.moved []) (i : Int)).1) : Nat) : Int).toNat * 1, none⟩)), (60, .slice A117 ((xb.getD (bkt T.seed T.b.length ((at_ itI (T.a.getD T.moved []) (i : Int)).1)) []).length) c118), (64, .agg #[.string ((at_ itI (T.a.getD T.moved []) (i : Int)).1), .int .i64 ((at_ itI (T.a.getD T.moved []) (i : Int)).2)])] fun a h121 => ?_
    refine V.go (V.mk [(64, .agg #[.string ((at_ itI (T.a.getD T.moved []) (i : Int)).1), .int .i64 ((at_ itI (T.a.getD T.moved []) (i : Int)).2)])] ⟨h121.e, trivial⟩ (by kernel_rfl) [.string ((at_ itI (T.a.getD T.moved []) (i : Int)).1), .int .i64 ((at_ itI (T.a.getD T.moved []) (i : Int)).2)] 60 (fun b => .slice (some ⟨b, 0, none⟩) 1 1) (by kernel_rfl) ?_)
    intro w123 b122 heb122 hB124 hF125 hsb122
    have hRB_126 := hRB_109.fr0 hF125
    have hK_127 := hK_110.alloc hF125 heb122 (by omega)
    have hF0_128 := hF0_111.tr hF125 (fun _ _ => .inl trivial)
    have hB_129 := hB_112.fr0 hF125
    have hFP_130 := hFP_113.tr0 hF125
    have hS9_131 := hS9_114.fr0 hF125
    have hR40_132 := hR40_115.fr0 hF125
    refine V.pt h121 fun a h135 => ?_
    refine V.eh ⟨(fun _ => held_blk (n := 1) (hx := (h121.e (v := (.pointer (some ⟨t, 2, none⟩))))) hB_112 hB_129 (by kernel_rfl) rfl (by simp only [List.length]; omega)), (fun _ => held_blk (n := 1) (hx := (h121.e (v := (.pointer (some ⟨t, 2, none⟩))))) hB_112 hB_129 (by kernel_rfl) rfl (by simp only [List.length]; omega)), (fun _ => held_row (hx := (h121.e (v := (.pointer (some ⟨gB, 0 + ((bkt T.seed T.b.length ((at_ itI (T.a.getD T.moved []) (i : Int)).1) : Nat) : Int).toNat * 1, none⟩))))) hRB_109 hRB_126 (by kernel_rfl) (by omega))⟩ ?_
    refine V.pe h135 [] 1 0 [] fun a h136 => ?_
    refine V.go (V.appRB (R := itI) (ys := ([((at_ itI (T.a.getD T.moved []) (i : Int)).1, (at_ itI (T.a.getD T.moved []) (i : Int)).2)])) (news := [.string ((at_ itI (T.a.getD T.moved []) (i : Int)).1), .int .i64 ((at_ itI (T.a.getD T.moved []) (i : Int)).2)]) hK_127 hlA2 (i := (bkt T.seed T.b.length ((at_ itI (T.a.getD T.moved []) (i : Int)).1))) (by omega) hv119 (h136.e (v := (.slice A117 ((xb.getD (bkt T.seed T.b.length ((at_ itI (T.a.getD T.moved []) (i : Int)).1)) []).length) c118))) ⟨b122, 0, none⟩ 1 1 (h136.e (v := (.slice (some ⟨b122, 0, none⟩) 1 1))) (by kernel_rfl) (info60) (by kernel_rfl) (by decide) rfl ⟨[.string ((at_ itI (T.a.getD T.moved []) (i : Int)).1), .int .i64 ((at_ itI (T.a.getD T.moved []) (i : Int)).2)], [], rfl, rfl, rfl⟩ (blk_cells hB124 0 _ rfl) (by omega) (by decide) (.inr (by omega)) ?_)
    intro A137 c138 w139 hK140 hF141 ho142
    have hsw139 := hF141.size
    have hRB_143 := hRB_126.fr hF141 (fun hm => (ho142 _ hm).1 (by simp))
    have hF0_144 := hF0_128.tr hF141 (fun _ _ => .inl trivial)
    have hB_145 := hB_129.fr hF141 (fun hm => (ho142 _ hm).1 (by simp))
    have hFP_146 := hFP_130.tr hF141 (fun k hk => ((ho142 k hk).2).imp (fun h => ⟨h, fun hm => (ho142 k hk).1 (by simp [hm])⟩) id)
    have hS9_147 := hS9_131.fr hF141 (fun k hk hz => (ho142 k hk).1 (by simp at hz; simp [hz]))
    have hR40_148 := hR40_132.fr hF141 (fun hm => (ho142 _ hm).1 (by simp))
    refine V.pt h136 fun a h149 => ?_
    refine V.eh (fun _ => held_blk (n := 1) (hx := (h136.e (v := (.pointer (some ⟨t, 2, none⟩))))) hB_129 hB_145 (by kernel_rfl) rfl (by simp only [List.length]; omega)) ?_
    refine V.pe h149 [(0, .ix gB 0 T.b.length T.b.length .i64 ((bkt T.seed T.b.length ((at_ itI (T.a.getD T.moved []) (i : Int)).1) : Nat) : Int) 1 rfl)] 1 0 [(67, .pointer (some ⟨gB, 0 + ((bkt T.seed T.b.length ((at_ itI (T.a.getD T.moved []) (i : Int)).1) : Nat) : Int).toNat * 1, none⟩))] fun a h150 => ?_
    refine V.go (V.strow (enc := idV) gB (((bkt T.seed T.b.length ((at_ itI (T.a.getD T.moved []) (i : Int)).1) : Nat) : Int).toNat) (.slice A137 ((xb.getD (bkt T.seed T.b.length ((at_ itI (T.a.getD T.moved []) (i : Int)).1)) []).length + 1) c138) h150.e h150.e rfl rfl (by kernel_rfl) hRB_143 (by first | omega | (simp only [List.length_set, List.length_replicate]; omega)) ?_)
    intro w151 hR152 hF153 hsw151
    have hF0_154 := hF0_144.tr hF153 (fun _ _ => .inl trivial)
    have hB_155 := hB_145.fr1 hF153 (by omega)
    have hFP_156 := hFP_146.tr1 hF153 (by first | exact .inl (by assumption) | exact .inr (by omega) | exact .inl (.inl rfl))
    have hS9_157 := hS9_147.fr hF153 (by intro x hx hz; simp only [List.mem_singleton] at hx; subst hx; first | (have := (hoh _ hz).2; omega) | exact (hoh _ hz).1 (by simp))
    have hR40_158 := hR40_148.fr1 hF153 (by omega)
    have hK140_159 := hK140.fr hF153 (by simp)
    refine V.eh trivial ?_
    refine V.pz h150 [] 1 0 [] fun a h160 => ?_
    refine V.blk_n ?_
    refine V.then_n (k75 _ _ ?_)
    refine V.rr h160 [(1, .i ((i : Int) + 1))] 35 36 [(4, .int .i64 ((i : Int) + 1))] fun a h161 => ?_
    refine V.then_n ?_
    refine ⟨i + 1, vb.set (((bkt T.seed T.b.length ((at_ itI (T.a.getD T.moved []) (i : Int)).1) : Nat) : Int).toNat) (.slice A137 ((xb.getD (bkt T.seed T.b.length ((at_ itI (T.a.getD T.moved []) (i : Int)).1)) []).length + 1) c138), (xb.set (bkt T.seed T.b.length ((at_ itI (T.a.getD T.moved []) (i : Int)).1)) (xb.getD (bkt T.seed T.b.length ((at_ itI (T.a.getD T.moved []) (i : Int)).1)) [] ++ [((at_ itI (T.a.getD T.moved []) (i : Int)).1, (at_ itI (T.a.getD T.moved []) (i : Int)).2)])), by omega, ?_⟩
    refine ⟨(h161.eq 4 (v := (.int .i64 ((i : Int) + 1))) (u := (.int .i64 ((i + 1) : Int))) (V.int_eq (by omega))).only _, hR152, (hK140_159.sub (fun k hk => List.mem_cons_of_mem _ (hk)) (fun k _ _ q => q)), hF0_154, hB_155, hFP_156, hS9_157, hR40_158, (by omega), (by simp [hlb]), (by rw [take_at itI (by omega), List.foldl_append, hxb, List.foldl_cons, List.foldl_nil]; unfold putB; rw [hxl])⟩
   ·
    refine V.exit (V.then_e (V.then_e (V.blk_hit ?_)))
    refine V.then_n (k49 _ _ ?_)
    refine V.seq fun K162 k163 => ?_
    have hxe : xb = (movedT T).b := by (rw [← hxb, List.take_of_length_le (by omega)]; rfl)
    have hmb := movedT_b T
    refine V.rg ?_
    refine V.run h72 [(3, .b hB_59 3), (0, .i ((T.moved : Int) + 1))] 7 68 73 [(72, .int .i64 ((T.moved : Int) + 1)), (74, .pointer (some ⟨t, 3, none⟩))] fun a h167 => ?_
    refine V.go (V.stn t 3 (.int .i64 ((T.moved : Int) + 1)) [.int .i64 ((T.moved : Int) + 1)] h167.e h167.e rfl rfl (by kernel_rfl) hB_59 (by simp) [.int .u64 (T.seed : Int), .slice (some ⟨gA, 0, none⟩) T.a.length T.a.length, .slice (some ⟨gB, 0, none⟩) T.b.length T.b.length, .int .i64 ((T.moved : Int) + 1), .int .i64 (T.n : Int)] rfl ?_)
    intro w164 hB165 hF166 hsw164
    have hRB_168 := hRB_56.fr1 hF166 (by omega)
    have hK_169 := hK_57.fr hF166 (by simp)
    have hFP_171 := hFP_60.tr1 hF166 (by first | exact .inl (by assumption) | exact .inr (by omega) | exact .inl (.inl rfl))
    have hR40_173 := hR40_62.fr1 hF166 (by omega)
    refine V.nt (k163 _ _ ?_)
    refine V.seq fun K174 k175 => ?_
    refine V.seq fun K176 k177 => ?_
    refine V.pl [([0,1,2,3,4,5,6,7,8,9],none)] fun w178 hF179 hsw178 => ?_
    have hRB_180 := hRB_168.fr0 hF179
    have hK_181 := hK_169.fr0 hF179
    have hFP_183 := hFP_171.tr0 hF179
    have hR40_185 := hR40_173.fr0 hF179
    have hB165_186 := hB165.fr0 hF179
    refine V.pz h167 [(3, .b hB165_186 3), (3, .b hB165_186 1), (1, .eq ((T.moved : Int) + 1) ((T.a.length : Nat) : Int))] 75 83 [(84, .bool (decide (((T.moved : Int) + 1) = ((T.a.length : Nat) : Int))))] fun a h187 => k177 _ _ ?_
    refine V.cp h187 (((T.moved : Int) + 1) = ((T.a.length : Nat) : Int)) (fun ht188 => ?_) (fun ht188 => ?_)
    ·
     refine V.sg fun K189 k190 => ?_
     refine V.run h187 [(6, .b hB165_186 2)] 9 85 92 [(86, .pointer (some ⟨t, 0, none⟩)), (87, .pointer (some ⟨t, 0, none⟩)), (91, .slice (some ⟨gB, 0, none⟩) T.b.length T.b.length), (93, .pointer (some ⟨t, 1, none⟩))] fun a h194 => ?_
     refine V.go (V.stn t 1 (.slice (some ⟨gB, 0, none⟩) T.b.length T.b.length) [.slice (some ⟨gB, 0, none⟩) T.b.length T.b.length] h194.e h194.e rfl rfl (by kernel_rfl) hB165_186 (by simp) [.int .u64 (T.seed : Int), .slice (some ⟨gB, 0, none⟩) T.b.length T.b.length, .slice (some ⟨gB, 0, none⟩) T.b.length T.b.length, .int .i64 ((T.moved : Int) + 1), .int .i64 (T.n : Int)] rfl ?_)
     intro w191 hB192 hF193 hsw191
     have hRB_195 := hRB_180.fr1 hF193 (by omega)
     have hK_196 := hK_181.fr hF193 (by simp)
     have hFP_198 := hFP_183.tr1 hF193 (by first | exact .inl (by assumption) | exact .inr (by omega) | exact .inl (.inl rfl))
     refine V.run h194 [] 2 94 94 [(95, .pointer (some ⟨t, 2, none⟩))] fun a h204 => ?_
     refine V.go (V.stn t 2 (.slice none 0 0) [.slice none 0 0] h204.e evc rfl rfl (by kernel_rfl) hB192 (by simp) [.int .u64 (T.seed : Int), .slice (some ⟨gB, 0, none⟩) T.b.length T.b.length, .slice none 0 0, .int .i64 ((T.moved : Int) + 1), .int .i64 (T.n : Int)] rfl ?_)
     intro w201 hB202 hF203 hsw201
     have hRB_205 := hRB_195.fr1 hF203 (by omega)
     have hK_206 := hK_196.fr hF203 (by simp)
     have hFP_208 := hFP_198.tr1 hF203 (by first | exact .inl (by assumption) | exact .inr (by omega) | exact .inl (.inl rfl))
     refine V.run h204 [] 2 96 96 [(97, .pointer (some ⟨t, 3, none⟩))] fun a h214 => ?_
     refine V.go (V.stn t 3 (.int .i64 0) [.int .i64 0] h214.e evc rfl rfl (by kernel_rfl) hB202 (by simp) [.int .u64 (T.seed : Int), .slice (some ⟨gB, 0, none⟩) T.b.length T.b.length, .slice none 0 0, .int .i64 0, .int .i64 (T.n : Int)] rfl ?_)
     intro w211 hB212 hF213 hsw211
     have hRB_215 := hRB_205.fr1 hF213 (by omega)
     have hK_216 := hK_206.fr hF213 (by simp)
     have hFP_218 := hFP_208.tr1 hF213 (by first | exact .inl (by assumption) | exact .inr (by omega) | exact .inl (.inl rfl))
     refine V.nt (k190 _ _ ?_)
     refine V.seq fun K221 k222 => ?_
     refine V.pl [([0,1,2,3,4,5,6,7,8,9],none)] fun w223 hF224 hsw223 => ?_
     have hRB_225 := hRB_215.fr0 hF224
     have hK_226 := hK_216.fr0 hF224
     have hFP_228 := hFP_218.tr0 hF224
     have hB212_231 := hB212.fr0 hF224
     refine V.pz h214 [(3, .b hB212_231 4), (3, .b hB212_231 1)] 98 106 [(107, .bool (decide ((T.n : Int) > ((T.b.length : Nat) : Int))))] fun a h232 => k222 _ _ ?_
     have h233 := h232.only [(0, .pointer (some ⟨t, 0, none⟩)), (107, .bool (decide ((T.n : Int) > ((T.b.length : Nat) : Int))))]
     refine V.cp h233 ((T.n : Int) > ((T.b.length : Nat) : Int)) (fun ht234 => ?_) (fun ht234 => ?_)
     ·
      refine V.rg ?_
      refine V.run h233 [(4, .b hB212_231 1), (1, .q (.int .i64 ((2 * T.b.length : Nat) : Int)) (w_mulN (by omega)))] 7 109 113 [(108, .pointer (some ⟨t, 0, none⟩)), (114, .int .i64 ((2 * T.b.length : Nat) : Int))] fun a h239 => ?_
      refine V.go (V.mks (enc := idV) (2 * T.b.length) (.slice none 0 0) nilS 24 ((h239.e (v := (.int .i64 ((2 * T.b.length : Nat) : Int)))).trans (V.int_eq (by omega))) ((h239.e (v := (.int .i64 ((2 * T.b.length : Nat) : Int)))).trans (V.int_eq (by omega))) (by kernel_rfl) info42 rfl rfl (by omega) (by omega) ?_)
      intro w236 b235 heb235 hR237 hF238
      have hsb235 := hR237.lt
      have hRB_240 := hRB_225.fr0 hF238
      have hK_241 := hK_226.alloc hF238 heb235 (by omega)
      have hFP_243 := hFP_228.tr0 hF238
      have hB212_246 := hB212_231.fr0 hF238
      refine V.pt h239 fun a h247 => ?_
      refine V.run h247 [] 2 116 116 [(117, .pointer (some ⟨t, 2, none⟩))] fun a h251 => ?_
      refine V.go (V.stn t 2 (.slice (some ⟨b235, 0, none⟩) (2 * T.b.length) (2 * T.b.length)) [.slice (some ⟨b235, 0, none⟩) (2 * T.b.length) (2 * T.b.length)] h251.e h251.e rfl rfl (by kernel_rfl) hB212_246 (by simp) [.int .u64 (T.seed : Int), .slice (some ⟨gB, 0, none⟩) T.b.length T.b.length, .slice (some ⟨b235, 0, none⟩) (2 * T.b.length) (2 * T.b.length), .int .i64 0, .int .i64 (T.n : Int)] rfl ?_)
      intro w248 hB249 hF250 hsw248
      have hRB_252 := hRB_240.fr1 hF250 (by omega)
      have hK_253 := hK_241.fr hF250 (by simp)
      have hFP_255 := hFP_243.tr1 hF250 (by first | exact .inl (by assumption) | exact .inr (by omega) | exact .inl (.inl rfl))
      have hR237_258 := hR237.fr1 hF250 (by omega)
      refine V.nt (k175 _ _ ?_)
      refine V.sr h251 [(3, .b hB249 2)] 118 123 [(2, .bool (decide (((2 * T.b.length : Nat) : Int) > 0)))] fun a h261 => ?_
      refine V.ret ?_
      refine V.r1 h261 (.bool (decide (((2 * T.b.length : Nat) : Int) > 0))) ?_
      have hst : tbStep T = startT (swapT (movedT T)) (2 * (movedT T).b.length) := by (unfold tbStep; rw [if_neg hb, if_neg (by omega), if_pos (by omega)])
      have hsok := (tbStep_ok hok hm).1
      rw [hst] at hsok ⊢
      have hKd262 := hK_253.dropNil hlA2
      have hKa263 := hKd262.addNil (2 * T.b.length)
      have hsb : (startT (swapT (movedT T)) (2 * (movedT T).b.length)).b.length = 2 * T.b.length := by rw [← hmb]; simp [startT]
      have hsb2 : (startT (swapT (movedT T)) (2 * (movedT T).b.length)).b.length ≠ 0 := by omega
      exact ⟨congrArg (fun b => Ending.returned (Value.bool b)) (decide_eq_decide.2 ⟨fun _ => by omega, fun _ => by omega⟩), TabM.fin (T := (startT (swapT (movedT T)) (2 * (movedT T).b.length))) hsok (fun h => hsb2 (by rw [h]; rfl)) hB249 hRB_252 hR237_258 hlb hKa263 (mem4 (l := (b235 :: ((Value.slice A23 ((T.a.getD T.moved []).length) c24).ownBlock.toList ++ (t :: gA :: gB :: av)))) (by simp) (by simp) (by simp) (by intro k hk; simp [hk])) (by first | assumption | omega) (by first | assumption | omega) (by first | assumption | omega) hpt ⟨.inl hph.1, hph.2⟩ ⟨.inr (by omega), fun hm => by have := hK0 _ hm; omega⟩ rfl (movedT_b T).symm rfl rfl hxe (by rw [← hmb]; rfl) hsb.symm, hFP_255⟩
     ·
      refine V.skip ?_
      refine V.then_n (k175 _ _ ?_)
      refine V.sr h233 [(3, .b hB212_231 2)] 118 123 [(2, .bool false)] fun a h266 => ?_
      refine V.ret ?_
      refine V.r1 h266 (.bool false) ?_
      have hst : tbStep T = swapT (movedT T) := by (unfold tbStep; rw [if_neg hb, if_neg (by omega), if_neg (by omega)])
      have hsok := (tbStep_ok hok hm).1
      rw [hst] at hsok ⊢
      have hKd267 := hK_226.dropNil hlA2
      exact ⟨rfl, TabN.fin (T := (swapT (movedT T))) hsok rfl hB212_231 hRB_225 hKd267 (mem3 (l := (((Value.slice A23 ((T.a.getD T.moved []).length) c24).ownBlock.toList ++ (t :: gA :: gB :: av)))) (by simp) (by simp) (by intro k hk; simp [hk])) (by first | assumption | exact Ne.symm (by assumption) | omega) hpt ⟨.inl hph.1, hph.2⟩ rfl (movedT_b T).symm rfl rfl hxe, hFP_228⟩
    ·
     refine V.skip ?_
     refine V.then_n (k175 _ _ ?_)
     refine V.sr h187 [(3, .b hB165_186 2)] 118 123 [(2, .bool (decide (((T.b.length : Nat) : Int) > 0)))] fun a h270 => ?_
     refine V.ret ?_
     refine V.r1 h270 (.bool (decide (((T.b.length : Nat) : Int) > 0))) ?_
     have hst : tbStep T = movedT T := by (unfold tbStep; rw [if_neg hb, if_pos (by omega)])
     have hsok := (tbStep_ok hok hm).1
     rw [hst] at hsok ⊢
     exact ⟨congrArg (fun b => Ending.returned (Value.bool b)) (decide_eq_decide.2 ⟨fun _ => by omega, fun _ => by omega⟩), TabM.fin (T := (movedT T)) hsok (fun h => hb (by rw [← movedT_b, h]; rfl)) hB165_186 hR40_185 hRB_180 hlA2 hK_181 (mem4 (l := (((Value.slice A23 ((T.a.getD T.moved []).length) c24).ownBlock.toList ++ (t :: gA :: gB :: av)))) (by simp) (by simp) (by simp) (by intro k hk; simp [hk])) (by first | assumption | omega) (by first | assumption | omega) (by first | assumption | omega) hpt ⟨.inl hpg.1, hpg.2⟩ ⟨.inl hph.1, hph.2⟩ rfl (movedT_a T).symm (by simp [movedT]) rfl rfl hxe (movedT_b T).symm, hFP_183⟩
end Go.Proofs.Ytalhmegjomfbaaa
end
