/- Walks: slices.Delete, Del. -/
import Derived.Test.YtalhmegjomfbaaaProg
import Derived.Test.YtalhmegjomfbaaaTd
import Derived.Test.YtalhmegjomfbaaaTabD
namespace Go.Proofs.Ytalhmegjomfbaaa
open Go.V Go.Base
open Go.RowKit (Below)
attribute [local irreducible] Act.put Act.eval
set_option linter.unusedVariables false
set_option linter.unusedSimpArgs false
theorem itI_sz : itI.sz = 2 := rfl
theorem info86c : (Try.prog.info? 86).map (fun i => (i.zero, i.size)) = some (some (.agg #[.string ⟨#[]⟩, .int .i64 0]), itI.sz) := by kernel_rfl
set_option maxHeartbeats 4000000 in
set_option maxRecDepth 20000 in
theorem delete_any (w : World) (g c i : Nat) (xs : List (ByteArray × Int)) (hO : OwR itI NoZ w 0 86 (.slice (some ⟨g, 0, none⟩) xs.length c) xs) (hi : i < xs.length) (hc : xs.length ≤ c) (hl : xs.length ≤ 1099511627776) : Calls Try.prog 68 #[.slice (some ⟨g, 0, none⟩) xs.length c, .int .i64 (i : Int), .int .i64 ((i : Int) + 1)] w (fun e w' => e = .returned (.slice (some ⟨g, 0, none⟩) (xs.length - 1) c) ∧ OwR itI NoZ w' 0 86 (.slice (some ⟨g, 0, none⟩) (xs.length - 1) c) (xs.eraseIdx i) ∧ Fr [g] w w') := by
 have hF := Fr.refl [g] w
 have herl : i + (xs.length - (i + 1)) = (xs.eraseIdx i).length := by rw [List.length_eraseIdx_of_lt hi]; omega
 refine V.en 33 Try.func68 fun a h1 => ?_
 refine V.sr h1 [] 6 6 [] fun a h4 => ?_
 refine V.sg fun K5 k6 => ?_
 refine V.run h4 [] 5 11 11 [(8, .slice (some ⟨g, 0, none⟩) xs.length c), (9, .int .i64 (i : Int)), (10, .int .i64 ((i : Int) + 1)), (12, .int .i64 ((xs.length : Nat) : Int))] fun a h7 => ?_
 refine V.go (V.slc (e := 86) (sz := 2) g 0 xs.length c i (i + 1) xs.length (h7.e (v := (.slice (some ⟨g, 0, none⟩) xs.length c))) ⟨_, ((h7.e (v := (.int .i64 (i : Int))))).trans (V.int_eq (by omega))⟩ ⟨_, ((h7.e (v := (.int .i64 ((i : Int) + 1))))).trans (V.int_eq (by omega))⟩ ⟨_, ((h7.e (v := (.int .i64 ((xs.length : Nat) : Int))))).trans (V.int_eq (by omega))⟩ (by omega) (by omega) (by omega) (by kernel_rfl) (by kernel_rfl) ?_)
 intro ad8 had9 hae10
 refine V.pt h7 fun a h11 => ?_
 refine V.nt (k6 _ _ ?_)
 refine V.seq fun K12 k13 => ?_
 refine V.sr h11 [(2, .eq (i : Int) ((i : Int) + 1))] 14 15 [(16, .bool (decide ((i : Int) = ((i : Int) + 1))))] fun a h16 => ?_
 refine V.cp h16 ((i : Int) = ((i : Int) + 1)) (fun ht17 => ?_) (fun ht17 => ?_)
 ·
  refine V.sr h16 [] 17 17 [(6, .slice (some ⟨g, 0, none⟩) xs.length c)] fun a h20 => ?_
  refine V.ret ?_
  refine V.then_r ?_
  refine V.r1 h20 (.slice (some ⟨g, 0, none⟩) xs.length c) ?_
  exact absurd ht17 (by omega)
 ·
  refine V.skip ?_
  refine V.then_n (k13 _ _ ?_)
  refine V.sr h16 [] 18 19 [(7, .int .i64 ((xs.length : Nat) : Int))] fun a h23 => ?_
  refine V.seq fun K24 k25 => ?_
  refine V.pl [([0,1,2,3,4,5],some (6,[])),([7],none)] fun w26 hF27 hsw26 => ?_
  have hF_28 := hF.trans hF27 (by simp <;> omega)
  have hO_29 := hO.fr0 hF27
  refine V.pe0 ?_
  refine V.run h23 [] 2 1 0 [(20, .slice (some ⟨g, 0, none⟩) xs.length c), (21, .int .i64 (i : Int))] fun a h30 => ?_
  refine V.go (V.slc (e := 86) (sz := 2) g 0 xs.length c 0 i c (h30.e (v := (.slice (some ⟨g, 0, none⟩) xs.length c))) rfl ⟨_, ((h30.e (v := (.int .i64 (i : Int))))).trans (V.int_eq (by omega))⟩ rfl (by omega) (by omega) (by omega) (by kernel_rfl) (by kernel_rfl) ?_)
  intro ad31 had32 hae33
  obtain rfl := hae33 rfl
  refine V.pt h30 fun a h34 => ?_
  refine V.run h34 [] 2 1 0 [(23, .slice (some ⟨g, 0, none⟩) xs.length c), (24, .int .i64 ((i : Int) + 1))] fun a h35 => ?_
  refine V.go (V.slc (e := 86) (sz := 2) g 0 xs.length c (i + 1) xs.length c (h35.e (v := (.slice (some ⟨g, 0, none⟩) xs.length c))) ⟨_, ((h35.e (v := (.int .i64 ((i : Int) + 1))))).trans (V.int_eq (by omega))⟩ ⟨rfl, rfl⟩ rfl (by omega) (by omega) (by omega) (by kernel_rfl) (by kernel_rfl) ?_)
  intro ad36 had37 hae38
  refine V.pt h35 fun a h39 => ?_
  refine V.se h39 [] 1 0 [] fun a h40 => ?_
  refine V.go (V.appIn (R := itI) (i := i) (m := xs.length - (i + 1)) hO_29 rfl hi rfl ad36 (fun hq => by rw [had37 (by omega)]; simp [itI_sz]) (h40.e (v := (.slice (some ⟨g, 0, none⟩) (i - 0) (c - 0)))) (h40.e (v := (.slice (some ad36) (xs.length - (i + 1)) (c - (i + 1))))) (by kernel_rfl) (by kernel_rfl) ?_)
  intro w41 cur46 hO42 hF43 hB44 hcl45
  have hsw41 := hF43.size
  have hF_47 := hF_28.trans hF43 (by simp <;> omega)
  refine V.pt h40 fun a h48 => ?_
  refine V.eh trivial ?_
  refine V.pz h48 [] 1 0 [(0, .slice (some ⟨g, 0, none⟩) (i + (xs.length - (i + 1))) c)] fun a h49 => k25 _ _ ?_
  refine V.sg fun K50 k51 => ?_
  refine V.run h49 [] 4 28 28 [(27, .slice (some ⟨g, 0, none⟩) (i + (xs.length - (i + 1))) c), (29, .int .i64 (((i + (xs.length - (i + 1))) : Nat) : Int)), (30, .int .i64 ((xs.length : Nat) : Int))] fun a h52 => ?_
  refine V.go (V.slc (e := 86) (sz := 2) g 0 (i + (xs.length - (i + 1))) c (i + (xs.length - (i + 1))) xs.length c (h52.e (v := (.slice (some ⟨g, 0, none⟩) (i + (xs.length - (i + 1))) c))) ⟨_, ((h52.e (v := (.int .i64 (((i + (xs.length - (i + 1))) : Nat) : Int))))).trans (V.int_eq (by omega))⟩ ⟨_, ((h52.e (v := (.int .i64 ((xs.length : Nat) : Int))))).trans (V.int_eq (by omega))⟩ rfl (by omega) (by omega) (by omega) (by kernel_rfl) (by kernel_rfl) ?_)
  intro ad53 had54 hae55
  obtain rfl := had54 (by omega)
  refine V.pt h52 fun a h56 => ?_
  refine V.go (V.clr1 (R := itI) (n := i + (xs.length - (i + 1))) hO42 herl hB44 hcl45 (by omega) ((h56.e (v := (.slice (some ⟨g, 0 + (i + (xs.length - (i + 1))) * 2, none⟩) (xs.length - (i + (xs.length - (i + 1)))) (c - (i + (xs.length - (i + 1))))))).trans (V.sl_eq (by omega))) (by kernel_rfl) (info86c) rfl rfl ?_)
  intro w57 hO58 hF59 hsw57
  have hF_60 := hF_47.trans hF59 (by simp <;> omega)
  refine V.nt (k51 _ _ ?_)
  refine V.sr h56 [] 32 32 [(6, .slice (some ⟨g, 0, none⟩) (i + (xs.length - (i + 1))) c)] fun a h63 => ?_
  refine V.ret ?_
  refine V.r1 h63 (.slice (some ⟨g, 0, none⟩) (i + (xs.length - (i + 1))) c) ?_
  have hq1 : i + (xs.length - (i + 1)) = xs.length - 1 := by omega
  rw [hq1] at hO58 ⊢
  exact ⟨rfl, hO58, hF_60⟩
set_option maxHeartbeats 4000000 in
set_option maxRecDepth 20000 in
theorem del_any (w : World) (H : Nat → Prop) (av : List Nat) (t : Nat) (T : Tb Int) (hT : TabX 67 87 86 itI w H av t T) (hm : T.Mv) (k : ByteArray) (hkz : k.size ≤ 9223372036854775807) : Calls Try.prog 39 #[.pointer (some ⟨t, 0, none⟩), .string k] w (fun e w' => e = .returned (.bool (findT (tbStep T) k).2) ∧ TabX 67 87 86 itI w' (gr H w w') av t (delT T k) ∧ FrP (gp H av) w w') := by
 have hFP := FrP.refl (gp H av) w
 obtain ⟨hok0, hm1⟩ := tbStep_ok hT.1 hm
 obtain ⟨T1, hT1⟩ : ∃ T1, T1 = tbStep T := ⟨_, rfl⟩
 rw [← hT1] at hok0 hm1 ⊢
 refine V.en 83 Try.func39 fun a h1 => ?_
 refine V.sr h1 [] 4 4 [] fun a h4 => ?_
 refine V.seq fun K5 k6 => ?_
 refine V.sg fun K7 k8 => ?_
 refine V.run h4 [] 1 1 0 [(9, .pointer (some ⟨t, 0, none⟩))] fun a h9 => ?_
 refine V.cl h9 (Go.Proofs.enters_of Try.func51 (by kernel_rfl) rfl) (made_any w (H) (av) t (T) hT) ?_
 rintro _ w11 ⟨rfl, hF10⟩
 refine ⟨_, rfl, fun a h12 => ?_⟩
 have hsw11 := hF10.size
 have hT_13 := hT.fr0 hF10
 have hFP_14 := hFP.tr0 hF10
 refine V.re h12 [] 1 0 [(11, .bool false)] fun a h15 => k8 _ _ ?_
 refine V.cf h15 ?_
 refine V.skip ?_
 refine V.then_n (k6 _ _ ?_)
 refine V.sg fun K16 k17 => ?_
 refine V.run h15 [] 1 1 0 [(12, .pointer (some ⟨t, 0, none⟩))] fun a h18 => ?_
 refine V.cl h18 (Go.Proofs.enters_of Try.func64 (by kernel_rfl) rfl) (step_any w11 (H) (av) t (T) hT_13 hm) ?_
 rintro _ w21 ⟨rfl, hT19, hfp20⟩
 refine ⟨_, rfl, fun a h22 => ?_⟩
 have hsw21 := hfp20.size
 have hFP_23 := hFP_14.trP hfp20 (fun k hk => .inl hk)
 have hT19q := hT19.grm (w := w) (by omega)
 rw [← hT1] at hT19q
 refine V.nt (k17 _ _ ?_)
 refine V.sg fun K24 k25 => ?_
 refine V.run h22 [] 2 1 0 [(15, .pointer (some ⟨t, 0, none⟩)), (16, .string k)] fun a h26 => ?_
 have hok1 := hT19q.1
 rcases findT_cases hok1 k with hf | ⟨j, hf, hj⟩ | ⟨hbn, j, hf, hj⟩
 ·
  rcases hT19q.2 with ⟨hb0, gA, vsA, hN⟩ | ⟨hb0, gA, gB, vsA, vsB, hN⟩
  ·
   have hb1 : T1.b.length = 0 := by rw [hb0]; rfl
   obtain ⟨hB, hRA, hlA, hK, hne, hpt, hpg⟩ := hN
   replace hK := hK.toH
   have hltt := hB.lt
   have hltg := hRA.lt
   have hE : FrP (gp (gr H w w21) av) w21 w21 := FrP.refl _ _
   have hK0 : ∀ k ∈ av, k < w21.heap.size := fun k hk => hK.avl k (by simp [hk])
   obtain ⟨hsd, hpa, hla, hlb, hmv, hmz, hnn, hcn, hks⟩ := (show T1.Ok from hok1)
   have hbl := hok1.bl
   have hFPE := hFP_23
   refine V.cl (av := #[.pointer (some ⟨t, 0, none⟩), .string k]) h26 (Go.Proofs.enters_of Try.func53 (by kernel_rfl) rfl) (by have h := find_any w21 (gr H w w21) (av) t T1 hT19q k hkz; rw [hf] at h; exact h) ?_
   rintro _ w28 ⟨rfl, hF27⟩
   refine ⟨_, rfl, fun a h29 => ?_⟩
   have hsw28 := hF27.size
   have hB_30 := hB.fr0 hF27
   have hRA_31 := hRA.fr0 hF27
   have hK_32 := hK.fr0 hF27
   have hE_33 := hE.tr0 hF27
   refine V.run h29 [] 3 14 14 [(18, .agg #[.int .i64 0, .int .i64 0, .int .i64 0]), (19, .bool false)] fun a h38 => ?_
   refine V.go (V.mk [] trivial (by kernel_rfl) [.int .i64 0, .int .i64 0, .int .i64 0] 82 (fun b => .pointer (some ⟨b, 0, none⟩)) (by kernel_rfl) ?_)
   intro w35 b34 heb34 hB36 hF37 hsb34
   have hB_39 := hB_30.fr0 hF37
   have hRA_40 := hRA_31.fr0 hF37
   have hK_41 := hK_32.alloc hF37 heb34 (by omega)
   have hE_42 := hE_33.tr0 hF37
   refine V.pt h38 fun a h43 => ?_
   refine V.go (V.stn b34 0 (.agg #[.int .i64 0, .int .i64 0, .int .i64 0]) [.int .i64 0, .int .i64 0, .int .i64 0] h43.e h43.e rfl rfl (by kernel_rfl) hB36 (by simp) [.int .i64 0, .int .i64 0, .int .i64 0] rfl ?_)
   intro w44 hB45 hF46 hsw44
   have hB_47 := hB_39.fr1 hF46 (by omega)
   have hRA_48 := hRA_40.fr1 hF46 (by omega)
   have hK_49 := hK_41.fr hF46 (by simp)
   have hE_50 := hE_42.tr1 hF46 (by first | exact .inl (by assumption) | exact .inr (by omega) | exact .inl (.inl rfl))
   refine V.re h43 [] 1 0 [(6, .bool false)] fun a h51 => k25 _ _ ?_
   refine V.seq fun K52 k53 => ?_
   refine V.sr h51 [] 20 20 [(21, .bool true)] fun a h56 => ?_
   refine V.ct h56 ?_
   refine V.sr h56 [] 1 0 [(4, .bool false)] fun a h59 => ?_
   refine V.ret ?_
   refine V.then_r ?_
   refine V.r1 h59 (.bool false) ?_
   have hst : delT T k = T1 := by (unfold delT; rw [← hT1]; unfold del1T; rw [hf, if_neg (by simp)])
   rw [hst]
   exact ⟨by rw [hf], (TabN.fin (T := T1) hok1 hb0 hB_47 hRA_48 (by have h := hK_49; rw [List.append_nil, List.append_nil] at h; exact h) (mem3 (l := (b34 :: t :: gA :: av)) (by simp) (by simp) (by intro k hk; simp [hk])) (by first | assumption | exact Ne.symm (by assumption) | omega) hpt ⟨.inl hpg.1, hpg.2⟩ rfl rfl rfl rfl rfl).gr3 (by omega), (hFPE.gr hE_50)⟩
  ·
   have hb1 : T1.b.length ≠ 0 := fun h => hb0 (List.eq_nil_of_length_eq_zero h)
   obtain ⟨hB, hRA, hRB, hlA, hlB, hK, hne, hne2, hne3, hpt, hpg, hph⟩ := hN
   replace hK := hK.toH
   have hltt := hB.lt
   have hltg := hRA.lt
   have hltg2 := hRB.lt
   have hE : FrP (gp (gr H w w21) av) w21 w21 := FrP.refl _ _
   have hK0 : ∀ k ∈ av, k < w21.heap.size := fun k hk => hK.avl k (by simp [hk])
   obtain ⟨hsd, hpa, hla, hlb, hmv, hmz, hnn, hcn, hks⟩ := (show T1.Ok from hok1)
   have hbl := hok1.bl
   have hFPE := hFP_23
   refine V.cl (av := #[.pointer (some ⟨t, 0, none⟩), .string k]) h26 (Go.Proofs.enters_of Try.func53 (by kernel_rfl) rfl) (by have h := find_any w21 (gr H w w21) (av) t T1 hT19q k hkz; rw [hf] at h; exact h) ?_
   rintro _ w61 ⟨rfl, hF60⟩
   refine ⟨_, rfl, fun a h62 => ?_⟩
   have hsw61 := hF60.size
   have hB_63 := hB.fr0 hF60
   have hRA_64 := hRA.fr0 hF60
   have hRB_65 := hRB.fr0 hF60
   have hK_66 := hK.fr0 hF60
   have hE_67 := hE.tr0 hF60
   refine V.run h62 [] 3 14 14 [(18, .agg #[.int .i64 0, .int .i64 0, .int .i64 0]), (19, .bool false)] fun a h72 => ?_
   refine V.go (V.mk [] trivial (by kernel_rfl) [.int .i64 0, .int .i64 0, .int .i64 0] 82 (fun b => .pointer (some ⟨b, 0, none⟩)) (by kernel_rfl) ?_)
   intro w69 b68 heb68 hB70 hF71 hsb68
   have hB_73 := hB_63.fr0 hF71
   have hRA_74 := hRA_64.fr0 hF71
   have hRB_75 := hRB_65.fr0 hF71
   have hK_76 := hK_66.alloc hF71 heb68 (by omega)
   have hE_77 := hE_67.tr0 hF71
   refine V.pt h72 fun a h78 => ?_
   refine V.go (V.stn b68 0 (.agg #[.int .i64 0, .int .i64 0, .int .i64 0]) [.int .i64 0, .int .i64 0, .int .i64 0] h78.e h78.e rfl rfl (by kernel_rfl) hB70 (by simp) [.int .i64 0, .int .i64 0, .int .i64 0] rfl ?_)
   intro w79 hB80 hF81 hsw79
   have hB_82 := hB_73.fr1 hF81 (by omega)
   have hRA_83 := hRA_74.fr1 hF81 (by omega)
   have hRB_84 := hRB_75.fr1 hF81 (by omega)
   have hK_85 := hK_76.fr hF81 (by simp)
   have hE_86 := hE_77.tr1 hF81 (by first | exact .inl (by assumption) | exact .inr (by omega) | exact .inl (.inl rfl))
   refine V.re h78 [] 1 0 [(6, .bool false)] fun a h87 => k25 _ _ ?_
   refine V.seq fun K88 k89 => ?_
   refine V.sr h87 [] 20 20 [(21, .bool true)] fun a h92 => ?_
   refine V.ct h92 ?_
   refine V.sr h92 [] 1 0 [(4, .bool false)] fun a h95 => ?_
   refine V.ret ?_
   refine V.then_r ?_
   refine V.r1 h95 (.bool false) ?_
   have hst : delT T k = T1 := by (unfold delT; rw [← hT1]; unfold del1T; rw [hf, if_neg (by simp)])
   rw [hst]
   exact ⟨by rw [hf], (TabM.fin (T := T1) hok1 hb0 hB_82 hRA_83 hRB_84 (by first | exact hlA | (simp only [List.length_set]; exact hlA)) hK_85 (mem4 (l := (b68 :: t :: gA :: gB :: av)) (by simp) (by simp) (by simp) (by intro k hk; simp [hk])) (by first | assumption | omega) (by first | assumption | omega) (by first | assumption | omega) hpt ⟨.inl hpg.1, hpg.2⟩ ⟨.inl hph.1, hph.2⟩ rfl rfl rfl rfl rfl rfl rfl).gr3 (by omega), (hFPE.gr hE_86)⟩
 ·
  rcases hT19q.2 with ⟨hb0, gA, vsA, hN⟩ | ⟨hb0, gA, gB, vsA, vsB, hN⟩
  ·
   have hb1 : T1.b.length = 0 := by rw [hb0]; rfl
   obtain ⟨hB, hRA, hlA, hK, hne, hpt, hpg⟩ := hN
   replace hK := hK.toH
   have hltt := hB.lt
   have hltg := hRA.lt
   have hE : FrP (gp (gr H w w21) av) w21 w21 := FrP.refl _ _
   have hK0 : ∀ k ∈ av, k < w21.heap.size := fun k hk => hK.avl k (by simp [hk])
   obtain ⟨hsd, hpa, hla, hlb, hmv, hmz, hnn, hcn, hks⟩ := (show T1.Ok from hok1)
   have hbl := hok1.bl
   have hFPE := hFP_23
   refine V.cl (av := #[.pointer (some ⟨t, 0, none⟩), .string k]) h26 (Go.Proofs.enters_of Try.func53 (by kernel_rfl) rfl) (by have h := find_any w21 (gr H w w21) (av) t T1 hT19q k hkz; rw [hf] at h; exact h) ?_
   rintro _ w97 ⟨rfl, hF96⟩
   refine ⟨_, rfl, fun a h98 => ?_⟩
   have hsw97 := hF96.size
   have hB_99 := hB.fr0 hF96
   have hRA_100 := hRA.fr0 hF96
   have hK_101 := hK.fr0 hF96
   have hE_102 := hE.tr0 hF96
   have hbkl := bkt_lt T1.seed k (n := T1.a.length) (by omega)
   refine V.run h98 [] 3 14 14 [(18, .agg #[.int .i64 0, .int .i64 ((bkt T1.seed T1.a.length k : Nat) : Int), .int .i64 (j : Int)]), (19, .bool true)] fun a h107 => ?_
   refine V.go (V.mk [] trivial (by kernel_rfl) [.int .i64 0, .int .i64 0, .int .i64 0] 82 (fun b => .pointer (some ⟨b, 0, none⟩)) (by kernel_rfl) ?_)
   intro w104 b103 heb103 hB105 hF106 hsb103
   have hB_108 := hB_99.fr0 hF106
   have hRA_109 := hRA_100.fr0 hF106
   have hK_110 := hK_101.alloc hF106 heb103 (by omega)
   have hE_111 := hE_102.tr0 hF106
   refine V.pt h107 fun a h112 => ?_
   refine V.go (V.stn b103 0 (.agg #[.int .i64 0, .int .i64 ((bkt T1.seed T1.a.length k : Nat) : Int), .int .i64 (j : Int)]) [.int .i64 0, .int .i64 ((bkt T1.seed T1.a.length k : Nat) : Int), .int .i64 (j : Int)] h112.e h112.e rfl rfl (by kernel_rfl) hB105 (by simp) [.int .i64 0, .int .i64 ((bkt T1.seed T1.a.length k : Nat) : Int), .int .i64 (j : Int)] rfl ?_)
   intro w113 hB114 hF115 hsw113
   have hB_116 := hB_108.fr1 hF115 (by omega)
   have hRA_117 := hRA_109.fr1 hF115 (by omega)
   have hK_118 := hK_110.fr hF115 (by simp)
   have hE_119 := hE_111.tr1 hF115 (by first | exact .inl (by assumption) | exact .inr (by omega) | exact .inl (.inl rfl))
   refine V.re h112 [] 1 0 [(6, .bool true)] fun a h120 => k25 _ _ ?_
   refine V.seq fun K121 k122 => ?_
   refine V.sr h120 [] 20 20 [(21, .bool false)] fun a h125 => ?_
   refine V.cf h125 ?_
   refine V.skip ?_
   refine V.then_n (k122 _ _ ?_)
   refine V.seq fun K126 k127 => ?_
   have hbq := hbl (bkt T1.seed T1.a.length k)
   refine V.pl [([0,1,2,3,4,5,6,7,8,9,10,11],none)] fun w128 hF129 hsw128 => ?_
   have hB_130 := hB_116.fr0 hF129
   have hRA_131 := hRA_117.fr0 hF129
   have hK_132 := hK_118.fr0 hF129
   have hE_133 := hE_119.tr0 hF129
   have hB114_134 := hB114.fr0 hF129
   obtain ⟨A135, c136, hv137⟩ := hK_132.getA hlA (i := (bkt T1.seed T1.a.length k)) (by omega) nilS
   have hS138 := hK_132.slA hlA (i := (bkt T1.seed T1.a.length k)) (by omega) hv137
   refine V.pz h125 [(2, .b hB114_134 0), (3, .b hB_130 1), (1, .b hB114_134 1), (0, .ix gA 0 T1.a.length T1.a.length .i64 ((bkt T1.seed T1.a.length k : Nat) : Int) 1 rfl), (0, .l ⟨gA, 0 + ((bkt T1.seed T1.a.length k : Nat) : Int).toNat * 1, none⟩ (.slice A135 ((T1.a.getD (bkt T1.seed T1.a.length k) []).length) c136) ((hRA_131.at (bkt T1.seed T1.a.length k) nilS (by omega)).trans (congrArg some hv137)))] 22 32 [(7, .slice A135 ((T1.a.getD (bkt T1.seed T1.a.length k) []).length) c136)] fun a h139 => k127 _ _ ?_
   refine V.seq fun K140 k141 => ?_
   refine V.pl [([0,1,2,3,4,5,6,7,8,9,10,11,12,13,14],some (15,[2,6,8])),([16],some (17,[])),([],none)] fun w142 hF143 hsw142 => ?_
   have hB_144 := hB_130.fr0 hF143
   have hRA_145 := hRA_131.fr0 hF143
   have hK_146 := hK_132.fr0 hF143
   have hE_147 := hE_133.tr0 hF143
   have hB114_148 := hB114_134.fr0 hF143
   have hS138_149 := hS138.fr0 hF143
   refine V.pe h139 [(2, .b hB114_148 0), (3, .b hB_144 1), (1, .b hB114_148 1), (2, .b hB114_148 2), (1, .b hB114_148 2), (0, .i ((j : Int) + 1))] 33 46 [(34, .pointer (some ⟨b103, 0, none⟩)), (38, .pointer (some ⟨t, 1, none⟩)), (39, .slice (some ⟨gA, 0, none⟩) T1.a.length T1.a.length), (40, .pointer (some ⟨b103, 1, none⟩)), (41, .int .i64 ((bkt T1.seed T1.a.length k : Nat) : Int)), (42, .slice A135 ((T1.a.getD (bkt T1.seed T1.a.length k) []).length) c136), (44, .int .i64 (j : Int)), (47, .int .i64 ((j : Int) + 1))] fun a h150 => ?_
   obtain ⟨g151, hAe, hO152, hc153, ho154⟩ := hK_146.ownA hlA (i := (bkt T1.seed T1.a.length k)) (by omega) hv137 (by omega)
   rw [hAe] at hv137
   refine V.cl (av := #[.slice A135 ((T1.a.getD (bkt T1.seed T1.a.length k) []).length) c136, .int .i64 (j : Int), .int .i64 ((j : Int) + 1)]) h150 (Go.Proofs.enters_of Try.func68 (by kernel_rfl) rfl) (by (rw [hAe]; exact delete_any w142 g151 c136 j (T1.a.getD (bkt T1.seed T1.a.length k) []) hO152 (by omega) hc153 (by omega))) ?_
   rintro _ w158 ⟨rfl, hOr155, hF156⟩
   refine ⟨_, rfl, fun a h159 => ?_⟩
   have hsw158 := hF156.size
   have hB_160 := hB_144.fr hF156 (fun hm => (ho154 _ hm).1 (by simp))
   have hRA_161 := hRA_145.fr hF156 (fun hm => (ho154 _ hm).1 (by simp))
   have hE_162 := hE_147.tr hF156 (fun k hk => ((ho154 k hk).2).imp (fun h => ⟨h, fun hm => (ho154 k hk).1 (by simp [hm])⟩) id)
   have hB114_163 := hB114_148.fr hF156 (fun hm => (ho154 _ hm).1 (by simp))
   have hK157 := hK_146.setA hlA (i := (bkt T1.seed T1.a.length k)) (by omega) hv137 hF156 hOr155 (.inr (by omega))
   refine V.eh ⟨(fun _ => held_blk (n := 1) (hx := (h150.e (v := (.pointer (some ⟨b103, 0, none⟩))))) hB114_148 hB114_163 (by kernel_rfl) rfl (by simp only [List.length]; omega)), (fun _ => held_blk (n := 1) (hx := (h150.e (v := (.pointer (some ⟨t, 1, none⟩))))) hB_144 hB_160 (by kernel_rfl) rfl (by simp only [List.length]; omega)), (fun _ => held_blk (n := 1) (hx := (h150.e (v := (.pointer (some ⟨b103, 1, none⟩))))) hB114_148 hB114_163 (by kernel_rfl) rfl (by simp only [List.length]; omega))⟩ ?_
   refine V.pe h159 [(0, .ix gA 0 T1.a.length T1.a.length .i64 ((bkt T1.seed T1.a.length k : Nat) : Int) 1 rfl)] 1 0 [(49, .pointer (some ⟨gA, 0 + ((bkt T1.seed T1.a.length k : Nat) : Int).toNat * 1, none⟩))] fun a h164 => ?_
   refine V.go (V.strow (enc := idV) gA (((bkt T1.seed T1.a.length k : Nat) : Int).toNat) (.slice (some ⟨g151, 0, none⟩) ((T1.a.getD (bkt T1.seed T1.a.length k) []).length - 1) c136) h164.e h164.e rfl rfl (by kernel_rfl) hRA_161 (by first | omega | (simp only [List.length_set, List.length_replicate]; omega)) ?_)
   intro w165 hR166 hF167 hsw165
   have hB_168 := hB_160.fr1 hF167 (by omega)
   have hE_169 := hE_162.tr1 hF167 (by first | exact .inl (by assumption) | exact .inr (by omega) | exact .inl (.inl rfl))
   have hB114_170 := hB114_163.fr1 hF167 (by omega)
   have hK157_171 := hK157.fr hF167 (by simp)
   refine V.eh trivial ?_
   refine V.pz h164 [] 1 0 [] fun a h172 => k141 _ _ ?_
   have h173 := h172.only [(0, .pointer (some ⟨t, 0, none⟩))]
   refine V.sg fun K174 k175 => ?_
   refine V.run h173 [(3, .b hB_168 4), (0, .i ((T1.n : Int) - 1))] 7 50 55 [(54, .int .i64 ((T1.n : Int) - 1)), (56, .pointer (some ⟨t, 4, none⟩))] fun a h179 => ?_
   refine V.go (V.stn t 4 (.int .i64 ((T1.n : Int) - 1)) [.int .i64 ((T1.n : Int) - 1)] h179.e h179.e rfl rfl (by kernel_rfl) hB_168 (by simp) [.int .u64 (T1.seed : Int), .slice (some ⟨gA, 0, none⟩) T1.a.length T1.a.length, .slice none 0 0, .int .i64 (T1.moved : Int), .int .i64 ((T1.n : Int) - 1)] rfl ?_)
   intro w176 hB177 hF178 hsw176
   have hE_180 := hE_169.tr1 hF178 (by first | exact .inl (by assumption) | exact .inr (by omega) | exact .inl (.inl rfl))
   have hB114_181 := hB114_170.fr1 hF178 (by omega)
   have hK157_182 := hK157_171.fr hF178 (by simp)
   have hR166_183 := hR166.fr1 hF178 (by omega)
   refine V.nt (k175 _ _ ?_)
   refine V.seq fun K184 k185 => ?_
   refine V.sr h179 [(4, .b hB177 1)] 57 62 [(8, .int .i64 ((T1.a.length : Nat) : Int))] fun a h188 => ?_
   refine V.sg fun K189 k190 => ?_
   refine V.run h188 [] 1 1 0 [(63, .pointer (some ⟨t, 0, none⟩))] fun a h191 => ?_
   refine V.cl h191 (Go.Proofs.enters_of Try.func65 (by kernel_rfl) rfl) (moves_N w176 t T1.seed T1.a.length 0 0 gA 0 (.int .i64 (T1.moved : Int)) (.int .i64 ((T1.n : Int) - 1)) hB177) ?_
   rintro _ w193 ⟨rfl, hF192⟩
   refine ⟨_, rfl, fun a h194 => ?_⟩
   have hsw193 := hF192.size
   have hE_195 := hE_180.tr0 hF192
   have hB114_196 := hB114_181.fr0 hF192
   have hK157_197 := hK157_182.fr0 hF192
   have hR166_198 := hR166_183.fr0 hF192
   have hB177_199 := hB177.fr0 hF192
   refine V.run h194 [] 6 65 69 [(70, .bool (decide (((T1.a.length : Nat) : Int) > 4)))] fun a h200 => ?_
   by_cases hg201 : ((T1.a.length : Nat) : Int) > 4
   ·
    have h202 := h200.kt 70 hg201
    refine V.re h202 [(3, .b hB177_199 4), (1, .q (.int .i64 (((T1.a.length : Nat) : Int) / 8)) (V.quo_i64 (by omega) (by omega) (by omega)))] 71 77 [(78, .bool (decide (((T1.n : Int) - 1) < (((T1.a.length : Nat) : Int) / 8))))] fun a h203 => k190 _ _ ?_
    refine V.cp h203 (((T1.n : Int) - 1) < (((T1.a.length : Nat) : Int) / 8)) (fun ht204 => ?_) (fun ht204 => ?_)
    ·
     refine V.rg ?_
     refine V.run h203 [(2, .quoN T1.a.length 2)] 3 80 80 [(79, .pointer (some ⟨t, 0, none⟩)), (81, .int .i64 ((T1.a.length / 2 : Nat) : Int))] fun a h205 => ?_
     have hu2 : rm1T T1 k = ({ T1 with a := rmV T1.a (bkt T1.seed T1.a.length k) j, n := T1.n - 1 } : Tb Int) := by (unfold rm1T; rw [hf]; simp)
     have hup := (rm1T_ok hok1 hm1 k (by rw [hf])).1
     rw [hu2] at hup
     have hN206 : TabN 67 87 86 itI w193 (gh (gr H w w21) w21) av t gA (vsA.set (((bkt T1.seed T1.a.length k : Nat) : Int).toNat) (.slice (some ⟨g151, 0, none⟩) ((T1.a.getD (bkt T1.seed T1.a.length k) []).length - 1) c136)) ({ T1 with a := rmV T1.a (bkt T1.seed T1.a.length k) j, n := T1.n - 1 } : Tb Int) := TabN.mk2 hB177_199 hR166_198 (by simpa [rmV] using hK157_197) (mem3 (by simp) (by simp) (by intro k hk; simp [hk])) hne ⟨.inl hpt.1, hpt.2⟩ ⟨.inl hpg.1, hpg.2⟩ rfl (rmV_length _ _ _).symm rfl (by show ((T1.n : Int) - 1) = ((T1.n - 1 : Nat) : Int); omega) rfl
     refine V.cl h205 (Go.Proofs.enters_of Try.func67 (by kernel_rfl) rfl) (start_N w193 (gh (gr H w w21) w21) av t gA _ ({ T1 with a := rmV T1.a (bkt T1.seed T1.a.length k) j, n := T1.n - 1 } : Tb Int) hup hN206 (T1.a.length / 2) hb0 (by omega) (by omega)) ?_
     rintro _ w209 ⟨rfl, hT207, hfp208⟩
     refine ⟨_, rfl, fun a h210 => ?_⟩
     have hsw209 := hfp208.size
     have hE_211 := hE_195.trP hfp208 (fun k hk => hk.1.imp (fun h => ⟨h, hk.2⟩) id)
     refine V.nt (k185 _ _ ?_)
     refine V.sr h210 [] 1 0 [(4, .bool true)] fun a h214 => ?_
     refine V.ret ?_
     refine V.r1 h214 (.bool true) ?_
     have hst : delT T k = shrT (rm1T T1 k) := by (unfold delT; rw [← hT1]; unfold del1T; rw [hf, if_pos rfl])
     rw [hst, hu2]
     have hsh : shrT ({ T1 with a := rmV T1.a (bkt T1.seed T1.a.length k) j, n := T1.n - 1 } : Tb Int) = startT ({ T1 with a := rmV T1.a (bkt T1.seed T1.a.length k) j, n := T1.n - 1 } : Tb Int) (T1.a.length / 2) := by (unfold shrT; rw [if_pos ⟨hb1, by show 4 < (rmV T1.a (bkt T1.seed T1.a.length k) j).length; rw [rmV_length]; omega, by show T1.n - 1 < (rmV T1.a (bkt T1.seed T1.a.length k) j).length / 8; rw [rmV_length]; omega⟩]; show startT _ ((rmV T1.a (bkt T1.seed T1.a.length k) j).length / 2) = _; rw [rmV_length])
     rw [hsh]
     exact ⟨by rw [hf], (hT207.gr2 (by omega)).gr3 (by omega), (hFPE.gr hE_211)⟩
    ·
     refine V.skip ?_
     refine V.then_n (k185 _ _ ?_)
     refine V.sr h203 [] 1 0 [(4, .bool true)] fun a h217 => ?_
     refine V.ret ?_
     refine V.r1 h217 (.bool true) ?_
     have hst : delT T k = shrT (rm1T T1 k) := by (unfold delT; rw [← hT1]; unfold del1T; rw [hf, if_pos rfl])
     have hu2 : rm1T T1 k = ({ T1 with a := rmV T1.a (bkt T1.seed T1.a.length k) j, n := T1.n - 1 } : Tb Int) := by (unfold rm1T; rw [hf]; simp)
     have hup := (rm1T_ok hok1 hm1 k (by rw [hf])).1
     rw [hu2] at hup
     rw [hst, hu2]
     have hsh : shrT ({ T1 with a := rmV T1.a (bkt T1.seed T1.a.length k) j, n := T1.n - 1 } : Tb Int) = ({ T1 with a := rmV T1.a (bkt T1.seed T1.a.length k) j, n := T1.n - 1 } : Tb Int) := by (unfold shrT; rw [if_neg]; rintro ⟨_, h1, h2⟩; (have h3 : 4 < (rmV T1.a (bkt T1.seed T1.a.length k) j).length := h1); (have h4 : T1.n - 1 < (rmV T1.a (bkt T1.seed T1.a.length k) j).length / 8 := h2); rw [rmV_length] at h3 h4; omega)
     rw [hsh]
     exact ⟨by rw [hf], (TabN.fin (T := ({ T1 with a := rmV T1.a (bkt T1.seed T1.a.length k) j, n := T1.n - 1 } : Tb Int)) hup hb0 hB177_199 hR166_198 (by have h := hK157_197; rw [List.append_nil, List.append_nil] at h; exact h) (mem3 (l := (b103 :: t :: gA :: av)) (by simp) (by simp) (by intro k hk; simp [hk])) (by first | assumption | exact Ne.symm (by assumption) | omega) hpt ⟨.inl hpg.1, hpg.2⟩ rfl (rmV_length _ _ _).symm rfl (by show ((T1.n : Int) - 1) = ((T1.n - 1 : Nat) : Int); omega) rfl).gr3 (by omega), (hFPE.gr hE_195)⟩
   ·
    have h218 := h200.kf 70 hg201
    refine V.re h218 [] 71 77 [(78, .bool false)] fun a h219 => k190 _ _ ?_
    refine V.cf h219 ?_
    refine V.skip ?_
    refine V.then_n (k185 _ _ ?_)
    refine V.sr h219 [] 1 0 [(4, .bool true)] fun a h222 => ?_
    refine V.ret ?_
    refine V.r1 h222 (.bool true) ?_
    have hst : delT T k = shrT (rm1T T1 k) := by (unfold delT; rw [← hT1]; unfold del1T; rw [hf, if_pos rfl])
    have hu2 : rm1T T1 k = ({ T1 with a := rmV T1.a (bkt T1.seed T1.a.length k) j, n := T1.n - 1 } : Tb Int) := by (unfold rm1T; rw [hf]; simp)
    have hup := (rm1T_ok hok1 hm1 k (by rw [hf])).1
    rw [hu2] at hup
    rw [hst, hu2]
    have hsh : shrT ({ T1 with a := rmV T1.a (bkt T1.seed T1.a.length k) j, n := T1.n - 1 } : Tb Int) = ({ T1 with a := rmV T1.a (bkt T1.seed T1.a.length k) j, n := T1.n - 1 } : Tb Int) := by (unfold shrT; rw [if_neg]; rintro ⟨_, h1, h2⟩; (have h3 : 4 < (rmV T1.a (bkt T1.seed T1.a.length k) j).length := h1); (have h4 : T1.n - 1 < (rmV T1.a (bkt T1.seed T1.a.length k) j).length / 8 := h2); rw [rmV_length] at h3 h4; omega)
    rw [hsh]
    exact ⟨by rw [hf], (TabN.fin (T := ({ T1 with a := rmV T1.a (bkt T1.seed T1.a.length k) j, n := T1.n - 1 } : Tb Int)) hup hb0 hB177_199 hR166_198 (by have h := hK157_197; rw [List.append_nil, List.append_nil] at h; exact h) (mem3 (l := (b103 :: t :: gA :: av)) (by simp) (by simp) (by intro k hk; simp [hk])) (by first | assumption | exact Ne.symm (by assumption) | omega) hpt ⟨.inl hpg.1, hpg.2⟩ rfl (rmV_length _ _ _).symm rfl (by show ((T1.n : Int) - 1) = ((T1.n - 1 : Nat) : Int); omega) rfl).gr3 (by omega), (hFPE.gr hE_195)⟩
  ·
   have hb1 : T1.b.length ≠ 0 := fun h => hb0 (List.eq_nil_of_length_eq_zero h)
   obtain ⟨hB, hRA, hRB, hlA, hlB, hK, hne, hne2, hne3, hpt, hpg, hph⟩ := hN
   replace hK := hK.toH
   have hltt := hB.lt
   have hltg := hRA.lt
   have hltg2 := hRB.lt
   have hE : FrP (gp (gr H w w21) av) w21 w21 := FrP.refl _ _
   have hK0 : ∀ k ∈ av, k < w21.heap.size := fun k hk => hK.avl k (by simp [hk])
   obtain ⟨hsd, hpa, hla, hlb, hmv, hmz, hnn, hcn, hks⟩ := (show T1.Ok from hok1)
   have hbl := hok1.bl
   have hFPE := hFP_23
   refine V.cl (av := #[.pointer (some ⟨t, 0, none⟩), .string k]) h26 (Go.Proofs.enters_of Try.func53 (by kernel_rfl) rfl) (by have h := find_any w21 (gr H w w21) (av) t T1 hT19q k hkz; rw [hf] at h; exact h) ?_
   rintro _ w224 ⟨rfl, hF223⟩
   refine ⟨_, rfl, fun a h225 => ?_⟩
   have hsw224 := hF223.size
   have hB_226 := hB.fr0 hF223
   have hRA_227 := hRA.fr0 hF223
   have hRB_228 := hRB.fr0 hF223
   have hK_229 := hK.fr0 hF223
   have hE_230 := hE.tr0 hF223
   have hbkl := bkt_lt T1.seed k (n := T1.a.length) (by omega)
   refine V.run h225 [] 3 14 14 [(18, .agg #[.int .i64 0, .int .i64 ((bkt T1.seed T1.a.length k : Nat) : Int), .int .i64 (j : Int)]), (19, .bool true)] fun a h235 => ?_
   refine V.go (V.mk [] trivial (by kernel_rfl) [.int .i64 0, .int .i64 0, .int .i64 0] 82 (fun b => .pointer (some ⟨b, 0, none⟩)) (by kernel_rfl) ?_)
   intro w232 b231 heb231 hB233 hF234 hsb231
   have hB_236 := hB_226.fr0 hF234
   have hRA_237 := hRA_227.fr0 hF234
   have hRB_238 := hRB_228.fr0 hF234
   have hK_239 := hK_229.alloc hF234 heb231 (by omega)
   have hE_240 := hE_230.tr0 hF234
   refine V.pt h235 fun a h241 => ?_
   refine V.go (V.stn b231 0 (.agg #[.int .i64 0, .int .i64 ((bkt T1.seed T1.a.length k : Nat) : Int), .int .i64 (j : Int)]) [.int .i64 0, .int .i64 ((bkt T1.seed T1.a.length k : Nat) : Int), .int .i64 (j : Int)] h241.e h241.e rfl rfl (by kernel_rfl) hB233 (by simp) [.int .i64 0, .int .i64 ((bkt T1.seed T1.a.length k : Nat) : Int), .int .i64 (j : Int)] rfl ?_)
   intro w242 hB243 hF244 hsw242
   have hB_245 := hB_236.fr1 hF244 (by omega)
   have hRA_246 := hRA_237.fr1 hF244 (by omega)
   have hRB_247 := hRB_238.fr1 hF244 (by omega)
   have hK_248 := hK_239.fr hF244 (by simp)
   have hE_249 := hE_240.tr1 hF244 (by first | exact .inl (by assumption) | exact .inr (by omega) | exact .inl (.inl rfl))
   refine V.re h241 [] 1 0 [(6, .bool true)] fun a h250 => k25 _ _ ?_
   refine V.seq fun K251 k252 => ?_
   refine V.sr h250 [] 20 20 [(21, .bool false)] fun a h255 => ?_
   refine V.cf h255 ?_
   refine V.skip ?_
   refine V.then_n (k252 _ _ ?_)
   refine V.seq fun K256 k257 => ?_
   have hbq := hbl (bkt T1.seed T1.a.length k)
   refine V.pl [([0,1,2,3,4,5,6,7,8,9,10,11],none)] fun w258 hF259 hsw258 => ?_
   have hB_260 := hB_245.fr0 hF259
   have hRA_261 := hRA_246.fr0 hF259
   have hRB_262 := hRB_247.fr0 hF259
   have hK_263 := hK_248.fr0 hF259
   have hE_264 := hE_249.tr0 hF259
   have hB243_265 := hB243.fr0 hF259
   obtain ⟨A266, c267, hv268⟩ := hK_263.getA hlA (i := (bkt T1.seed T1.a.length k)) (by omega) nilS
   have hS269 := hK_263.slA hlA (i := (bkt T1.seed T1.a.length k)) (by omega) hv268
   refine V.pz h255 [(2, .b hB243_265 0), (3, .b hB_260 1), (1, .b hB243_265 1), (0, .ix gA 0 T1.a.length T1.a.length .i64 ((bkt T1.seed T1.a.length k : Nat) : Int) 1 rfl), (0, .l ⟨gA, 0 + ((bkt T1.seed T1.a.length k : Nat) : Int).toNat * 1, none⟩ (.slice A266 ((T1.a.getD (bkt T1.seed T1.a.length k) []).length) c267) ((hRA_261.at (bkt T1.seed T1.a.length k) nilS (by omega)).trans (congrArg some hv268)))] 22 32 [(7, .slice A266 ((T1.a.getD (bkt T1.seed T1.a.length k) []).length) c267)] fun a h270 => k257 _ _ ?_
   refine V.seq fun K271 k272 => ?_
   refine V.pl [([0,1,2,3,4,5,6,7,8,9,10,11,12,13,14],some (15,[2,6,8])),([16],some (17,[])),([],none)] fun w273 hF274 hsw273 => ?_
   have hB_275 := hB_260.fr0 hF274
   have hRA_276 := hRA_261.fr0 hF274
   have hRB_277 := hRB_262.fr0 hF274
   have hK_278 := hK_263.fr0 hF274
   have hE_279 := hE_264.tr0 hF274
   have hB243_280 := hB243_265.fr0 hF274
   have hS269_281 := hS269.fr0 hF274
   refine V.pe h270 [(2, .b hB243_280 0), (3, .b hB_275 1), (1, .b hB243_280 1), (2, .b hB243_280 2), (1, .b hB243_280 2), (0, .i ((j : Int) + 1))] 33 46 [(34, .pointer (some ⟨b231, 0, none⟩)), (38, .pointer (some ⟨t, 1, none⟩)), (39, .slice (some ⟨gA, 0, none⟩) T1.a.length T1.a.length), (40, .pointer (some ⟨b231, 1, none⟩)), (41, .int .i64 ((bkt T1.seed T1.a.length k : Nat) : Int)), (42, .slice A266 ((T1.a.getD (bkt T1.seed T1.a.length k) []).length) c267), (44, .int .i64 (j : Int)), (47, .int .i64 ((j : Int) + 1))] fun a h282 => ?_
   obtain ⟨g283, hAe, hO284, hc285, ho286⟩ := hK_278.ownA hlA (i := (bkt T1.seed T1.a.length k)) (by omega) hv268 (by omega)
   rw [hAe] at hv268
   refine V.cl (av := #[.slice A266 ((T1.a.getD (bkt T1.seed T1.a.length k) []).length) c267, .int .i64 (j : Int), .int .i64 ((j : Int) + 1)]) h282 (Go.Proofs.enters_of Try.func68 (by kernel_rfl) rfl) (by (rw [hAe]; exact delete_any w273 g283 c267 j (T1.a.getD (bkt T1.seed T1.a.length k) []) hO284 (by omega) hc285 (by omega))) ?_
   rintro _ w290 ⟨rfl, hOr287, hF288⟩
   refine ⟨_, rfl, fun a h291 => ?_⟩
   have hsw290 := hF288.size
   have hB_292 := hB_275.fr hF288 (fun hm => (ho286 _ hm).1 (by simp))
   have hRA_293 := hRA_276.fr hF288 (fun hm => (ho286 _ hm).1 (by simp))
   have hRB_294 := hRB_277.fr hF288 (fun hm => (ho286 _ hm).1 (by simp))
   have hE_295 := hE_279.tr hF288 (fun k hk => ((ho286 k hk).2).imp (fun h => ⟨h, fun hm => (ho286 k hk).1 (by simp [hm])⟩) id)
   have hB243_296 := hB243_280.fr hF288 (fun hm => (ho286 _ hm).1 (by simp))
   have hK289 := hK_278.setA hlA (i := (bkt T1.seed T1.a.length k)) (by omega) hv268 hF288 hOr287 (.inr (by omega))
   refine V.eh ⟨(fun _ => held_blk (n := 1) (hx := (h282.e (v := (.pointer (some ⟨b231, 0, none⟩))))) hB243_280 hB243_296 (by kernel_rfl) rfl (by simp only [List.length]; omega)), (fun _ => held_blk (n := 1) (hx := (h282.e (v := (.pointer (some ⟨t, 1, none⟩))))) hB_275 hB_292 (by kernel_rfl) rfl (by simp only [List.length]; omega)), (fun _ => held_blk (n := 1) (hx := (h282.e (v := (.pointer (some ⟨b231, 1, none⟩))))) hB243_280 hB243_296 (by kernel_rfl) rfl (by simp only [List.length]; omega))⟩ ?_
   refine V.pe h291 [(0, .ix gA 0 T1.a.length T1.a.length .i64 ((bkt T1.seed T1.a.length k : Nat) : Int) 1 rfl)] 1 0 [(49, .pointer (some ⟨gA, 0 + ((bkt T1.seed T1.a.length k : Nat) : Int).toNat * 1, none⟩))] fun a h297 => ?_
   refine V.go (V.strow (enc := idV) gA (((bkt T1.seed T1.a.length k : Nat) : Int).toNat) (.slice (some ⟨g283, 0, none⟩) ((T1.a.getD (bkt T1.seed T1.a.length k) []).length - 1) c267) h297.e h297.e rfl rfl (by kernel_rfl) hRA_293 (by first | omega | (simp only [List.length_set, List.length_replicate]; omega)) ?_)
   intro w298 hR299 hF300 hsw298
   have hB_301 := hB_292.fr1 hF300 (by omega)
   have hRB_302 := hRB_294.fr1 hF300 (by omega)
   have hE_303 := hE_295.tr1 hF300 (by first | exact .inl (by assumption) | exact .inr (by omega) | exact .inl (.inl rfl))
   have hB243_304 := hB243_296.fr1 hF300 (by omega)
   have hK289_305 := hK289.fr hF300 (by simp)
   refine V.eh trivial ?_
   refine V.pz h297 [] 1 0 [] fun a h306 => k272 _ _ ?_
   have h307 := h306.only [(0, .pointer (some ⟨t, 0, none⟩))]
   refine V.sg fun K308 k309 => ?_
   refine V.run h307 [(3, .b hB_301 4), (0, .i ((T1.n : Int) - 1))] 7 50 55 [(54, .int .i64 ((T1.n : Int) - 1)), (56, .pointer (some ⟨t, 4, none⟩))] fun a h313 => ?_
   refine V.go (V.stn t 4 (.int .i64 ((T1.n : Int) - 1)) [.int .i64 ((T1.n : Int) - 1)] h313.e h313.e rfl rfl (by kernel_rfl) hB_301 (by simp) [.int .u64 (T1.seed : Int), .slice (some ⟨gA, 0, none⟩) T1.a.length T1.a.length, .slice (some ⟨gB, 0, none⟩) T1.b.length T1.b.length, .int .i64 (T1.moved : Int), .int .i64 ((T1.n : Int) - 1)] rfl ?_)
   intro w310 hB311 hF312 hsw310
   have hRB_314 := hRB_302.fr1 hF312 (by omega)
   have hE_315 := hE_303.tr1 hF312 (by first | exact .inl (by assumption) | exact .inr (by omega) | exact .inl (.inl rfl))
   have hB243_316 := hB243_304.fr1 hF312 (by omega)
   have hK289_317 := hK289_305.fr hF312 (by simp)
   have hR299_318 := hR299.fr1 hF312 (by omega)
   refine V.nt (k309 _ _ ?_)
   refine V.seq fun K319 k320 => ?_
   refine V.sr h313 [(4, .b hB311 1)] 57 62 [(8, .int .i64 ((T1.a.length : Nat) : Int))] fun a h323 => ?_
   refine V.sg fun K324 k325 => ?_
   refine V.run h323 [] 1 1 0 [(63, .pointer (some ⟨t, 0, none⟩))] fun a h326 => ?_
   refine V.cl h326 (Go.Proofs.enters_of Try.func65 (by kernel_rfl) rfl) (moves_M w310 t T1.seed T1.a.length T1.b.length 0 gA gB (.int .i64 (T1.moved : Int)) (.int .i64 ((T1.n : Int) - 1)) hB311) ?_
   rintro _ w328 ⟨rfl, hF327⟩
   refine ⟨_, rfl, fun a h329 => ?_⟩
   have hsw328 := hF327.size
   have hRB_330 := hRB_314.fr0 hF327
   have hE_331 := hE_315.tr0 hF327
   have hB243_332 := hB243_316.fr0 hF327
   have hK289_333 := hK289_317.fr0 hF327
   have hR299_334 := hR299_318.fr0 hF327
   have hB311_335 := hB311.fr0 hF327
   refine V.re h329 [] 65 77 [(78, .bool false)] fun a h336 => k325 _ _ ?_
   refine V.cf h336 ?_
   refine V.skip ?_
   refine V.then_n (k320 _ _ ?_)
   refine V.sr h336 [] 1 0 [(4, .bool true)] fun a h339 => ?_
   refine V.ret ?_
   refine V.r1 h339 (.bool true) ?_
   have hst : delT T k = shrT (rm1T T1 k) := by (unfold delT; rw [← hT1]; unfold del1T; rw [hf, if_pos rfl])
   have hu2 : rm1T T1 k = ({ T1 with a := rmV T1.a (bkt T1.seed T1.a.length k) j, n := T1.n - 1 } : Tb Int) := by (unfold rm1T; rw [hf]; simp)
   have hup := (rm1T_ok hok1 hm1 k (by rw [hf])).1
   rw [hu2] at hup
   rw [hst, hu2]
   have hsh : shrT ({ T1 with a := rmV T1.a (bkt T1.seed T1.a.length k) j, n := T1.n - 1 } : Tb Int) = ({ T1 with a := rmV T1.a (bkt T1.seed T1.a.length k) j, n := T1.n - 1 } : Tb Int) := by (unfold shrT; rw [if_neg]; rintro ⟨h0, _⟩; exact hb1 (by first | exact h0 | (have h1 : (rmV T1.b (bkt T1.seed T1.b.length k) j).length = 0 := h0; rwa [rmV_length] at h1)))
   rw [hsh]
   exact ⟨by rw [hf], (TabM.fin (T := ({ T1 with a := rmV T1.a (bkt T1.seed T1.a.length k) j, n := T1.n - 1 } : Tb Int)) hup hb0 hB311_335 hR299_334 hRB_330 (by first | exact hlA | (simp only [List.length_set]; exact hlA)) hK289_333 (mem4 (l := (b231 :: t :: gA :: gB :: av)) (by simp) (by simp) (by simp) (by intro k hk; simp [hk])) (by first | assumption | omega) (by first | assumption | omega) (by first | assumption | omega) hpt ⟨.inl hpg.1, hpg.2⟩ ⟨.inl hph.1, hph.2⟩ rfl (rmV_length _ _ _).symm rfl (by show ((T1.n : Int) - 1) = ((T1.n - 1 : Nat) : Int); omega) rfl rfl rfl).gr3 (by omega), (hFPE.gr hE_331)⟩
 ·
  rcases hT19q.2 with ⟨hb0, gA, vsA, hN⟩ | ⟨hb0, gA, gB, vsA, vsB, hN⟩
  ·
   exact absurd (by rw [hb0]; rfl) hbn
  ·
   have hb1 : T1.b.length ≠ 0 := fun h => hb0 (List.eq_nil_of_length_eq_zero h)
   obtain ⟨hB, hRA, hRB, hlA, hlB, hK, hne, hne2, hne3, hpt, hpg, hph⟩ := hN
   replace hK := hK.toH
   have hltt := hB.lt
   have hltg := hRA.lt
   have hltg2 := hRB.lt
   have hE : FrP (gp (gr H w w21) av) w21 w21 := FrP.refl _ _
   have hK0 : ∀ k ∈ av, k < w21.heap.size := fun k hk => hK.avl k (by simp [hk])
   obtain ⟨hsd, hpa, hla, hlb, hmv, hmz, hnn, hcn, hks⟩ := (show T1.Ok from hok1)
   have hbl := hok1.bl
   have hFPE := hFP_23
   refine V.cl (av := #[.pointer (some ⟨t, 0, none⟩), .string k]) h26 (Go.Proofs.enters_of Try.func53 (by kernel_rfl) rfl) (by have h := find_any w21 (gr H w w21) (av) t T1 hT19q k hkz; rw [hf] at h; exact h) ?_
   rintro _ w341 ⟨rfl, hF340⟩
   refine ⟨_, rfl, fun a h342 => ?_⟩
   have hsw341 := hF340.size
   have hB_343 := hB.fr0 hF340
   have hRA_344 := hRA.fr0 hF340
   have hRB_345 := hRB.fr0 hF340
   have hK_346 := hK.fr0 hF340
   have hE_347 := hE.tr0 hF340
   have hbkl := bkt_lt T1.seed k (n := T1.b.length) (by omega)
   refine V.run h342 [] 3 14 14 [(18, .agg #[.int .i64 1, .int .i64 ((bkt T1.seed T1.b.length k : Nat) : Int), .int .i64 (j : Int)]), (19, .bool true)] fun a h352 => ?_
   refine V.go (V.mk [] trivial (by kernel_rfl) [.int .i64 0, .int .i64 0, .int .i64 0] 82 (fun b => .pointer (some ⟨b, 0, none⟩)) (by kernel_rfl) ?_)
   intro w349 b348 heb348 hB350 hF351 hsb348
   have hB_353 := hB_343.fr0 hF351
   have hRA_354 := hRA_344.fr0 hF351
   have hRB_355 := hRB_345.fr0 hF351
   have hK_356 := hK_346.alloc hF351 heb348 (by omega)
   have hE_357 := hE_347.tr0 hF351
   refine V.pt h352 fun a h358 => ?_
   refine V.go (V.stn b348 0 (.agg #[.int .i64 1, .int .i64 ((bkt T1.seed T1.b.length k : Nat) : Int), .int .i64 (j : Int)]) [.int .i64 1, .int .i64 ((bkt T1.seed T1.b.length k : Nat) : Int), .int .i64 (j : Int)] h358.e h358.e rfl rfl (by kernel_rfl) hB350 (by simp) [.int .i64 1, .int .i64 ((bkt T1.seed T1.b.length k : Nat) : Int), .int .i64 (j : Int)] rfl ?_)
   intro w359 hB360 hF361 hsw359
   have hB_362 := hB_353.fr1 hF361 (by omega)
   have hRA_363 := hRA_354.fr1 hF361 (by omega)
   have hRB_364 := hRB_355.fr1 hF361 (by omega)
   have hK_365 := hK_356.fr hF361 (by simp)
   have hE_366 := hE_357.tr1 hF361 (by first | exact .inl (by assumption) | exact .inr (by omega) | exact .inl (.inl rfl))
   refine V.re h358 [] 1 0 [(6, .bool true)] fun a h367 => k25 _ _ ?_
   refine V.seq fun K368 k369 => ?_
   refine V.sr h367 [] 20 20 [(21, .bool false)] fun a h372 => ?_
   refine V.cf h372 ?_
   refine V.skip ?_
   refine V.then_n (k369 _ _ ?_)
   refine V.seq fun K373 k374 => ?_
   have hbq := hbl (bkt T1.seed T1.b.length k)
   refine V.pl [([0,1,2,3,4,5,6,7,8,9,10,11],none)] fun w375 hF376 hsw375 => ?_
   have hB_377 := hB_362.fr0 hF376
   have hRA_378 := hRA_363.fr0 hF376
   have hRB_379 := hRB_364.fr0 hF376
   have hK_380 := hK_365.fr0 hF376
   have hE_381 := hE_366.tr0 hF376
   have hB360_382 := hB360.fr0 hF376
   obtain ⟨A383, c384, hv385⟩ := hK_380.getB hlA (i := (bkt T1.seed T1.b.length k)) (by omega) nilS
   have hS386 := hK_380.slB hlA (i := (bkt T1.seed T1.b.length k)) (by omega) hv385
   refine V.pz h372 [(2, .b hB360_382 0), (3, .b hB_377 2), (1, .b hB360_382 1), (0, .ix gB 0 T1.b.length T1.b.length .i64 ((bkt T1.seed T1.b.length k : Nat) : Int) 1 rfl), (0, .l ⟨gB, 0 + ((bkt T1.seed T1.b.length k : Nat) : Int).toNat * 1, none⟩ (.slice A383 ((T1.b.getD (bkt T1.seed T1.b.length k) []).length) c384) ((hRB_379.at (bkt T1.seed T1.b.length k) nilS (by omega)).trans (congrArg some hv385)))] 22 32 [(7, .slice A383 ((T1.b.getD (bkt T1.seed T1.b.length k) []).length) c384)] fun a h387 => k374 _ _ ?_
   refine V.seq fun K388 k389 => ?_
   refine V.pl [([0,1,2,3,4,5,6,7,8,9,10,11,12,13,14],some (15,[2,6,8])),([16],some (17,[])),([],none)] fun w390 hF391 hsw390 => ?_
   have hB_392 := hB_377.fr0 hF391
   have hRA_393 := hRA_378.fr0 hF391
   have hRB_394 := hRB_379.fr0 hF391
   have hK_395 := hK_380.fr0 hF391
   have hE_396 := hE_381.tr0 hF391
   have hB360_397 := hB360_382.fr0 hF391
   have hS386_398 := hS386.fr0 hF391
   refine V.pe h387 [(2, .b hB360_397 0), (3, .b hB_392 2), (1, .b hB360_397 1), (2, .b hB360_397 2), (1, .b hB360_397 2), (0, .i ((j : Int) + 1))] 33 46 [(34, .pointer (some ⟨b348, 0, none⟩)), (38, .pointer (some ⟨t, 2, none⟩)), (39, .slice (some ⟨gB, 0, none⟩) T1.b.length T1.b.length), (40, .pointer (some ⟨b348, 1, none⟩)), (41, .int .i64 ((bkt T1.seed T1.b.length k : Nat) : Int)), (42, .slice A383 ((T1.b.getD (bkt T1.seed T1.b.length k) []).length) c384), (44, .int .i64 (j : Int)), (47, .int .i64 ((j : Int) + 1))] fun a h399 => ?_
   obtain ⟨g400, hAe, hO401, hc402, ho403⟩ := hK_395.ownB hlA (i := (bkt T1.seed T1.b.length k)) (by omega) hv385 (by omega)
   rw [hAe] at hv385
   refine V.cl (av := #[.slice A383 ((T1.b.getD (bkt T1.seed T1.b.length k) []).length) c384, .int .i64 (j : Int), .int .i64 ((j : Int) + 1)]) h399 (Go.Proofs.enters_of Try.func68 (by kernel_rfl) rfl) (by (rw [hAe]; exact delete_any w390 g400 c384 j (T1.b.getD (bkt T1.seed T1.b.length k) []) hO401 (by omega) hc402 (by omega))) ?_
   rintro _ w407 ⟨rfl, hOr404, hF405⟩
   refine ⟨_, rfl, fun a h408 => ?_⟩
   have hsw407 := hF405.size
   have hB_409 := hB_392.fr hF405 (fun hm => (ho403 _ hm).1 (by simp))
   have hRA_410 := hRA_393.fr hF405 (fun hm => (ho403 _ hm).1 (by simp))
   have hRB_411 := hRB_394.fr hF405 (fun hm => (ho403 _ hm).1 (by simp))
   have hE_412 := hE_396.tr hF405 (fun k hk => ((ho403 k hk).2).imp (fun h => ⟨h, fun hm => (ho403 k hk).1 (by simp [hm])⟩) id)
   have hB360_413 := hB360_397.fr hF405 (fun hm => (ho403 _ hm).1 (by simp))
   have hK406 := hK_395.setB hlA (i := (bkt T1.seed T1.b.length k)) (by omega) hv385 hF405 hOr404 (.inr (by omega))
   refine V.eh ⟨(fun _ => held_blk (n := 1) (hx := (h399.e (v := (.pointer (some ⟨b348, 0, none⟩))))) hB360_397 hB360_413 (by kernel_rfl) rfl (by simp only [List.length]; omega)), (fun _ => held_blk (n := 1) (hx := (h399.e (v := (.pointer (some ⟨t, 2, none⟩))))) hB_392 hB_409 (by kernel_rfl) rfl (by simp only [List.length]; omega)), (fun _ => held_blk (n := 1) (hx := (h399.e (v := (.pointer (some ⟨b348, 1, none⟩))))) hB360_397 hB360_413 (by kernel_rfl) rfl (by simp only [List.length]; omega))⟩ ?_
   refine V.pe h408 [(0, .ix gB 0 T1.b.length T1.b.length .i64 ((bkt T1.seed T1.b.length k : Nat) : Int) 1 rfl)] 1 0 [(49, .pointer (some ⟨gB, 0 + ((bkt T1.seed T1.b.length k : Nat) : Int).toNat * 1, none⟩))] fun a h414 => ?_
   refine V.go (V.strow (enc := idV) gB (((bkt T1.seed T1.b.length k : Nat) : Int).toNat) (.slice (some ⟨g400, 0, none⟩) ((T1.b.getD (bkt T1.seed T1.b.length k) []).length - 1) c384) h414.e h414.e rfl rfl (by kernel_rfl) hRB_411 (by first | omega | (simp only [List.length_set, List.length_replicate]; omega)) ?_)
   intro w415 hR416 hF417 hsw415
   have hB_418 := hB_409.fr1 hF417 (by omega)
   have hRA_419 := hRA_410.fr1 hF417 (by omega)
   have hE_420 := hE_412.tr1 hF417 (by first | exact .inl (by assumption) | exact .inr (by omega) | exact .inl (.inl rfl))
   have hB360_421 := hB360_413.fr1 hF417 (by omega)
   have hK406_422 := hK406.fr hF417 (by simp)
   refine V.eh trivial ?_
   refine V.pz h414 [] 1 0 [] fun a h423 => k389 _ _ ?_
   have h424 := h423.only [(0, .pointer (some ⟨t, 0, none⟩))]
   refine V.sg fun K425 k426 => ?_
   refine V.run h424 [(3, .b hB_418 4), (0, .i ((T1.n : Int) - 1))] 7 50 55 [(54, .int .i64 ((T1.n : Int) - 1)), (56, .pointer (some ⟨t, 4, none⟩))] fun a h430 => ?_
   refine V.go (V.stn t 4 (.int .i64 ((T1.n : Int) - 1)) [.int .i64 ((T1.n : Int) - 1)] h430.e h430.e rfl rfl (by kernel_rfl) hB_418 (by simp) [.int .u64 (T1.seed : Int), .slice (some ⟨gA, 0, none⟩) T1.a.length T1.a.length, .slice (some ⟨gB, 0, none⟩) T1.b.length T1.b.length, .int .i64 (T1.moved : Int), .int .i64 ((T1.n : Int) - 1)] rfl ?_)
   intro w427 hB428 hF429 hsw427
   have hRA_431 := hRA_419.fr1 hF429 (by omega)
   have hE_432 := hE_420.tr1 hF429 (by first | exact .inl (by assumption) | exact .inr (by omega) | exact .inl (.inl rfl))
   have hB360_433 := hB360_421.fr1 hF429 (by omega)
   have hK406_434 := hK406_422.fr hF429 (by simp)
   have hR416_435 := hR416.fr1 hF429 (by omega)
   refine V.nt (k426 _ _ ?_)
   refine V.seq fun K436 k437 => ?_
   refine V.sr h430 [(4, .b hB428 1)] 57 62 [(8, .int .i64 ((T1.a.length : Nat) : Int))] fun a h440 => ?_
   refine V.sg fun K441 k442 => ?_
   refine V.run h440 [] 1 1 0 [(63, .pointer (some ⟨t, 0, none⟩))] fun a h443 => ?_
   refine V.cl h443 (Go.Proofs.enters_of Try.func65 (by kernel_rfl) rfl) (moves_M w427 t T1.seed T1.a.length T1.b.length 0 gA gB (.int .i64 (T1.moved : Int)) (.int .i64 ((T1.n : Int) - 1)) hB428) ?_
   rintro _ w445 ⟨rfl, hF444⟩
   refine ⟨_, rfl, fun a h446 => ?_⟩
   have hsw445 := hF444.size
   have hRA_447 := hRA_431.fr0 hF444
   have hE_448 := hE_432.tr0 hF444
   have hB360_449 := hB360_433.fr0 hF444
   have hK406_450 := hK406_434.fr0 hF444
   have hR416_451 := hR416_435.fr0 hF444
   have hB428_452 := hB428.fr0 hF444
   refine V.re h446 [] 65 77 [(78, .bool false)] fun a h453 => k442 _ _ ?_
   refine V.cf h453 ?_
   refine V.skip ?_
   refine V.then_n (k437 _ _ ?_)
   refine V.sr h453 [] 1 0 [(4, .bool true)] fun a h456 => ?_
   refine V.ret ?_
   refine V.r1 h456 (.bool true) ?_
   have hst : delT T k = shrT (rm1T T1 k) := by (unfold delT; rw [← hT1]; unfold del1T; rw [hf, if_pos rfl])
   have hu2 : rm1T T1 k = ({ T1 with b := rmV T1.b (bkt T1.seed T1.b.length k) j, n := T1.n - 1 } : Tb Int) := by (unfold rm1T; rw [hf]; simp)
   have hup := (rm1T_ok hok1 hm1 k (by rw [hf])).1
   rw [hu2] at hup
   rw [hst, hu2]
   have hsh : shrT ({ T1 with b := rmV T1.b (bkt T1.seed T1.b.length k) j, n := T1.n - 1 } : Tb Int) = ({ T1 with b := rmV T1.b (bkt T1.seed T1.b.length k) j, n := T1.n - 1 } : Tb Int) := by (unfold shrT; rw [if_neg]; rintro ⟨h0, _⟩; exact hb1 (by first | exact h0 | (have h1 : (rmV T1.b (bkt T1.seed T1.b.length k) j).length = 0 := h0; rwa [rmV_length] at h1)))
   rw [hsh]
   exact ⟨by rw [hf], (TabM.fin (T := ({ T1 with b := rmV T1.b (bkt T1.seed T1.b.length k) j, n := T1.n - 1 } : Tb Int)) hup (fun h => hb1 (by have := congrArg List.length h; rwa [rmV_length] at this)) hB428_452 hRA_447 hR416_451 (by first | exact hlA | (simp only [List.length_set]; exact hlA)) hK406_450 (mem4 (l := (b348 :: t :: gA :: gB :: av)) (by simp) (by simp) (by simp) (by intro k hk; simp [hk])) (by first | assumption | omega) (by first | assumption | omega) (by first | assumption | omega) hpt ⟨.inl hpg.1, hpg.2⟩ ⟨.inl hph.1, hph.2⟩ rfl rfl rfl (by show ((T1.n : Int) - 1) = ((T1.n - 1 : Nat) : Int); omega) rfl rfl (rmV_length _ _ _).symm).gr3 (by omega), (hFPE.gr hE_448)⟩
end Go.Proofs.Ytalhmegjomfbaaa
