/- Walks: slices.Delete, Del. -/
import Derived.Test.YtalhmegjomfbaaaProg
import Derived.Test.YtalhmegjomfbaaaTd
import Derived.Test.YtalhmegjomfbaaaTabD
namespace Go.Proofs.Ytalhmegjomfbaaa
open Go.V Go.Base
open Go.RowKit (Below)
attribute [local irreducible] Act.put Act.eval
set_option linter.unusedVariables false
set_option linter.unusedSimpArgs false
theorem itI_sz : itI.sz = 2 := rfl
theorem info86c : (Try.prog.info? 86).map (fun i => (i.zero, i.size)) = some (some (.agg #[.string ⟨#[]⟩, .int .i64 0]), itI.sz) := by kernel_rfl
set_option maxHeartbeats 4000000 in
set_option maxRecDepth 20000 in
theorem delete_any (w : World) (g c i : Nat) (xs : List (ByteArray × Int)) (hO : OwR itI NoZ w 0 86 (.slice (some ⟨g, 0, none⟩) xs.length c) xs) (hi : i < xs.length) (hc : xs.length ≤ c) (hl : xs.length ≤ 1099511627776) : Calls Try.prog 68 #[.slice (some ⟨g, 0, none⟩) xs.length c, .int .i64 (i : Int), .int .i64 ((i : Int) + 1)] w (fun e w' => e = .returned (.slice (some ⟨g, 0, none⟩) (xs.length - 1) c) ∧ OwR itI NoZ w' 0 86 (.slice (some ⟨g, 0, none⟩) (xs.length - 1) c) (xs.eraseIdx i) ∧ Fr [g] w w') := by
 have hF := Fr.refl [g] w
 have herl : i + (xs.length - (i + 1)) = (xs.eraseIdx i).length := by rw [List.length_eraseIdx_of_lt hi]; omega
 refine V.enter 33 Try.func68 rfl rfl ?_
 intro a hz ha
 have s0 : a.eval (.tmp 0) = (.slice (some ⟨g, 0, none⟩) xs.length c) := ha 0 _ rfl
 have s1 : a.eval (.tmp 1) = (.int .i64 (i : Int)) := ha 1 _ rfl
 have s2 : a.eval (.tmp 2) = (.int .i64 ((i : Int) + 1)) := ha 2 _ rfl
 clear ha
 refine V.seq (fun K1 hK2 => ?_)
 refine V.rg ?_
 refine V.ga evc ?_
 refine V.nil ?_
 refine V.then_n (hK2 _ _ ?_)
 refine V.seq (fun K3 hK4 => ?_)
 refine V.rg ?_
 refine V.gm (o1 rfl s0) ?_
 refine V.gm (o2 rfl s1) ?_
 refine V.gm (o2 rfl (o1 rfl s2)) ?_
 refine V.gm (o4 rfl s0) ?_
 refine V.ge_ [(11, .slice (some ⟨g, 0, none⟩) xs.length c)] ⟨(sm hz.p4 rfl), trivial⟩ (.int .i64 ((xs.length : Nat) : Int)) ?_
 refine V.go (V.slc (e := 86) (sz := 2) g 0 xs.length c i (i + 1) xs.length (o4 rfl (sm hz.p1 rfl)) ⟨_, ((o2 rfl (o1 rfl (sm hz.p2 rfl)))).trans (V.int_eq (by omega))⟩ ⟨_, ((o2 rfl (sm hz.p2.p1 rfl))).trans (V.int_eq (by omega))⟩ ⟨_, ((sm hz.p4.p1 rfl)).trans (V.int_eq (by omega))⟩ (by omega) (by omega) (by omega) (by kernel_rfl) (by kernel_rfl) ?_)
 intro ad5 had6 hae7
 refine V.nil ?_
 refine V.then_n (hK4 _ _ ?_)
 refine V.flushW hz.p4.p2.p1 (fun a8 hz9 up10 => ?_)
 have s0_11 := up10 0 _ (o4 rfl (o2 rfl (o1 rfl s0)))
 have s1_12 := up10 1 _ (o4 rfl (o2 rfl (o1 rfl s1)))
 have s2_13 := up10 2 _ (o4 rfl (o2 rfl (o1 rfl s2)))
 clear up10
 refine V.seq (fun K14 hK15 => ?_)
 refine V.seq (fun K16 hK17 => ?_)
 refine V.rg ?_
 refine V.gm (s1_12) ?_
 refine V.gm (o1 rfl s2_13) ?_
 refine V.gf_ [(14, .int .i64 (i : Int)), (15, .int .i64 ((i : Int) + 1))] ⟨(o1 rfl (sm hz9 rfl)), (sm hz9.p1 rfl), trivial⟩ (.bool ((i : Int) == ((i : Int) + 1))) (.bool (decide ((i : Int) = ((i : Int) + 1)))) V.t_eql ?_
 refine V.nil ?_
 refine V.then_n (hK17 _ _ ?_)
 refine V.condP (p := (i : Int) = ((i : Int) + 1)) (sm hz9.p2 rfl) (fun ht18 => ?_) (fun ht18 => ?_)
 ·
  refine V.seq (fun K19 hK20 => ?_)
  refine V.rg ?_
  refine V.gm (o2 rfl (o1 rfl s0_11)) ?_
  refine V.ga (sm hz9.p2.p1 rfl) ?_
  refine V.nil ?_
  refine V.then_n (hK20 _ _ ?_)
  refine V.flushW hz9.p4.p1 (fun a21 hz22 up23 => ?_)
  have s0_24 := up23 0 _ (o4 rfl (o1 rfl s0_11))
  have s1_25 := up23 1 _ (o4 rfl (o1 rfl s1_12))
  have s2_26 := up23 2 _ (o4 rfl (o1 rfl s2_13))
  have s6_27 := up23 6 _ (sm hz9.p4 rfl)
  clear up23
  refine V.ret ?_
  refine V.then_r ?_
  refine V.ret1 hz22 rfl (s6_27) ?_
  exact absurd ht18 (by omega)
 ·
  refine V.skip ?_
  refine V.then_n (hK15 _ _ ?_)
  refine V.seq (fun K28 hK29 => ?_)
  refine V.rg ?_
  refine V.gm (o2 rfl (o1 rfl s0_11)) ?_
  refine V.ge_ [(18, .slice (some ⟨g, 0, none⟩) xs.length c)] ⟨(sm hz9.p2.p1 rfl), trivial⟩ (.int .i64 ((xs.length : Nat) : Int)) ?_
  refine V.ga (sm hz9.p4 rfl) ?_
  refine V.nil ?_
  refine V.then_n (hK29 _ _ ?_)
  refine V.flushW hz9.p4.p2 (fun a30 hz31 up32 => ?_)
  have s0_33 := up32 0 _ (o4 rfl (o2 rfl s0_11))
  have s1_34 := up32 1 _ (o4 rfl (o2 rfl s1_12))
  have s2_35 := up32 2 _ (o4 rfl (o2 rfl s2_13))
  have s7_36 := up32 7 _ (sm hz9.p4.p1 rfl)
  clear up32
  refine V.seq (fun K37 hK38 => ?_)
  refine V.plan [[], [], [0, 1], [], [], [3, 4], [0, 1, 2, 3, 4, 5], [0, 1, 2, 3, 4, 5, 6]] [([0, 1, 2, 3, 4, 5], some (6, [])), ([7], none)] (by kernel_rfl) (by kernel_rfl) (by exact fun _ _ _ _ h => h) ?_
  simp only [Plan.wpSegs, Plan.pickAll, Plan.nth, V.L_eq]
  obtain ⟨w39, hF40e⟩ : ∃ w1, w1 = w.drew := ⟨_, rfl⟩
  rw [← hF40e]
  have hF40 : Fr [] w w39 := by rw [hF40e]; exact Fr.drew _ _
  have hsw39 : w39.heap.size = w.heap.size := by rw [hF40e]; rfl
  clear hF40e
  have hF_41 := hF.trans hF40 (by simp <;> omega)
  have hO_42 := hO.fr0 hF40
  refine V.gm (s0_33) ?_
  refine V.gm (o1 rfl s1_34) ?_
  refine V.go (V.slc (e := 86) (sz := 2) g 0 xs.length c 0 i c (o1 rfl (sm hz31 rfl)) rfl ⟨_, ((sm hz31.p1 rfl)).trans (V.int_eq (by omega))⟩ rfl (by omega) (by omega) (by omega) (by kernel_rfl) (by kernel_rfl) ?_)
  intro ad43 had44 hae45
  obtain rfl := hae45 rfl
  refine V.gm (o2 rfl (o1 rfl s0_33)) ?_
  refine V.gm (o4 rfl s2_35) ?_
  refine V.go (V.slc (e := 86) (sz := 2) g 0 xs.length c (i + 1) xs.length c (o1 rfl (sm hz31.p2.p1 rfl)) ⟨_, ((sm hz31.p4 rfl)).trans (V.int_eq (by omega))⟩ ⟨rfl, rfl⟩ rfl (by omega) (by omega) (by omega) (by kernel_rfl) (by kernel_rfl) ?_)
  intro ad46 had47 hae48
  refine V.nil ?_
  refine ⟨chk [] trivial (by kernel_rfl), ?_⟩
  refine V.go (V.appIn (R := itI) (i := i) (m := xs.length - (i + 1)) hO_42 rfl hi rfl ad46 (fun hq => by rw [had47 (by omega)]; simp [itI_sz]) (o2 rfl (o1 rfl (sm hz31.p2 rfl))) (sm hz31.p4.p1 rfl) (by kernel_rfl) (by kernel_rfl) ?_)
  intro w49 cur54 hO50 hF51 hB52 hcl53
  have hsw49 := hF51.size
  have hF_55 := hF_41.trans hF51 (by simp <;> omega)
  refine V.nil ?_
  refine ⟨trivial, ?_⟩
  refine V.ga (v := (.slice (some ⟨g, 0, none⟩) (i + (xs.length - (i + 1))) c)) (sm hz31.p4.p2 rfl) ?_
  refine V.nil ?_
  refine ⟨chk [] trivial (by kernel_rfl), ?_⟩
  refine V.then_n (hK38 _ _ ?_)
  refine V.flushW hz31.p8 (fun a56 hz57 up58 => ?_)
  have s0_59 : a56.eval (.tmp 0) = (.slice (some ⟨g, 0, none⟩) (i + (xs.length - (i + 1))) c) := up58 _ _ (sm hz31.p4.p2.p1 rfl)
  have s7_60 := up58 7 _ (o8 rfl s7_36)
  clear up58
  refine V.seq (fun K61 hK62 => ?_)
  refine V.rg ?_
  refine V.gm (v := (.slice (some ⟨g, 0, none⟩) (i + (xs.length - (i + 1))) c)) (s0_59) ?_
  refine V.gm (v := (.slice (some ⟨g, 0, none⟩) (i + (xs.length - (i + 1))) c)) (o1 rfl s0_59) ?_
  refine V.ge_ [(28, .slice (some ⟨g, 0, none⟩) (i + (xs.length - (i + 1))) c)] ⟨(sm hz57.p1 rfl), trivial⟩ (.int .i64 (((i + (xs.length - (i + 1))) : Nat) : Int)) ?_
  refine V.gm (o2 rfl (o1 rfl s7_60)) ?_
  refine V.go (V.slc (e := 86) (sz := 2) g 0 (i + (xs.length - (i + 1))) c (i + (xs.length - (i + 1))) xs.length c (o2 rfl (o1 rfl (sm hz57 rfl))) ⟨_, ((o1 rfl (sm hz57.p2 rfl))).trans (V.int_eq (by omega))⟩ ⟨_, ((sm hz57.p2.p1 rfl)).trans (V.int_eq (by omega))⟩ rfl (by omega) (by omega) (by omega) (by kernel_rfl) (by kernel_rfl) ?_)
  intro ad63 had64 hae65
  obtain rfl := had64 (by omega)
  refine V.go (V.clr1 (R := itI) (n := i + (xs.length - (i + 1))) hO50 herl hB52 hcl53 (by omega) ((sm hz57.p4 rfl).trans (V.sl_eq (by omega))) (by kernel_rfl) (info86c) rfl rfl ?_)
  intro w66 hO67 hF68 hsw66
  have hF_69 := hF_55.trans hF68 (by simp <;> omega)
  refine V.nil ?_
  refine V.then_n (hK62 _ _ ?_)
  refine V.flushW hz57.p4.p1 (fun a70 hz71 up72 => ?_)
  have s0_73 : a70.eval (.tmp 0) = (.slice (some ⟨g, 0, none⟩) (i + (xs.length - (i + 1))) c) := up72 _ _ (o4 rfl (o1 rfl s0_59))
  clear up72
  refine V.seq (fun K74 hK75 => ?_)
  refine V.rg ?_
  refine V.gm (v := (.slice (some ⟨g, 0, none⟩) (i + (xs.length - (i + 1))) c)) (s0_73) ?_
  refine V.ga (v := (.slice (some ⟨g, 0, none⟩) (i + (xs.length - (i + 1))) c)) (sm hz71 rfl) ?_
  refine V.nil ?_
  refine V.then_n (hK75 _ _ ?_)
  refine V.ret ?_
  refine V.ret1 hz71.p2 rfl (sm hz71.p1 rfl) ?_
  have hq1 : i + (xs.length - (i + 1)) = xs.length - 1 := by omega
  rw [hq1] at hO67 ⊢
  exact ⟨rfl, hO67, hF_69⟩
set_option maxHeartbeats 4000000 in
set_option maxRecDepth 20000 in
theorem del_any (w : World) (H : Nat → Prop) (av : List Nat) (t : Nat) (T : Tb Int) (hT : TabX 67 87 86 itI w H av t T) (hm : T.Mv) (k : ByteArray) (hkz : k.size ≤ 9223372036854775807) : Calls Try.prog 39 #[.pointer (some ⟨t, 0, none⟩), .string k] w (fun e w' => e = .returned (.bool (findT (tbStep T) k).2) ∧ TabX 67 87 86 itI w' (gr H w w') av t (delT T k) ∧ FrP (gp H av) w w') := by
 have hFP := FrP.refl (gp H av) w
 obtain ⟨hok0, hm1⟩ := tbStep_ok hT.1 hm
 obtain ⟨T1, hT1⟩ : ∃ T1, T1 = tbStep T := ⟨_, rfl⟩
 rw [← hT1] at hok0 hm1 ⊢
 refine V.enter 83 Try.func39 rfl rfl ?_
 intro a hz ha
 have s0 : a.eval (.tmp 0) = (.pointer (some ⟨t, 0, none⟩)) := ha 0 _ rfl
 have s1 : a.eval (.tmp 1) = (.string k) := ha 1 _ rfl
 clear ha
 refine V.seq (fun K1 hK2 => ?_)
 refine V.rg ?_
 refine V.ga evc ?_
 refine V.nil ?_
 refine V.then_n (hK2 _ _ ?_)
 refine V.seq (fun K3 hK4 => ?_)
 refine V.seq (fun K5 hK6 => ?_)
 refine V.rg ?_
 refine V.gm (o1 rfl s0) ?_
 refine V.go (V.call 51 #[] #[.pointer (some ⟨t, 0, none⟩)] evf (args1 (sm hz.p1 rfl)) (Go.Proofs.enters_of Try.func51 (by kernel_rfl) rfl) (made_any w (H) (av) t (T) hT) ?_)
 rintro _ w8 ⟨rfl, hF7⟩
 refine ⟨_, rfl, ?_⟩
 have hsw8 := hF7.size
 have hT_9 := hT.fr0 hF7
 have hFP_10 := hFP.tr0 hF7
 refine V.ge_ [(10, .bool true)] ⟨(sm hz.p2 rfl), trivial⟩ (.bool false) ?_
 refine V.nil ?_
 refine V.then_n (hK6 _ _ ?_)
 refine V.flushW hz.p4 (fun a11 hz12 up13 => ?_)
 have s0_14 := up13 0 _ (o4 rfl s0)
 have s1_15 := up13 1 _ (o4 rfl s1)
 have s11_16 := up13 11 _ (sm hz.p2.p1 rfl)
 clear up13
 refine V.cond_f (s11_16) ?_
 refine V.skip ?_
 refine V.then_n (hK4 _ _ ?_)
 refine V.seq (fun K17 hK18 => ?_)
 refine V.rg ?_
 refine V.gm (s0_14) ?_
 refine V.go (V.call 64 #[] #[.pointer (some ⟨t, 0, none⟩)] evf (args1 (sm hz12 rfl)) (Go.Proofs.enters_of Try.func64 (by kernel_rfl) rfl) (step_any w8 (H) (av) t (T) hT_9 hm) ?_)
 rintro _ w21 ⟨rfl, hT19, hfp20⟩
 refine ⟨_, rfl, ?_⟩
 have hsw21 := hfp20.size
 have hFP_22 := hFP_10.trP hfp20 (fun k hk => .inl hk)
 have hT19q := hT19.grm (w := w) (by omega)
 rw [← hT1] at hT19q
 refine V.nil ?_
 refine V.then_n (hK18 _ _ ?_)
 refine V.seq (fun K23 hK24 => ?_)
 refine V.rg ?_
 refine V.gm (o2 rfl s0_14) ?_
 refine V.gm (o2 rfl (o1 rfl s1_15)) ?_
 have hok1 := hT19q.1
 rcases findT_cases hok1 k with hf | ⟨j, hf, hj⟩ | ⟨hbn, j, hf, hj⟩
 ·
  rcases hT19q.2 with ⟨hb0, gA, vsA, hN⟩ | ⟨hb0, gA, gB, vsA, vsB, hN⟩
  ·
   have hb1 : T1.b.length = 0 := by rw [hb0]; rfl
   obtain ⟨hB, hRA, hlA, hK, hne, hpt, hpg⟩ := hN
   replace hK := hK.toH
   have hltt := hB.lt
   have hltg := hRA.lt
   have hE : FrP (gp (gr H w w21) av) w21 w21 := FrP.refl _ _
   have hK0 : ∀ k ∈ av, k < w21.heap.size := fun k hk => hK.avl k (by simp [hk])
   obtain ⟨hsd, hpa, hla, hlb, hmv, hmz, hnn, hcn, hks⟩ := (show T1.Ok from hok1)
   have hbl := hok1.bl
   have hFPE := hFP_22
   refine V.go (V.call 53 #[] #[.pointer (some ⟨t, 0, none⟩), .string k] evf (args2 (o1 rfl (sm hz12.p2 rfl)) (sm hz12.p2.p1 rfl)) (Go.Proofs.enters_of Try.func53 (by kernel_rfl) rfl) (by have h := find_any w21 (gr H w w21) (av) t T1 hT19q k hkz; rw [hf] at h; exact h) ?_)
   rintro _ w26 ⟨rfl, hF25⟩
   refine ⟨_, rfl, ?_⟩
   have hsw26 := hF25.size
   have hB_27 := hB.fr0 hF25
   have hRA_28 := hRA.fr0 hF25
   have hK_29 := hK.fr0 hF25
   have hE_30 := hE.tr0 hF25
   refine V.gm (sm hz12.p4 rfl) ?_
   refine V.ge_ [(14, .tuple #[.agg #[.int .i64 0, .int .i64 0, .int .i64 0], .bool false])] ⟨(sm hz12.p4.p1 rfl), trivial⟩ (.agg #[.int .i64 0, .int .i64 0, .int .i64 0]) ?_
   refine V.ge_ [(14, .tuple #[.agg #[.int .i64 0, .int .i64 0, .int .i64 0], .bool false])] ⟨(o1 rfl (sm hz12.p4.p1 rfl)), trivial⟩ (.bool false) ?_
   refine V.go (V.mk [] trivial (by kernel_rfl) [.int .i64 0, .int .i64 0, .int .i64 0] 82 (fun b => .pointer (some ⟨b, 0, none⟩)) (by kernel_rfl) ?_)
   intro w32 b31 heb31 hB33 hF34 hsb31
   have hB_35 := hB_27.fr0 hF34
   have hRA_36 := hRA_28.fr0 hF34
   have hK_37 := hK_29.alloc hF34 heb31 (by omega)
   have hE_38 := hE_30.tr0 hF34
   refine V.go (V.stn b31 0 (.agg #[.int .i64 0, .int .i64 0, .int .i64 0]) [.int .i64 0, .int .i64 0, .int .i64 0] (sm hz12.p8 rfl) (o2 rfl (sm hz12.p4.p2 rfl)) rfl rfl (by kernel_rfl) hB33 (by simp) [.int .i64 0, .int .i64 0, .int .i64 0] rfl ?_)
   intro w39 hB40 hF41 hsw39
   have hB_42 := hB_35.fr1 hF41 (by omega)
   have hRA_43 := hRA_36.fr1 hF41 (by omega)
   have hK_44 := hK_37.fr hF41 (by simp)
   have hE_45 := hE_38.tr1 hF41 (by first | exact .inl (by assumption) | exact .inr (by omega) | exact .inl (.inl rfl))
   refine V.ga (o1 rfl (sm hz12.p4.p2.p1 rfl)) ?_
   refine V.nil ?_
   refine V.then_n (hK24 _ _ ?_)
   refine V.flushW hz12.p8.p2 (fun a46 hz47 up48 => ?_)
   have s0_49 := up48 0 _ (o8 rfl (o2 rfl s0_14))
   have s5_50 := up48 5 _ (o1 rfl (sm hz12.p8 rfl))
   have s6_51 := up48 6 _ (sm hz12.p8.p1 rfl)
   clear up48
   refine V.seq (fun K52 hK53 => ?_)
   refine V.seq (fun K54 hK55 => ?_)
   refine V.rg ?_
   refine V.gm (s6_51) ?_
   refine V.ge_ [(20, .bool false)] ⟨(sm hz47 rfl), trivial⟩ (.bool true) ?_
   refine V.nil ?_
   refine V.then_n (hK55 _ _ ?_)
   refine V.cond_t (sm hz47.p1 rfl) ?_
   refine V.seq (fun K56 hK57 => ?_)
   refine V.rg ?_
   refine V.ga evc ?_
   refine V.nil ?_
   refine V.then_n (hK57 _ _ ?_)
   refine V.ret ?_
   refine V.then_r ?_
   refine V.ret1 hz47.p2.p1 rfl (sm hz47.p2 rfl) ?_
   have hst : delT T k = T1 := by (unfold delT; rw [← hT1]; unfold del1T; rw [hf, if_neg (by simp)])
   rw [hst]
   exact ⟨by rw [hf], (TabN.fin (T := T1) hok1 hb0 hB_42 hRA_43 (by have h := hK_44; rw [List.append_nil, List.append_nil] at h; exact h) (mem3 (l := (b31 :: t :: gA :: av)) (by simp) (by simp) (by intro k hk; simp [hk])) (by first | assumption | exact Ne.symm (by assumption) | omega) hpt ⟨.inl hpg.1, hpg.2⟩ rfl rfl rfl rfl rfl).gr3 (by omega), (hFPE.gr hE_45)⟩
  ·
   have hb1 : T1.b.length ≠ 0 := fun h => hb0 (List.eq_nil_of_length_eq_zero h)
   obtain ⟨hB, hRA, hRB, hlA, hlB, hK, hne, hne2, hne3, hpt, hpg, hph⟩ := hN
   replace hK := hK.toH
   have hltt := hB.lt
   have hltg := hRA.lt
   have hltg2 := hRB.lt
   have hE : FrP (gp (gr H w w21) av) w21 w21 := FrP.refl _ _
   have hK0 : ∀ k ∈ av, k < w21.heap.size := fun k hk => hK.avl k (by simp [hk])
   obtain ⟨hsd, hpa, hla, hlb, hmv, hmz, hnn, hcn, hks⟩ := (show T1.Ok from hok1)
   have hbl := hok1.bl
   have hFPE := hFP_22
   refine V.go (V.call 53 #[] #[.pointer (some ⟨t, 0, none⟩), .string k] evf (args2 (o1 rfl (sm hz12.p2 rfl)) (sm hz12.p2.p1 rfl)) (Go.Proofs.enters_of Try.func53 (by kernel_rfl) rfl) (by have h := find_any w21 (gr H w w21) (av) t T1 hT19q k hkz; rw [hf] at h; exact h) ?_)
   rintro _ w59 ⟨rfl, hF58⟩
   refine ⟨_, rfl, ?_⟩
   have hsw59 := hF58.size
   have hB_60 := hB.fr0 hF58
   have hRA_61 := hRA.fr0 hF58
   have hRB_62 := hRB.fr0 hF58
   have hK_63 := hK.fr0 hF58
   have hE_64 := hE.tr0 hF58
   refine V.gm (sm hz12.p4 rfl) ?_
   refine V.ge_ [(14, .tuple #[.agg #[.int .i64 0, .int .i64 0, .int .i64 0], .bool false])] ⟨(sm hz12.p4.p1 rfl), trivial⟩ (.agg #[.int .i64 0, .int .i64 0, .int .i64 0]) ?_
   refine V.ge_ [(14, .tuple #[.agg #[.int .i64 0, .int .i64 0, .int .i64 0], .bool false])] ⟨(o1 rfl (sm hz12.p4.p1 rfl)), trivial⟩ (.bool false) ?_
   refine V.go (V.mk [] trivial (by kernel_rfl) [.int .i64 0, .int .i64 0, .int .i64 0] 82 (fun b => .pointer (some ⟨b, 0, none⟩)) (by kernel_rfl) ?_)
   intro w66 b65 heb65 hB67 hF68 hsb65
   have hB_69 := hB_60.fr0 hF68
   have hRA_70 := hRA_61.fr0 hF68
   have hRB_71 := hRB_62.fr0 hF68
   have hK_72 := hK_63.alloc hF68 heb65 (by omega)
   have hE_73 := hE_64.tr0 hF68
   refine V.go (V.stn b65 0 (.agg #[.int .i64 0, .int .i64 0, .int .i64 0]) [.int .i64 0, .int .i64 0, .int .i64 0] (sm hz12.p8 rfl) (o2 rfl (sm hz12.p4.p2 rfl)) rfl rfl (by kernel_rfl) hB67 (by simp) [.int .i64 0, .int .i64 0, .int .i64 0] rfl ?_)
   intro w74 hB75 hF76 hsw74
   have hB_77 := hB_69.fr1 hF76 (by omega)
   have hRA_78 := hRA_70.fr1 hF76 (by omega)
   have hRB_79 := hRB_71.fr1 hF76 (by omega)
   have hK_80 := hK_72.fr hF76 (by simp)
   have hE_81 := hE_73.tr1 hF76 (by first | exact .inl (by assumption) | exact .inr (by omega) | exact .inl (.inl rfl))
   refine V.ga (o1 rfl (sm hz12.p4.p2.p1 rfl)) ?_
   refine V.nil ?_
   refine V.then_n (hK24 _ _ ?_)
   refine V.flushW hz12.p8.p2 (fun a82 hz83 up84 => ?_)
   have s0_85 := up84 0 _ (o8 rfl (o2 rfl s0_14))
   have s5_86 := up84 5 _ (o1 rfl (sm hz12.p8 rfl))
   have s6_87 := up84 6 _ (sm hz12.p8.p1 rfl)
   clear up84
   refine V.seq (fun K88 hK89 => ?_)
   refine V.seq (fun K90 hK91 => ?_)
   refine V.rg ?_
   refine V.gm (s6_87) ?_
   refine V.ge_ [(20, .bool false)] ⟨(sm hz83 rfl), trivial⟩ (.bool true) ?_
   refine V.nil ?_
   refine V.then_n (hK91 _ _ ?_)
   refine V.cond_t (sm hz83.p1 rfl) ?_
   refine V.seq (fun K92 hK93 => ?_)
   refine V.rg ?_
   refine V.ga evc ?_
   refine V.nil ?_
   refine V.then_n (hK93 _ _ ?_)
   refine V.ret ?_
   refine V.then_r ?_
   refine V.ret1 hz83.p2.p1 rfl (sm hz83.p2 rfl) ?_
   have hst : delT T k = T1 := by (unfold delT; rw [← hT1]; unfold del1T; rw [hf, if_neg (by simp)])
   rw [hst]
   exact ⟨by rw [hf], (TabM.fin (T := T1) hok1 hb0 hB_77 hRA_78 hRB_79 (by first | exact hlA | (simp only [List.length_set]; exact hlA)) hK_80 (mem4 (l := (b65 :: t :: gA :: gB :: av)) (by simp) (by simp) (by simp) (by intro k hk; simp [hk])) (by first | assumption | omega) (by first | assumption | omega) (by first | assumption | omega) hpt ⟨.inl hpg.1, hpg.2⟩ ⟨.inl hph.1, hph.2⟩ rfl rfl rfl rfl rfl rfl rfl).gr3 (by omega), (hFPE.gr hE_81)⟩
 ·
  rcases hT19q.2 with ⟨hb0, gA, vsA, hN⟩ | ⟨hb0, gA, gB, vsA, vsB, hN⟩
  ·
   have hb1 : T1.b.length = 0 := by rw [hb0]; rfl
   obtain ⟨hB, hRA, hlA, hK, hne, hpt, hpg⟩ := hN
   replace hK := hK.toH
   have hltt := hB.lt
   have hltg := hRA.lt
   have hE : FrP (gp (gr H w w21) av) w21 w21 := FrP.refl _ _
   have hK0 : ∀ k ∈ av, k < w21.heap.size := fun k hk => hK.avl k (by simp [hk])
   obtain ⟨hsd, hpa, hla, hlb, hmv, hmz, hnn, hcn, hks⟩ := (show T1.Ok from hok1)
   have hbl := hok1.bl
   have hFPE := hFP_22
   refine V.go (V.call 53 #[] #[.pointer (some ⟨t, 0, none⟩), .string k] evf (args2 (o1 rfl (sm hz12.p2 rfl)) (sm hz12.p2.p1 rfl)) (Go.Proofs.enters_of Try.func53 (by kernel_rfl) rfl) (by have h := find_any w21 (gr H w w21) (av) t T1 hT19q k hkz; rw [hf] at h; exact h) ?_)
   rintro _ w95 ⟨rfl, hF94⟩
   refine ⟨_, rfl, ?_⟩
   have hsw95 := hF94.size
   have hB_96 := hB.fr0 hF94
   have hRA_97 := hRA.fr0 hF94
   have hK_98 := hK.fr0 hF94
   have hE_99 := hE.tr0 hF94
   have hbkl := bkt_lt T1.seed k (n := T1.a.length) (by omega)
   refine V.gm (sm hz12.p4 rfl) ?_
   refine V.ge_ [(14, .tuple #[.agg #[.int .i64 0, .int .i64 ((bkt T1.seed T1.a.length k : Nat) : Int), .int .i64 (j : Int)], .bool true])] ⟨(sm hz12.p4.p1 rfl), trivial⟩ (.agg #[.int .i64 0, .int .i64 ((bkt T1.seed T1.a.length k : Nat) : Int), .int .i64 (j : Int)]) ?_
   refine V.ge_ [(14, .tuple #[.agg #[.int .i64 0, .int .i64 ((bkt T1.seed T1.a.length k : Nat) : Int), .int .i64 (j : Int)], .bool true])] ⟨(o1 rfl (sm hz12.p4.p1 rfl)), trivial⟩ (.bool true) ?_
   refine V.go (V.mk [] trivial (by kernel_rfl) [.int .i64 0, .int .i64 0, .int .i64 0] 82 (fun b => .pointer (some ⟨b, 0, none⟩)) (by kernel_rfl) ?_)
   intro w101 b100 heb100 hB102 hF103 hsb100
   have hB_104 := hB_96.fr0 hF103
   have hRA_105 := hRA_97.fr0 hF103
   have hK_106 := hK_98.alloc hF103 heb100 (by omega)
   have hE_107 := hE_99.tr0 hF103
   refine V.go (V.stn b100 0 (.agg #[.int .i64 0, .int .i64 ((bkt T1.seed T1.a.length k : Nat) : Int), .int .i64 (j : Int)]) [.int .i64 0, .int .i64 ((bkt T1.seed T1.a.length k : Nat) : Int), .int .i64 (j : Int)] (sm hz12.p8 rfl) (o2 rfl (sm hz12.p4.p2 rfl)) rfl rfl (by kernel_rfl) hB102 (by simp) [.int .i64 0, .int .i64 ((bkt T1.seed T1.a.length k : Nat) : Int), .int .i64 (j : Int)] rfl ?_)
   intro w108 hB109 hF110 hsw108
   have hB_111 := hB_104.fr1 hF110 (by omega)
   have hRA_112 := hRA_105.fr1 hF110 (by omega)
   have hK_113 := hK_106.fr hF110 (by simp)
   have hE_114 := hE_107.tr1 hF110 (by first | exact .inl (by assumption) | exact .inr (by omega) | exact .inl (.inl rfl))
   refine V.ga (o1 rfl (sm hz12.p4.p2.p1 rfl)) ?_
   refine V.nil ?_
   refine V.then_n (hK24 _ _ ?_)
   refine V.flushW hz12.p8.p2 (fun a115 hz116 up117 => ?_)
   have s0_118 := up117 0 _ (o8 rfl (o2 rfl s0_14))
   have s5_119 := up117 5 _ (o1 rfl (sm hz12.p8 rfl))
   have s6_120 := up117 6 _ (sm hz12.p8.p1 rfl)
   clear up117
   refine V.seq (fun K121 hK122 => ?_)
   refine V.seq (fun K123 hK124 => ?_)
   refine V.rg ?_
   refine V.gm (s6_120) ?_
   refine V.ge_ [(20, .bool true)] ⟨(sm hz116 rfl), trivial⟩ (.bool false) ?_
   refine V.nil ?_
   refine V.then_n (hK124 _ _ ?_)
   refine V.cond_f (sm hz116.p1 rfl) ?_
   refine V.skip ?_
   refine V.then_n (hK122 _ _ ?_)
   refine V.seq (fun K125 hK126 => ?_)
   have hbq := hbl (bkt T1.seed T1.a.length k)
   refine V.plan [[], [], [1], [0], [0, 3], [0, 1, 2, 3, 4], [0, 1, 2, 3, 4, 5], [], [7], [0, 1, 2, 3, 4, 5, 6, 7, 8], [0, 1, 2, 3, 4, 5, 6, 7, 8, 9], [0, 1, 2, 3, 4, 5, 6, 7, 8, 9, 10]] [([0, 1, 2, 3, 4, 5, 6, 7, 8, 9, 10, 11], none)] (by kernel_rfl) (by kernel_rfl) (by exact fun _ _ _ _ h => h) ?_
   simp only [Plan.wpSegs, Plan.pickAll, Plan.nth, V.L_eq]
   obtain ⟨w127, hF128e⟩ : ∃ w1, w1 = w108.drew := ⟨_, rfl⟩
   rw [← hF128e]
   have hF128 : Fr [] w108 w127 := by rw [hF128e]; exact Fr.drew _ _
   have hsw127 : w127.heap.size = w108.heap.size := by rw [hF128e]; rfl
   clear hF128e
   have hB_129 := hB_111.fr0 hF128
   have hRA_130 := hRA_112.fr0 hF128
   have hK_131 := hK_113.fr0 hF128
   have hE_132 := hE_114.tr0 hF128
   have hB109_133 := hB109.fr0 hF128
   refine V.gm (o2 rfl s0_118) ?_
   refine V.ge_ [(5, .pointer (some ⟨b100, 0, none⟩))] ⟨(o2 rfl (o1 rfl s5_119)), trivial⟩ (.pointer (some ⟨b100, 0, none⟩)) ?_
   refine V.go (V.ld ⟨b100, 0, none⟩ (.int .i64 0) (sm hz116.p2.p1 rfl) (by kernel_rfl) (hB109_133.at 0 rfl) ?_)
   refine V.ge_ [(22, .pointer (some ⟨t, 0, none⟩))] ⟨(o2 rfl (sm hz116.p2 rfl)), trivial⟩ (.pointer (some ⟨t, 0, none⟩)) ?_
   refine V.ge_ [(25, .pointer (some ⟨t, 0, none⟩))] ⟨(sm hz116.p4.p1 rfl), trivial⟩ (.pointer (some ⟨t, 1, none⟩)) ?_
   refine V.ge_ [(26, .pointer (some ⟨t, 1, none⟩)), (24, .int .i64 0)] ⟨(sm hz116.p4.p2 rfl), (o2 rfl (sm hz116.p4 rfl)), trivial⟩ (.pointer (some ⟨t, 1, none⟩)) ?_
   refine V.go (V.ld ⟨t, 1, none⟩ (.slice (some ⟨gA, 0, none⟩) T1.a.length T1.a.length) (sm hz116.p4.p2.p1 rfl) (by kernel_rfl) (hB_129.at 1 rfl) ?_)
   refine V.ge_ [(5, .pointer (some ⟨b100, 0, none⟩))] ⟨(o8 rfl (o1 rfl s5_119)), trivial⟩ (.pointer (some ⟨b100, 1, none⟩)) ?_
   refine V.go (V.ld ⟨b100, 1, none⟩ (.int .i64 ((bkt T1.seed T1.a.length k : Nat) : Int)) (sm hz116.p8.p1 rfl) (by kernel_rfl) (hB109_133.at 1 rfl) ?_)
   refine V.go (V.ixa gA 0 T1.a.length T1.a.length .i64 ((bkt T1.seed T1.a.length k : Nat) : Int) 1 (o2 rfl (sm hz116.p8 rfl)) (sm hz116.p8.p2 rfl) (by omega) (by omega) (by kernel_rfl) ?_)
   obtain ⟨A134, c135, hv136⟩ := hK_131.getA hlA (i := (bkt T1.seed T1.a.length k)) (by omega) nilS
   refine V.go (V.ld ⟨gA, 0 + ((bkt T1.seed T1.a.length k : Nat) : Int).toNat * 1, none⟩ (.slice A134 ((T1.a.getD (bkt T1.seed T1.a.length k) []).length) c135) (sm hz116.p8.p2.p1 rfl) (by kernel_rfl) ((hRA_130.at (bkt T1.seed T1.a.length k) nilS (by omega)).trans (congrArg some hv136)) ?_)
   have hS137 := hK_131.slA hlA (i := (bkt T1.seed T1.a.length k)) (by omega) hv136
   refine V.ga (sm hz116.p8.p4 rfl) ?_
   refine V.nil ?_
   refine ⟨chk [(22, .pointer (some ⟨t, 0, none⟩))] ⟨(o8 rfl (o2 rfl (o1 rfl (sm hz116.p2 rfl)))), trivial⟩ (by kernel_rfl), ?_⟩
   refine V.then_n (hK126 _ _ ?_)
   refine V.flushW hz116.p8.p4.p2 (fun a138 hz139 up140 => ?_)
   have s0_141 := up140 0 _ (o8 rfl (o4 rfl (o2 rfl s0_118)))
   have s5_142 := up140 5 _ (o8 rfl (o4 rfl (o2 rfl s5_119)))
   have s7_143 := up140 7 _ (sm hz116.p8.p4.p1 rfl)
   clear up140
   refine V.seq (fun K144 hK145 => ?_)
   refine V.plan [[], [], [1], [0], [0, 3], [0, 1, 2, 3, 4], [0, 1, 2, 3, 4, 5], [], [7], [], [], [10], [], [12], [12, 13], [9, 10, 11, 12, 13, 14], [0, 1, 2, 3, 4, 5, 6, 7, 8, 9, 10, 11, 12, 13, 14, 15], [0, 1, 2, 3, 4, 5, 6, 7, 8, 9, 10, 11, 12, 13, 14, 15, 16]] [([0, 1, 2, 3, 4, 5, 6, 7, 8, 9, 10, 11, 12, 13, 14], some (15, [2, 6, 8])), ([16], some (17, [])), ([], none)] (by kernel_rfl) (by kernel_rfl) (by exact fun _ _ _ _ h => h) ?_
   simp only [Plan.wpSegs, Plan.pickAll, Plan.nth, V.L_eq]
   obtain ⟨w146, hF147e⟩ : ∃ w1, w1 = w127.drew := ⟨_, rfl⟩
   rw [← hF147e]
   have hF147 : Fr [] w127 w146 := by rw [hF147e]; exact Fr.drew _ _
   have hsw146 : w146.heap.size = w127.heap.size := by rw [hF147e]; rfl
   clear hF147e
   have hB_148 := hB_129.fr0 hF147
   have hRA_149 := hRA_130.fr0 hF147
   have hK_150 := hK_131.fr0 hF147
   have hE_151 := hE_132.tr0 hF147
   have hB109_152 := hB109_133.fr0 hF147
   have hS137_153 := hS137.fr0 hF147
   refine V.gm (s0_141) ?_
   refine V.ge_ [(5, .pointer (some ⟨b100, 0, none⟩))] ⟨(o1 rfl s5_142), trivial⟩ (.pointer (some ⟨b100, 0, none⟩)) ?_
   refine V.go (V.ld ⟨b100, 0, none⟩ (.int .i64 0) (sm hz139.p1 rfl) (by kernel_rfl) (hB109_152.at 0 rfl) ?_)
   refine V.ge_ [(33, .pointer (some ⟨t, 0, none⟩))] ⟨(o2 rfl (sm hz139 rfl)), trivial⟩ (.pointer (some ⟨t, 0, none⟩)) ?_
   refine V.ge_ [(36, .pointer (some ⟨t, 0, none⟩))] ⟨(sm hz139.p2.p1 rfl), trivial⟩ (.pointer (some ⟨t, 1, none⟩)) ?_
   refine V.ge_ [(37, .pointer (some ⟨t, 1, none⟩)), (35, .int .i64 0)] ⟨(sm hz139.p4 rfl), (o2 rfl (sm hz139.p2 rfl)), trivial⟩ (.pointer (some ⟨t, 1, none⟩)) ?_
   refine V.go (V.ld ⟨t, 1, none⟩ (.slice (some ⟨gA, 0, none⟩) T1.a.length T1.a.length) (sm hz139.p4.p1 rfl) (by kernel_rfl) (hB_148.at 1 rfl) ?_)
   refine V.ge_ [(5, .pointer (some ⟨b100, 0, none⟩))] ⟨(o4 rfl (o2 rfl (o1 rfl s5_142))), trivial⟩ (.pointer (some ⟨b100, 1, none⟩)) ?_
   refine V.go (V.ld ⟨b100, 1, none⟩ (.int .i64 ((bkt T1.seed T1.a.length k : Nat) : Int)) (sm hz139.p4.p2.p1 rfl) (by kernel_rfl) (hB109_152.at 1 rfl) ?_)
   refine V.gm (o8 rfl (o1 rfl s7_143)) ?_
   refine V.ge_ [(5, .pointer (some ⟨b100, 0, none⟩))] ⟨(o8 rfl (o2 rfl s5_142)), trivial⟩ (.pointer (some ⟨b100, 2, none⟩)) ?_
   refine V.go (V.ld ⟨b100, 2, none⟩ (.int .i64 (j : Int)) (sm hz139.p8.p2 rfl) (by kernel_rfl) (hB109_152.at 2 rfl) ?_)
   refine V.ge_ [(5, .pointer (some ⟨b100, 0, none⟩))] ⟨(o8 rfl (o4 rfl s5_142)), trivial⟩ (.pointer (some ⟨b100, 2, none⟩)) ?_
   refine V.go (V.ld ⟨b100, 2, none⟩ (.int .i64 (j : Int)) (sm hz139.p8.p4 rfl) (by kernel_rfl) (hB109_152.at 2 rfl) ?_)
   refine V.gf_ [(46, .int .i64 (j : Int))] ⟨(sm hz139.p8.p4.p1 rfl), trivial⟩ (.int .i64 (IntKind.i64.wrap ((j : Int) + 1))) (.int .i64 ((j : Int) + 1)) (V.w_i64 (by omega) (by omega)) ?_
   refine V.nil ?_
   refine ⟨chk [(33, .pointer (some ⟨t, 0, none⟩)), (46, .int .i64 (j : Int))] ⟨(o8 rfl (o4 rfl (o2 rfl (sm hz139 rfl)))), (o1 rfl (sm hz139.p8.p4.p1 rfl)), trivial⟩ (by kernel_rfl), ?_⟩
   obtain ⟨g154, hAe, hO155, hc156, ho157⟩ := hK_150.ownA hlA (i := (bkt T1.seed T1.a.length k)) (by omega) hv136 (by omega)
   rw [hAe] at hv136
   refine V.go (V.call 68 #[] #[.slice A134 ((T1.a.getD (bkt T1.seed T1.a.length k) []).length) c135, .int .i64 (j : Int), .int .i64 ((j : Int) + 1)] evf (args3 (o4 rfl (o1 rfl (sm hz139.p8.p1 rfl))) (o2 rfl (o1 rfl (sm hz139.p8.p2.p1 rfl))) (sm hz139.p8.p4.p2 rfl)) (Go.Proofs.enters_of Try.func68 (by kernel_rfl) rfl) (by (rw [hAe]; exact delete_any w146 g154 c135 j (T1.a.getD (bkt T1.seed T1.a.length k) []) hO155 (by omega) hc156 (by omega))) ?_)
   rintro _ w161 ⟨rfl, hOr158, hF159⟩
   refine ⟨_, rfl, ?_⟩
   have hsw161 := hF159.size
   have hB_162 := hB_148.fr hF159 (fun hm => (ho157 _ hm).1 (by simp))
   have hRA_163 := hRA_149.fr hF159 (fun hm => (ho157 _ hm).1 (by simp))
   have hE_164 := hE_151.tr hF159 (fun k hk => ((ho157 k hk).2).imp (fun h => ⟨h, fun hm => (ho157 k hk).1 (by simp [hm])⟩) id)
   have hB109_165 := hB109_152.fr hF159 (fun hm => (ho157 _ hm).1 (by simp))
   have hK160 := hK_150.setA hlA (i := (bkt T1.seed T1.a.length k)) (by omega) hv136 hF159 hOr158 (.inr (by omega))
   refine V.nil ?_
   refine ⟨⟨(fun _ => held_blk (n := 1) (hx := (o8 rfl (o4 rfl (o1 rfl (sm hz139.p1 rfl))))) hB109_152 hB109_165 (by kernel_rfl) rfl (by simp only [List.length]; omega)), (fun _ => held_blk (n := 1) (hx := (o8 rfl (o1 rfl (sm hz139.p4.p1 rfl)))) hB_148 hB_162 (by kernel_rfl) rfl (by simp only [List.length]; omega)), (fun _ => held_blk (n := 1) (hx := (o4 rfl (o2 rfl (o1 rfl (sm hz139.p4.p2.p1 rfl))))) hB109_152 hB109_165 (by kernel_rfl) rfl (by simp only [List.length]; omega))⟩, ?_⟩
   refine V.go (V.ixa gA 0 T1.a.length T1.a.length .i64 ((bkt T1.seed T1.a.length k : Nat) : Int) 1 (o8 rfl (o1 rfl (sm hz139.p4.p2 rfl))) (o4 rfl (o2 rfl (o1 rfl (sm hz139.p8 rfl)))) (by omega) (by omega) (by kernel_rfl) ?_)
   refine V.nil ?_
   refine ⟨chk [] trivial (by kernel_rfl), ?_⟩
   refine V.go (V.strow (enc := idV) gA (((bkt T1.seed T1.a.length k : Nat) : Int).toNat) (.slice (some ⟨g154, 0, none⟩) ((T1.a.getD (bkt T1.seed T1.a.length k) []).length - 1) c135) (sm hz139.p16 rfl) (o1 rfl (sm hz139.p8.p4.p2.p1 rfl)) rfl rfl (by kernel_rfl) hRA_163 (by first | omega | (simp only [List.length_set, List.length_replicate]; omega)) ?_)
   intro w166 hR167 hF168 hsw166
   have hB_169 := hB_162.fr1 hF168 (by omega)
   have hE_170 := hE_164.tr1 hF168 (by first | exact .inl (by assumption) | exact .inr (by omega) | exact .inl (.inl rfl))
   have hB109_171 := hB109_165.fr1 hF168 (by omega)
   have hK160_172 := hK160.fr hF168 (by simp)
   refine V.nil ?_
   refine ⟨trivial, ?_⟩
   refine V.nil ?_
   refine ⟨chk [] trivial (by kernel_rfl), ?_⟩
   refine V.then_n (hK145 _ _ ?_)
   refine V.flushW hz139.p16.p1 (fun a173 hz174 up175 => ?_)
   have s0_176 := up175 0 _ (o16 rfl (o1 rfl s0_141))
   clear up175
   refine V.seq (fun K177 hK178 => ?_)
   refine V.rg ?_
   refine V.gm (s0_176) ?_
   refine V.ge_ [(50, .pointer (some ⟨t, 0, none⟩))] ⟨(sm hz174 rfl), trivial⟩ (.pointer (some ⟨t, 0, none⟩)) ?_
   refine V.ge_ [(51, .pointer (some ⟨t, 0, none⟩))] ⟨(sm hz174.p1 rfl), trivial⟩ (.pointer (some ⟨t, 4, none⟩)) ?_
   refine V.go (V.ld ⟨t, 4, none⟩ (.int .i64 (T1.n : Int)) (sm hz174.p2 rfl) (by kernel_rfl) (hB_169.at 4 rfl) ?_)
   refine V.gf_ [(53, .int .i64 (T1.n : Int))] ⟨(sm hz174.p2.p1 rfl), trivial⟩ (.int .i64 (IntKind.i64.wrap ((T1.n : Int) - 1))) (.int .i64 ((T1.n : Int) - 1)) (V.w_i64 (by omega) (by omega)) ?_
   refine V.ge_ [(50, .pointer (some ⟨t, 0, none⟩))] ⟨(o4 rfl (sm hz174 rfl)), trivial⟩ (.pointer (some ⟨t, 0, none⟩)) ?_
   refine V.ge_ [(55, .pointer (some ⟨t, 0, none⟩))] ⟨(sm hz174.p4.p1 rfl), trivial⟩ (.pointer (some ⟨t, 4, none⟩)) ?_
   refine V.go (V.stn t 4 (.int .i64 ((T1.n : Int) - 1)) [.int .i64 ((T1.n : Int) - 1)] (sm hz174.p4.p2 rfl) (o2 rfl (sm hz174.p4 rfl)) rfl rfl (by kernel_rfl) hB_169 (by simp) [.int .u64 (T1.seed : Int), .slice (some ⟨gA, 0, none⟩) T1.a.length T1.a.length, .slice none 0 0, .int .i64 (T1.moved : Int), .int .i64 ((T1.n : Int) - 1)] rfl ?_)
   intro w179 hB180 hF181 hsw179
   have hE_182 := hE_170.tr1 hF181 (by first | exact .inl (by assumption) | exact .inr (by omega) | exact .inl (.inl rfl))
   have hB109_183 := hB109_171.fr1 hF181 (by omega)
   have hK160_184 := hK160_172.fr hF181 (by simp)
   have hR167_185 := hR167.fr1 hF181 (by omega)
   refine V.nil ?_
   refine V.then_n (hK178 _ _ ?_)
   refine V.flushW hz174.p4.p2.p1 (fun a186 hz187 up188 => ?_)
   have s0_189 := up188 0 _ (o4 rfl (o2 rfl (o1 rfl s0_176)))
   clear up188
   refine V.seq (fun K190 hK191 => ?_)
   refine V.seq (fun K192 hK193 => ?_)
   refine V.rg ?_
   refine V.gm (s0_189) ?_
   refine V.ge_ [(57, .pointer (some ⟨t, 0, none⟩))] ⟨(sm hz187 rfl), trivial⟩ (.pointer (some ⟨t, 0, none⟩)) ?_
   refine V.ge_ [(58, .pointer (some ⟨t, 0, none⟩))] ⟨(sm hz187.p1 rfl), trivial⟩ (.pointer (some ⟨t, 1, none⟩)) ?_
   refine V.ge_ [(59, .pointer (some ⟨t, 1, none⟩))] ⟨(sm hz187.p2 rfl), trivial⟩ (.pointer (some ⟨t, 1, none⟩)) ?_
   refine V.go (V.ld ⟨t, 1, none⟩ (.slice (some ⟨gA, 0, none⟩) T1.a.length T1.a.length) (sm hz187.p2.p1 rfl) (by kernel_rfl) (hB180.at 1 rfl) ?_)
   refine V.ge_ [(61, .slice (some ⟨gA, 0, none⟩) T1.a.length T1.a.length)] ⟨(sm hz187.p4 rfl), trivial⟩ (.int .i64 ((T1.a.length : Nat) : Int)) ?_
   refine V.ga (sm hz187.p4.p1 rfl) ?_
   refine V.nil ?_
   refine V.then_n (hK193 _ _ ?_)
   refine V.flushW hz187.p4.p2.p1 (fun a194 hz195 up196 => ?_)
   have s0_197 := up196 0 _ (o4 rfl (o2 rfl (o1 rfl s0_189)))
   have s8_198 := up196 8 _ (sm hz187.p4.p2 rfl)
   clear up196
   refine V.seq (fun K199 hK200 => ?_)
   refine V.rg ?_
   refine V.gm (s0_197) ?_
   refine V.go (V.call 65 #[] #[.pointer (some ⟨t, 0, none⟩)] evf (args1 (sm hz195 rfl)) (Go.Proofs.enters_of Try.func65 (by kernel_rfl) rfl) (moves_N w179 t T1.seed T1.a.length 0 0 gA 0 (.int .i64 (T1.moved : Int)) (.int .i64 ((T1.n : Int) - 1)) hB180) ?_)
   rintro _ w202 ⟨rfl, hF201⟩
   refine ⟨_, rfl, ?_⟩
   have hsw202 := hF201.size
   have hE_203 := hE_182.tr0 hF201
   have hB109_204 := hB109_183.fr0 hF201
   have hK160_205 := hK160_184.fr0 hF201
   have hR167_206 := hR167_185.fr0 hF201
   have hB180_207 := hB180.fr0 hF201
   refine V.ge_ [(64, .bool false)] ⟨(sm hz195.p1 rfl), trivial⟩ (.bool true) ?_
   refine V.gm (sm hz195.p2 rfl) ?_
   refine V.go_on 66 (by kernel_rfl) (sm hz195.p2.p1 rfl) (V.mv (o4 rfl s8_198) ?_)
   refine V.go_on 66 (by kernel_rfl) (o1 rfl (sm hz195.p2.p1 rfl)) (V.pv [(67, .int .i64 ((T1.a.length : Nat) : Int))] ⟨(sm hz195.p4 rfl), trivial⟩ (by kernel_rfl) (.bool (decide (((T1.a.length : Nat) : Int) > 4))) (by kernel_rfl) ?_)
   refine V.go (V.pk_t (o2 rfl (sm hz195.p2.p1 rfl)) (v := (.bool (decide (((T1.a.length : Nat) : Int) > 4)))) (sm hz195.p4.p1 rfl) ?_)
   refine V.gm (sm hz195.p4.p2 rfl) ?_
   by_cases hg208 : ((T1.a.length : Nat) : Int) > 4
   ·
    refine V.flushL hz195.p8 (fun a209 hz210 up211 => ?_)
    have s0_212 := up211 0 _ (o8 rfl s0_197)
    have s8_213 := up211 8 _ (o8 rfl s8_198)
    have s70_214 := up211 70 _ (sm hz195.p4.p2.p1 rfl)
    clear up211
    have s70_215 := ((s70_214).trans (dt hg208))
    refine V.go_on 70 (by kernel_rfl) (s70_215) (V.mv (s0_212) ?_)
    refine V.go_on 70 (by kernel_rfl) (o1 rfl s70_215) (V.pv [(71, .pointer (some ⟨t, 0, none⟩))] ⟨(sm hz210 rfl), trivial⟩ (by kernel_rfl) (.pointer (some ⟨t, 0, none⟩)) (by kernel_rfl) ?_)
    refine V.go_on 70 (by kernel_rfl) (o2 rfl s70_215) (V.pv [(72, .pointer (some ⟨t, 0, none⟩))] ⟨(sm hz210.p1 rfl), trivial⟩ (by kernel_rfl) (.pointer (some ⟨t, 4, none⟩)) (by kernel_rfl) ?_)
    refine V.go_on 70 (by kernel_rfl) (o2 rfl (o1 rfl s70_215)) (V.ld ⟨t, 4, none⟩ (.int .i64 ((T1.n : Int) - 1)) (sm hz210.p2 rfl) (by kernel_rfl) (hB180_207.at 4 rfl) ?_)
    refine V.go_on 70 (by kernel_rfl) (o4 rfl s70_215) (V.mv (o4 rfl s8_213) ?_)
    refine V.go_on 70 (by kernel_rfl) (o4 rfl (o1 rfl s70_215)) (V.pvw [(75, .int .i64 ((T1.a.length : Nat) : Int))] ⟨(sm hz210.p4 rfl), trivial⟩ (by kernel_rfl) (.int .i64 (IntKind.i64.wrap (Int.tdiv ((T1.a.length : Nat) : Int) 8))) (.int .i64 (((T1.a.length : Nat) : Int) / 8)) (by kernel_rfl) (V.quo_i64 (by omega) (by omega) (by omega)) ?_)
    refine V.go_on 70 (by kernel_rfl) (o4 rfl (o2 rfl s70_215)) (V.pv [(74, .int .i64 ((T1.n : Int) - 1)), (76, .int .i64 (((T1.a.length : Nat) : Int) / 8))] ⟨(o2 rfl (sm hz210.p2.p1 rfl)), (sm hz210.p4.p1 rfl), trivial⟩ (by kernel_rfl) (.bool (decide (((T1.n : Int) - 1) < (((T1.a.length : Nat) : Int) / 8)))) (by kernel_rfl) ?_)
    refine V.go (V.pk_t (o4 rfl (o2 rfl (o1 rfl s70_215))) (v := (.bool (decide (((T1.n : Int) - 1) < (((T1.a.length : Nat) : Int) / 8))))) (sm hz210.p4.p2 rfl) ?_)
    refine V.nil ?_
    refine V.then_n (hK200 _ _ ?_)
    refine V.flushW hz210.p8 (fun a216 hz217 up218 => ?_)
    have s0_219 := up218 0 _ (o8 rfl s0_212)
    have s8_220 := up218 8 _ (o8 rfl s8_213)
    have s78_221 := up218 78 _ (sm hz210.p4.p2.p1 rfl)
    clear up218
    refine V.condP (p := ((T1.n : Int) - 1) < (((T1.a.length : Nat) : Int) / 8)) (s78_221) (fun ht222 => ?_) (fun ht222 => ?_)
    ·
     refine V.rg ?_
     refine V.gm (s0_219) ?_
     refine V.gm (o1 rfl s8_220) ?_
     refine V.go (V.quoN T1.a.length 2 (sm hz217.p1 rfl) evc (by omega) (by omega) ?_)
     have hu2 : rm1T T1 k = ({ T1 with a := rmV T1.a (bkt T1.seed T1.a.length k) j, n := T1.n - 1 } : Tb Int) := by (unfold rm1T; rw [hf]; simp)
     have hup := (rm1T_ok hok1 hm1 k (by rw [hf])).1
     rw [hu2] at hup
     have hN223 : TabN 67 87 86 itI w202 (gh (gr H w w21) w21) av t gA (vsA.set (((bkt T1.seed T1.a.length k : Nat) : Int).toNat) (.slice (some ⟨g154, 0, none⟩) ((T1.a.getD (bkt T1.seed T1.a.length k) []).length - 1) c135)) ({ T1 with a := rmV T1.a (bkt T1.seed T1.a.length k) j, n := T1.n - 1 } : Tb Int) := TabN.mk2 hB180_207 hR167_206 (by simpa [rmV] using hK160_205) (mem3 (by simp) (by simp) (by intro k hk; simp [hk])) hne ⟨.inl hpt.1, hpt.2⟩ ⟨.inl hpg.1, hpg.2⟩ rfl (rmV_length _ _ _).symm rfl (by show ((T1.n : Int) - 1) = ((T1.n - 1 : Nat) : Int); omega) rfl
     refine V.go (V.call 67 #[] #[.pointer (some ⟨t, 0, none⟩), .int .i64 ((T1.a.length / 2 : Nat) : Int)] evf (args2 (o2 rfl (sm hz217 rfl)) (sm hz217.p2 rfl)) (Go.Proofs.enters_of Try.func67 (by kernel_rfl) rfl) (start_N w202 (gh (gr H w w21) w21) av t gA _ ({ T1 with a := rmV T1.a (bkt T1.seed T1.a.length k) j, n := T1.n - 1 } : Tb Int) hup hN223 (T1.a.length / 2) hb0 (by omega) (by omega)) ?_)
     rintro _ w226 ⟨rfl, hT224, hfp225⟩
     refine ⟨_, rfl, ?_⟩
     have hsw226 := hfp225.size
     have hE_227 := hE_203.trP hfp225 (fun k hk => hk.1.imp (fun h => ⟨h, hk.2⟩) id)
     refine V.nil ?_
     refine V.then_n (hK191 _ _ ?_)
     refine V.flushW hz217.p4 (fun a228 hz229 up230 => ?_)
     clear up230
     refine V.seq (fun K231 hK232 => ?_)
     refine V.rg ?_
     refine V.ga evc ?_
     refine V.nil ?_
     refine V.then_n (hK232 _ _ ?_)
     refine V.ret ?_
     refine V.ret1 hz229.p1 rfl (sm hz229 rfl) ?_
     have hst : delT T k = shrT (rm1T T1 k) := by (unfold delT; rw [← hT1]; unfold del1T; rw [hf, if_pos rfl])
     rw [hst, hu2]
     have hsh : shrT ({ T1 with a := rmV T1.a (bkt T1.seed T1.a.length k) j, n := T1.n - 1 } : Tb Int) = startT ({ T1 with a := rmV T1.a (bkt T1.seed T1.a.length k) j, n := T1.n - 1 } : Tb Int) (T1.a.length / 2) := by (unfold shrT; rw [if_pos ⟨hb1, by show 4 < (rmV T1.a (bkt T1.seed T1.a.length k) j).length; rw [rmV_length]; omega, by show T1.n - 1 < (rmV T1.a (bkt T1.seed T1.a.length k) j).length / 8; rw [rmV_length]; omega⟩]; show startT _ ((rmV T1.a (bkt T1.seed T1.a.length k) j).length / 2) = _; rw [rmV_length])
     rw [hsh]
     exact ⟨by rw [hf], (hT224.gr2 (by omega)).gr3 (by omega), (hFPE.gr hE_227)⟩
    ·
     refine V.skip ?_
     refine V.then_n (hK191 _ _ ?_)
     refine V.seq (fun K233 hK234 => ?_)
     refine V.rg ?_
     refine V.ga evc ?_
     refine V.nil ?_
     refine V.then_n (hK234 _ _ ?_)
     refine V.ret ?_
     refine V.ret1 hz217.p1 rfl (sm hz217 rfl) ?_
     have hst : delT T k = shrT (rm1T T1 k) := by (unfold delT; rw [← hT1]; unfold del1T; rw [hf, if_pos rfl])
     have hu2 : rm1T T1 k = ({ T1 with a := rmV T1.a (bkt T1.seed T1.a.length k) j, n := T1.n - 1 } : Tb Int) := by (unfold rm1T; rw [hf]; simp)
     have hup := (rm1T_ok hok1 hm1 k (by rw [hf])).1
     rw [hu2] at hup
     rw [hst, hu2]
     have hsh : shrT ({ T1 with a := rmV T1.a (bkt T1.seed T1.a.length k) j, n := T1.n - 1 } : Tb Int) = ({ T1 with a := rmV T1.a (bkt T1.seed T1.a.length k) j, n := T1.n - 1 } : Tb Int) := by (unfold shrT; rw [if_neg]; rintro ⟨_, h1, h2⟩; (have h3 : 4 < (rmV T1.a (bkt T1.seed T1.a.length k) j).length := h1); (have h4 : T1.n - 1 < (rmV T1.a (bkt T1.seed T1.a.length k) j).length / 8 := h2); rw [rmV_length] at h3 h4; omega)
     rw [hsh]
     exact ⟨by rw [hf], (TabN.fin (T := ({ T1 with a := rmV T1.a (bkt T1.seed T1.a.length k) j, n := T1.n - 1 } : Tb Int)) hup hb0 hB180_207 hR167_206 (by have h := hK160_205; rw [List.append_nil, List.append_nil] at h; exact h) (mem3 (l := (b100 :: t :: gA :: av)) (by simp) (by simp) (by intro k hk; simp [hk])) (by first | assumption | exact Ne.symm (by assumption) | omega) hpt ⟨.inl hpg.1, hpg.2⟩ rfl (rmV_length _ _ _).symm rfl (by show ((T1.n : Int) - 1) = ((T1.n - 1 : Nat) : Int); omega) rfl).gr3 (by omega), (hFPE.gr hE_203)⟩
   ·
    refine V.flushL hz195.p8 (fun a235 hz236 up237 => ?_)
    have s0_238 := up237 0 _ (o8 rfl s0_197)
    have s8_239 := up237 8 _ (o8 rfl s8_198)
    have s70_240 := up237 70 _ (sm hz195.p4.p2.p1 rfl)
    clear up237
    have s70_241 := ((s70_240).trans (df hg208))
    refine V.go_off 70 (by kernel_rfl) (s70_241) (by kernel_rfl) ?_
    refine V.go_off 70 (by kernel_rfl) (o1 rfl s70_241) (by kernel_rfl) ?_
    refine V.go_off 70 (by kernel_rfl) (o2 rfl s70_241) (by kernel_rfl) ?_
    refine V.go_off 70 (by kernel_rfl) (o2 rfl (o1 rfl s70_241)) (by kernel_rfl) ?_
    refine V.go_off 70 (by kernel_rfl) (o4 rfl s70_241) (by kernel_rfl) ?_
    refine V.go_off 70 (by kernel_rfl) (o4 rfl (o1 rfl s70_241)) (by kernel_rfl) ?_
    refine V.go_off 70 (by kernel_rfl) (o4 rfl (o2 rfl s70_241)) (by kernel_rfl) ?_
    refine V.go (V.pk_f (o4 rfl (o2 rfl (o1 rfl s70_241))) (v := (.bool false)) evc ?_)
    refine V.nil ?_
    refine V.then_n (hK200 _ _ ?_)
    refine V.flushW hz236.p8 (fun a242 hz243 up244 => ?_)
    have s0_245 := up244 0 _ (o8 rfl s0_238)
    have s8_246 := up244 8 _ (o8 rfl s8_239)
    have s78_247 := up244 78 _ (sm hz236.p4.p2.p1 rfl)
    clear up244
    refine V.cond_f (s78_247) ?_
    refine V.skip ?_
    refine V.then_n (hK191 _ _ ?_)
    refine V.seq (fun K248 hK249 => ?_)
    refine V.rg ?_
    refine V.ga evc ?_
    refine V.nil ?_
    refine V.then_n (hK249 _ _ ?_)
    refine V.ret ?_
    refine V.ret1 hz243.p1 rfl (sm hz243 rfl) ?_
    have hst : delT T k = shrT (rm1T T1 k) := by (unfold delT; rw [← hT1]; unfold del1T; rw [hf, if_pos rfl])
    have hu2 : rm1T T1 k = ({ T1 with a := rmV T1.a (bkt T1.seed T1.a.length k) j, n := T1.n - 1 } : Tb Int) := by (unfold rm1T; rw [hf]; simp)
    have hup := (rm1T_ok hok1 hm1 k (by rw [hf])).1
    rw [hu2] at hup
    rw [hst, hu2]
    have hsh : shrT ({ T1 with a := rmV T1.a (bkt T1.seed T1.a.length k) j, n := T1.n - 1 } : Tb Int) = ({ T1 with a := rmV T1.a (bkt T1.seed T1.a.length k) j, n := T1.n - 1 } : Tb Int) := by (unfold shrT; rw [if_neg]; rintro ⟨_, h1, h2⟩; (have h3 : 4 < (rmV T1.a (bkt T1.seed T1.a.length k) j).length := h1); (have h4 : T1.n - 1 < (rmV T1.a (bkt T1.seed T1.a.length k) j).length / 8 := h2); rw [rmV_length] at h3 h4; omega)
    rw [hsh]
    exact ⟨by rw [hf], (TabN.fin (T := ({ T1 with a := rmV T1.a (bkt T1.seed T1.a.length k) j, n := T1.n - 1 } : Tb Int)) hup hb0 hB180_207 hR167_206 (by have h := hK160_205; rw [List.append_nil, List.append_nil] at h; exact h) (mem3 (l := (b100 :: t :: gA :: av)) (by simp) (by simp) (by intro k hk; simp [hk])) (by first | assumption | exact Ne.symm (by assumption) | omega) hpt ⟨.inl hpg.1, hpg.2⟩ rfl (rmV_length _ _ _).symm rfl (by show ((T1.n : Int) - 1) = ((T1.n - 1 : Nat) : Int); omega) rfl).gr3 (by omega), (hFPE.gr hE_203)⟩
  ·
   have hb1 : T1.b.length ≠ 0 := fun h => hb0 (List.eq_nil_of_length_eq_zero h)
   obtain ⟨hB, hRA, hRB, hlA, hlB, hK, hne, hne2, hne3, hpt, hpg, hph⟩ := hN
   replace hK := hK.toH
   have hltt := hB.lt
   have hltg := hRA.lt
   have hltg2 := hRB.lt
   have hE : FrP (gp (gr H w w21) av) w21 w21 := FrP.refl _ _
   have hK0 : ∀ k ∈ av, k < w21.heap.size := fun k hk => hK.avl k (by simp [hk])
   obtain ⟨hsd, hpa, hla, hlb, hmv, hmz, hnn, hcn, hks⟩ := (show T1.Ok from hok1)
   have hbl := hok1.bl
   have hFPE := hFP_22
   refine V.go (V.call 53 #[] #[.pointer (some ⟨t, 0, none⟩), .string k] evf (args2 (o1 rfl (sm hz12.p2 rfl)) (sm hz12.p2.p1 rfl)) (Go.Proofs.enters_of Try.func53 (by kernel_rfl) rfl) (by have h := find_any w21 (gr H w w21) (av) t T1 hT19q k hkz; rw [hf] at h; exact h) ?_)
   rintro _ w251 ⟨rfl, hF250⟩
   refine ⟨_, rfl, ?_⟩
   have hsw251 := hF250.size
   have hB_252 := hB.fr0 hF250
   have hRA_253 := hRA.fr0 hF250
   have hRB_254 := hRB.fr0 hF250
   have hK_255 := hK.fr0 hF250
   have hE_256 := hE.tr0 hF250
   have hbkl := bkt_lt T1.seed k (n := T1.a.length) (by omega)
   refine V.gm (sm hz12.p4 rfl) ?_
   refine V.ge_ [(14, .tuple #[.agg #[.int .i64 0, .int .i64 ((bkt T1.seed T1.a.length k : Nat) : Int), .int .i64 (j : Int)], .bool true])] ⟨(sm hz12.p4.p1 rfl), trivial⟩ (.agg #[.int .i64 0, .int .i64 ((bkt T1.seed T1.a.length k : Nat) : Int), .int .i64 (j : Int)]) ?_
   refine V.ge_ [(14, .tuple #[.agg #[.int .i64 0, .int .i64 ((bkt T1.seed T1.a.length k : Nat) : Int), .int .i64 (j : Int)], .bool true])] ⟨(o1 rfl (sm hz12.p4.p1 rfl)), trivial⟩ (.bool true) ?_
   refine V.go (V.mk [] trivial (by kernel_rfl) [.int .i64 0, .int .i64 0, .int .i64 0] 82 (fun b => .pointer (some ⟨b, 0, none⟩)) (by kernel_rfl) ?_)
   intro w258 b257 heb257 hB259 hF260 hsb257
   have hB_261 := hB_252.fr0 hF260
   have hRA_262 := hRA_253.fr0 hF260
   have hRB_263 := hRB_254.fr0 hF260
   have hK_264 := hK_255.alloc hF260 heb257 (by omega)
   have hE_265 := hE_256.tr0 hF260
   refine V.go (V.stn b257 0 (.agg #[.int .i64 0, .int .i64 ((bkt T1.seed T1.a.length k : Nat) : Int), .int .i64 (j : Int)]) [.int .i64 0, .int .i64 ((bkt T1.seed T1.a.length k : Nat) : Int), .int .i64 (j : Int)] (sm hz12.p8 rfl) (o2 rfl (sm hz12.p4.p2 rfl)) rfl rfl (by kernel_rfl) hB259 (by simp) [.int .i64 0, .int .i64 ((bkt T1.seed T1.a.length k : Nat) : Int), .int .i64 (j : Int)] rfl ?_)
   intro w266 hB267 hF268 hsw266
   have hB_269 := hB_261.fr1 hF268 (by omega)
   have hRA_270 := hRA_262.fr1 hF268 (by omega)
   have hRB_271 := hRB_263.fr1 hF268 (by omega)
   have hK_272 := hK_264.fr hF268 (by simp)
   have hE_273 := hE_265.tr1 hF268 (by first | exact .inl (by assumption) | exact .inr (by omega) | exact .inl (.inl rfl))
   refine V.ga (o1 rfl (sm hz12.p4.p2.p1 rfl)) ?_
   refine V.nil ?_
   refine V.then_n (hK24 _ _ ?_)
   refine V.flushW hz12.p8.p2 (fun a274 hz275 up276 => ?_)
   have s0_277 := up276 0 _ (o8 rfl (o2 rfl s0_14))
   have s5_278 := up276 5 _ (o1 rfl (sm hz12.p8 rfl))
   have s6_279 := up276 6 _ (sm hz12.p8.p1 rfl)
   clear up276
   refine V.seq (fun K280 hK281 => ?_)
   refine V.seq (fun K282 hK283 => ?_)
   refine V.rg ?_
   refine V.gm (s6_279) ?_
   refine V.ge_ [(20, .bool true)] ⟨(sm hz275 rfl), trivial⟩ (.bool false) ?_
   refine V.nil ?_
   refine V.then_n (hK283 _ _ ?_)
   refine V.cond_f (sm hz275.p1 rfl) ?_
   refine V.skip ?_
   refine V.then_n (hK281 _ _ ?_)
   refine V.seq (fun K284 hK285 => ?_)
   have hbq := hbl (bkt T1.seed T1.a.length k)
   refine V.plan [[], [], [1], [0], [0, 3], [0, 1, 2, 3, 4], [0, 1, 2, 3, 4, 5], [], [7], [0, 1, 2, 3, 4, 5, 6, 7, 8], [0, 1, 2, 3, 4, 5, 6, 7, 8, 9], [0, 1, 2, 3, 4, 5, 6, 7, 8, 9, 10]] [([0, 1, 2, 3, 4, 5, 6, 7, 8, 9, 10, 11], none)] (by kernel_rfl) (by kernel_rfl) (by exact fun _ _ _ _ h => h) ?_
   simp only [Plan.wpSegs, Plan.pickAll, Plan.nth, V.L_eq]
   obtain ⟨w286, hF287e⟩ : ∃ w1, w1 = w266.drew := ⟨_, rfl⟩
   rw [← hF287e]
   have hF287 : Fr [] w266 w286 := by rw [hF287e]; exact Fr.drew _ _
   have hsw286 : w286.heap.size = w266.heap.size := by rw [hF287e]; rfl
   clear hF287e
   have hB_288 := hB_269.fr0 hF287
   have hRA_289 := hRA_270.fr0 hF287
   have hRB_290 := hRB_271.fr0 hF287
   have hK_291 := hK_272.fr0 hF287
   have hE_292 := hE_273.tr0 hF287
   have hB267_293 := hB267.fr0 hF287
   refine V.gm (o2 rfl s0_277) ?_
   refine V.ge_ [(5, .pointer (some ⟨b257, 0, none⟩))] ⟨(o2 rfl (o1 rfl s5_278)), trivial⟩ (.pointer (some ⟨b257, 0, none⟩)) ?_
   refine V.go (V.ld ⟨b257, 0, none⟩ (.int .i64 0) (sm hz275.p2.p1 rfl) (by kernel_rfl) (hB267_293.at 0 rfl) ?_)
   refine V.ge_ [(22, .pointer (some ⟨t, 0, none⟩))] ⟨(o2 rfl (sm hz275.p2 rfl)), trivial⟩ (.pointer (some ⟨t, 0, none⟩)) ?_
   refine V.ge_ [(25, .pointer (some ⟨t, 0, none⟩))] ⟨(sm hz275.p4.p1 rfl), trivial⟩ (.pointer (some ⟨t, 1, none⟩)) ?_
   refine V.ge_ [(26, .pointer (some ⟨t, 1, none⟩)), (24, .int .i64 0)] ⟨(sm hz275.p4.p2 rfl), (o2 rfl (sm hz275.p4 rfl)), trivial⟩ (.pointer (some ⟨t, 1, none⟩)) ?_
   refine V.go (V.ld ⟨t, 1, none⟩ (.slice (some ⟨gA, 0, none⟩) T1.a.length T1.a.length) (sm hz275.p4.p2.p1 rfl) (by kernel_rfl) (hB_288.at 1 rfl) ?_)
   refine V.ge_ [(5, .pointer (some ⟨b257, 0, none⟩))] ⟨(o8 rfl (o1 rfl s5_278)), trivial⟩ (.pointer (some ⟨b257, 1, none⟩)) ?_
   refine V.go (V.ld ⟨b257, 1, none⟩ (.int .i64 ((bkt T1.seed T1.a.length k : Nat) : Int)) (sm hz275.p8.p1 rfl) (by kernel_rfl) (hB267_293.at 1 rfl) ?_)
   refine V.go (V.ixa gA 0 T1.a.length T1.a.length .i64 ((bkt T1.seed T1.a.length k : Nat) : Int) 1 (o2 rfl (sm hz275.p8 rfl)) (sm hz275.p8.p2 rfl) (by omega) (by omega) (by kernel_rfl) ?_)
   obtain ⟨A294, c295, hv296⟩ := hK_291.getA hlA (i := (bkt T1.seed T1.a.length k)) (by omega) nilS
   refine V.go (V.ld ⟨gA, 0 + ((bkt T1.seed T1.a.length k : Nat) : Int).toNat * 1, none⟩ (.slice A294 ((T1.a.getD (bkt T1.seed T1.a.length k) []).length) c295) (sm hz275.p8.p2.p1 rfl) (by kernel_rfl) ((hRA_289.at (bkt T1.seed T1.a.length k) nilS (by omega)).trans (congrArg some hv296)) ?_)
   have hS297 := hK_291.slA hlA (i := (bkt T1.seed T1.a.length k)) (by omega) hv296
   refine V.ga (sm hz275.p8.p4 rfl) ?_
   refine V.nil ?_
   refine ⟨chk [(22, .pointer (some ⟨t, 0, none⟩))] ⟨(o8 rfl (o2 rfl (o1 rfl (sm hz275.p2 rfl)))), trivial⟩ (by kernel_rfl), ?_⟩
   refine V.then_n (hK285 _ _ ?_)
   refine V.flushW hz275.p8.p4.p2 (fun a298 hz299 up300 => ?_)
   have s0_301 := up300 0 _ (o8 rfl (o4 rfl (o2 rfl s0_277)))
   have s5_302 := up300 5 _ (o8 rfl (o4 rfl (o2 rfl s5_278)))
   have s7_303 := up300 7 _ (sm hz275.p8.p4.p1 rfl)
   clear up300
   refine V.seq (fun K304 hK305 => ?_)
   refine V.plan [[], [], [1], [0], [0, 3], [0, 1, 2, 3, 4], [0, 1, 2, 3, 4, 5], [], [7], [], [], [10], [], [12], [12, 13], [9, 10, 11, 12, 13, 14], [0, 1, 2, 3, 4, 5, 6, 7, 8, 9, 10, 11, 12, 13, 14, 15], [0, 1, 2, 3, 4, 5, 6, 7, 8, 9, 10, 11, 12, 13, 14, 15, 16]] [([0, 1, 2, 3, 4, 5, 6, 7, 8, 9, 10, 11, 12, 13, 14], some (15, [2, 6, 8])), ([16], some (17, [])), ([], none)] (by kernel_rfl) (by kernel_rfl) (by exact fun _ _ _ _ h => h) ?_
   simp only [Plan.wpSegs, Plan.pickAll, Plan.nth, V.L_eq]
   obtain ⟨w306, hF307e⟩ : ∃ w1, w1 = w286.drew := ⟨_, rfl⟩
   rw [← hF307e]
   have hF307 : Fr [] w286 w306 := by rw [hF307e]; exact Fr.drew _ _
   have hsw306 : w306.heap.size = w286.heap.size := by rw [hF307e]; rfl
   clear hF307e
   have hB_308 := hB_288.fr0 hF307
   have hRA_309 := hRA_289.fr0 hF307
   have hRB_310 := hRB_290.fr0 hF307
   have hK_311 := hK_291.fr0 hF307
   have hE_312 := hE_292.tr0 hF307
   have hB267_313 := hB267_293.fr0 hF307
   have hS297_314 := hS297.fr0 hF307
   refine V.gm (s0_301) ?_
   refine V.ge_ [(5, .pointer (some ⟨b257, 0, none⟩))] ⟨(o1 rfl s5_302), trivial⟩ (.pointer (some ⟨b257, 0, none⟩)) ?_
   refine V.go (V.ld ⟨b257, 0, none⟩ (.int .i64 0) (sm hz299.p1 rfl) (by kernel_rfl) (hB267_313.at 0 rfl) ?_)
   refine V.ge_ [(33, .pointer (some ⟨t, 0, none⟩))] ⟨(o2 rfl (sm hz299 rfl)), trivial⟩ (.pointer (some ⟨t, 0, none⟩)) ?_
   refine V.ge_ [(36, .pointer (some ⟨t, 0, none⟩))] ⟨(sm hz299.p2.p1 rfl), trivial⟩ (.pointer (some ⟨t, 1, none⟩)) ?_
   refine V.ge_ [(37, .pointer (some ⟨t, 1, none⟩)), (35, .int .i64 0)] ⟨(sm hz299.p4 rfl), (o2 rfl (sm hz299.p2 rfl)), trivial⟩ (.pointer (some ⟨t, 1, none⟩)) ?_
   refine V.go (V.ld ⟨t, 1, none⟩ (.slice (some ⟨gA, 0, none⟩) T1.a.length T1.a.length) (sm hz299.p4.p1 rfl) (by kernel_rfl) (hB_308.at 1 rfl) ?_)
   refine V.ge_ [(5, .pointer (some ⟨b257, 0, none⟩))] ⟨(o4 rfl (o2 rfl (o1 rfl s5_302))), trivial⟩ (.pointer (some ⟨b257, 1, none⟩)) ?_
   refine V.go (V.ld ⟨b257, 1, none⟩ (.int .i64 ((bkt T1.seed T1.a.length k : Nat) : Int)) (sm hz299.p4.p2.p1 rfl) (by kernel_rfl) (hB267_313.at 1 rfl) ?_)
   refine V.gm (o8 rfl (o1 rfl s7_303)) ?_
   refine V.ge_ [(5, .pointer (some ⟨b257, 0, none⟩))] ⟨(o8 rfl (o2 rfl s5_302)), trivial⟩ (.pointer (some ⟨b257, 2, none⟩)) ?_
   refine V.go (V.ld ⟨b257, 2, none⟩ (.int .i64 (j : Int)) (sm hz299.p8.p2 rfl) (by kernel_rfl) (hB267_313.at 2 rfl) ?_)
   refine V.ge_ [(5, .pointer (some ⟨b257, 0, none⟩))] ⟨(o8 rfl (o4 rfl s5_302)), trivial⟩ (.pointer (some ⟨b257, 2, none⟩)) ?_
   refine V.go (V.ld ⟨b257, 2, none⟩ (.int .i64 (j : Int)) (sm hz299.p8.p4 rfl) (by kernel_rfl) (hB267_313.at 2 rfl) ?_)
   refine V.gf_ [(46, .int .i64 (j : Int))] ⟨(sm hz299.p8.p4.p1 rfl), trivial⟩ (.int .i64 (IntKind.i64.wrap ((j : Int) + 1))) (.int .i64 ((j : Int) + 1)) (V.w_i64 (by omega) (by omega)) ?_
   refine V.nil ?_
   refine ⟨chk [(33, .pointer (some ⟨t, 0, none⟩)), (46, .int .i64 (j : Int))] ⟨(o8 rfl (o4 rfl (o2 rfl (sm hz299 rfl)))), (o1 rfl (sm hz299.p8.p4.p1 rfl)), trivial⟩ (by kernel_rfl), ?_⟩
   obtain ⟨g315, hAe, hO316, hc317, ho318⟩ := hK_311.ownA hlA (i := (bkt T1.seed T1.a.length k)) (by omega) hv296 (by omega)
   rw [hAe] at hv296
   refine V.go (V.call 68 #[] #[.slice A294 ((T1.a.getD (bkt T1.seed T1.a.length k) []).length) c295, .int .i64 (j : Int), .int .i64 ((j : Int) + 1)] evf (args3 (o4 rfl (o1 rfl (sm hz299.p8.p1 rfl))) (o2 rfl (o1 rfl (sm hz299.p8.p2.p1 rfl))) (sm hz299.p8.p4.p2 rfl)) (Go.Proofs.enters_of Try.func68 (by kernel_rfl) rfl) (by (rw [hAe]; exact delete_any w306 g315 c295 j (T1.a.getD (bkt T1.seed T1.a.length k) []) hO316 (by omega) hc317 (by omega))) ?_)
   rintro _ w322 ⟨rfl, hOr319, hF320⟩
   refine ⟨_, rfl, ?_⟩
   have hsw322 := hF320.size
   have hB_323 := hB_308.fr hF320 (fun hm => (ho318 _ hm).1 (by simp))
   have hRA_324 := hRA_309.fr hF320 (fun hm => (ho318 _ hm).1 (by simp))
   have hRB_325 := hRB_310.fr hF320 (fun hm => (ho318 _ hm).1 (by simp))
   have hE_326 := hE_312.tr hF320 (fun k hk => ((ho318 k hk).2).imp (fun h => ⟨h, fun hm => (ho318 k hk).1 (by simp [hm])⟩) id)
   have hB267_327 := hB267_313.fr hF320 (fun hm => (ho318 _ hm).1 (by simp))
   have hK321 := hK_311.setA hlA (i := (bkt T1.seed T1.a.length k)) (by omega) hv296 hF320 hOr319 (.inr (by omega))
   refine V.nil ?_
   refine ⟨⟨(fun _ => held_blk (n := 1) (hx := (o8 rfl (o4 rfl (o1 rfl (sm hz299.p1 rfl))))) hB267_313 hB267_327 (by kernel_rfl) rfl (by simp only [List.length]; omega)), (fun _ => held_blk (n := 1) (hx := (o8 rfl (o1 rfl (sm hz299.p4.p1 rfl)))) hB_308 hB_323 (by kernel_rfl) rfl (by simp only [List.length]; omega)), (fun _ => held_blk (n := 1) (hx := (o4 rfl (o2 rfl (o1 rfl (sm hz299.p4.p2.p1 rfl))))) hB267_313 hB267_327 (by kernel_rfl) rfl (by simp only [List.length]; omega))⟩, ?_⟩
   refine V.go (V.ixa gA 0 T1.a.length T1.a.length .i64 ((bkt T1.seed T1.a.length k : Nat) : Int) 1 (o8 rfl (o1 rfl (sm hz299.p4.p2 rfl))) (o4 rfl (o2 rfl (o1 rfl (sm hz299.p8 rfl)))) (by omega) (by omega) (by kernel_rfl) ?_)
   refine V.nil ?_
   refine ⟨chk [] trivial (by kernel_rfl), ?_⟩
   refine V.go (V.strow (enc := idV) gA (((bkt T1.seed T1.a.length k : Nat) : Int).toNat) (.slice (some ⟨g315, 0, none⟩) ((T1.a.getD (bkt T1.seed T1.a.length k) []).length - 1) c295) (sm hz299.p16 rfl) (o1 rfl (sm hz299.p8.p4.p2.p1 rfl)) rfl rfl (by kernel_rfl) hRA_324 (by first | omega | (simp only [List.length_set, List.length_replicate]; omega)) ?_)
   intro w328 hR329 hF330 hsw328
   have hB_331 := hB_323.fr1 hF330 (by omega)
   have hRB_332 := hRB_325.fr1 hF330 (by omega)
   have hE_333 := hE_326.tr1 hF330 (by first | exact .inl (by assumption) | exact .inr (by omega) | exact .inl (.inl rfl))
   have hB267_334 := hB267_327.fr1 hF330 (by omega)
   have hK321_335 := hK321.fr hF330 (by simp)
   refine V.nil ?_
   refine ⟨trivial, ?_⟩
   refine V.nil ?_
   refine ⟨chk [] trivial (by kernel_rfl), ?_⟩
   refine V.then_n (hK305 _ _ ?_)
   refine V.flushW hz299.p16.p1 (fun a336 hz337 up338 => ?_)
   have s0_339 := up338 0 _ (o16 rfl (o1 rfl s0_301))
   clear up338
   refine V.seq (fun K340 hK341 => ?_)
   refine V.rg ?_
   refine V.gm (s0_339) ?_
   refine V.ge_ [(50, .pointer (some ⟨t, 0, none⟩))] ⟨(sm hz337 rfl), trivial⟩ (.pointer (some ⟨t, 0, none⟩)) ?_
   refine V.ge_ [(51, .pointer (some ⟨t, 0, none⟩))] ⟨(sm hz337.p1 rfl), trivial⟩ (.pointer (some ⟨t, 4, none⟩)) ?_
   refine V.go (V.ld ⟨t, 4, none⟩ (.int .i64 (T1.n : Int)) (sm hz337.p2 rfl) (by kernel_rfl) (hB_331.at 4 rfl) ?_)
   refine V.gf_ [(53, .int .i64 (T1.n : Int))] ⟨(sm hz337.p2.p1 rfl), trivial⟩ (.int .i64 (IntKind.i64.wrap ((T1.n : Int) - 1))) (.int .i64 ((T1.n : Int) - 1)) (V.w_i64 (by omega) (by omega)) ?_
   refine V.ge_ [(50, .pointer (some ⟨t, 0, none⟩))] ⟨(o4 rfl (sm hz337 rfl)), trivial⟩ (.pointer (some ⟨t, 0, none⟩)) ?_
   refine V.ge_ [(55, .pointer (some ⟨t, 0, none⟩))] ⟨(sm hz337.p4.p1 rfl), trivial⟩ (.pointer (some ⟨t, 4, none⟩)) ?_
   refine V.go (V.stn t 4 (.int .i64 ((T1.n : Int) - 1)) [.int .i64 ((T1.n : Int) - 1)] (sm hz337.p4.p2 rfl) (o2 rfl (sm hz337.p4 rfl)) rfl rfl (by kernel_rfl) hB_331 (by simp) [.int .u64 (T1.seed : Int), .slice (some ⟨gA, 0, none⟩) T1.a.length T1.a.length, .slice (some ⟨gB, 0, none⟩) T1.b.length T1.b.length, .int .i64 (T1.moved : Int), .int .i64 ((T1.n : Int) - 1)] rfl ?_)
   intro w342 hB343 hF344 hsw342
   have hRB_345 := hRB_332.fr1 hF344 (by omega)
   have hE_346 := hE_333.tr1 hF344 (by first | exact .inl (by assumption) | exact .inr (by omega) | exact .inl (.inl rfl))
   have hB267_347 := hB267_334.fr1 hF344 (by omega)
   have hK321_348 := hK321_335.fr hF344 (by simp)
   have hR329_349 := hR329.fr1 hF344 (by omega)
   refine V.nil ?_
   refine V.then_n (hK341 _ _ ?_)
   refine V.flushW hz337.p4.p2.p1 (fun a350 hz351 up352 => ?_)
   have s0_353 := up352 0 _ (o4 rfl (o2 rfl (o1 rfl s0_339)))
   clear up352
   refine V.seq (fun K354 hK355 => ?_)
   refine V.seq (fun K356 hK357 => ?_)
   refine V.rg ?_
   refine V.gm (s0_353) ?_
   refine V.ge_ [(57, .pointer (some ⟨t, 0, none⟩))] ⟨(sm hz351 rfl), trivial⟩ (.pointer (some ⟨t, 0, none⟩)) ?_
   refine V.ge_ [(58, .pointer (some ⟨t, 0, none⟩))] ⟨(sm hz351.p1 rfl), trivial⟩ (.pointer (some ⟨t, 1, none⟩)) ?_
   refine V.ge_ [(59, .pointer (some ⟨t, 1, none⟩))] ⟨(sm hz351.p2 rfl), trivial⟩ (.pointer (some ⟨t, 1, none⟩)) ?_
   refine V.go (V.ld ⟨t, 1, none⟩ (.slice (some ⟨gA, 0, none⟩) T1.a.length T1.a.length) (sm hz351.p2.p1 rfl) (by kernel_rfl) (hB343.at 1 rfl) ?_)
   refine V.ge_ [(61, .slice (some ⟨gA, 0, none⟩) T1.a.length T1.a.length)] ⟨(sm hz351.p4 rfl), trivial⟩ (.int .i64 ((T1.a.length : Nat) : Int)) ?_
   refine V.ga (sm hz351.p4.p1 rfl) ?_
   refine V.nil ?_
   refine V.then_n (hK357 _ _ ?_)
   refine V.flushW hz351.p4.p2.p1 (fun a358 hz359 up360 => ?_)
   have s0_361 := up360 0 _ (o4 rfl (o2 rfl (o1 rfl s0_353)))
   have s8_362 := up360 8 _ (sm hz351.p4.p2 rfl)
   clear up360
   refine V.seq (fun K363 hK364 => ?_)
   refine V.rg ?_
   refine V.gm (s0_361) ?_
   refine V.go (V.call 65 #[] #[.pointer (some ⟨t, 0, none⟩)] evf (args1 (sm hz359 rfl)) (Go.Proofs.enters_of Try.func65 (by kernel_rfl) rfl) (moves_M w342 t T1.seed T1.a.length T1.b.length 0 gA gB (.int .i64 (T1.moved : Int)) (.int .i64 ((T1.n : Int) - 1)) hB343) ?_)
   rintro _ w366 ⟨rfl, hF365⟩
   refine ⟨_, rfl, ?_⟩
   have hsw366 := hF365.size
   have hRB_367 := hRB_345.fr0 hF365
   have hE_368 := hE_346.tr0 hF365
   have hB267_369 := hB267_347.fr0 hF365
   have hK321_370 := hK321_348.fr0 hF365
   have hR329_371 := hR329_349.fr0 hF365
   have hB343_372 := hB343.fr0 hF365
   refine V.ge_ [(64, .bool true)] ⟨(sm hz359.p1 rfl), trivial⟩ (.bool false) ?_
   refine V.gm (sm hz359.p2 rfl) ?_
   refine V.go_off 66 (by kernel_rfl) (sm hz359.p2.p1 rfl) (by kernel_rfl) ?_
   refine V.go_off 66 (by kernel_rfl) (o1 rfl (sm hz359.p2.p1 rfl)) (by kernel_rfl) ?_
   refine V.go (V.pk_f (o2 rfl (sm hz359.p2.p1 rfl)) (v := (.bool false)) evc ?_)
   refine V.gm (sm hz359.p4.p2 rfl) ?_
   refine V.go_off 70 (by kernel_rfl) (sm hz359.p4.p2.p1 rfl) (by kernel_rfl) ?_
   refine V.go_off 70 (by kernel_rfl) (o1 rfl (sm hz359.p4.p2.p1 rfl)) (by kernel_rfl) ?_
   refine V.go_off 70 (by kernel_rfl) (o2 rfl (sm hz359.p4.p2.p1 rfl)) (by kernel_rfl) ?_
   refine V.go_off 70 (by kernel_rfl) (o2 rfl (o1 rfl (sm hz359.p4.p2.p1 rfl))) (by kernel_rfl) ?_
   refine V.go_off 70 (by kernel_rfl) (o4 rfl (sm hz359.p4.p2.p1 rfl)) (by kernel_rfl) ?_
   refine V.go_off 70 (by kernel_rfl) (o4 rfl (o1 rfl (sm hz359.p4.p2.p1 rfl))) (by kernel_rfl) ?_
   refine V.go_off 70 (by kernel_rfl) (o4 rfl (o2 rfl (sm hz359.p4.p2.p1 rfl))) (by kernel_rfl) ?_
   refine V.go (V.pk_f (o4 rfl (o2 rfl (o1 rfl (sm hz359.p4.p2.p1 rfl)))) (v := (.bool false)) evc ?_)
   refine V.nil ?_
   refine V.then_n (hK364 _ _ ?_)
   refine V.flushW hz359.p16 (fun a373 hz374 up375 => ?_)
   have s0_376 := up375 0 _ (o16 rfl s0_361)
   have s8_377 := up375 8 _ (o16 rfl s8_362)
   have s78_378 := up375 78 _ (sm hz359.p8.p4.p2.p1 rfl)
   clear up375
   refine V.cond_f (s78_378) ?_
   refine V.skip ?_
   refine V.then_n (hK355 _ _ ?_)
   refine V.seq (fun K379 hK380 => ?_)
   refine V.rg ?_
   refine V.ga evc ?_
   refine V.nil ?_
   refine V.then_n (hK380 _ _ ?_)
   refine V.ret ?_
   refine V.ret1 hz374.p1 rfl (sm hz374 rfl) ?_
   have hst : delT T k = shrT (rm1T T1 k) := by (unfold delT; rw [← hT1]; unfold del1T; rw [hf, if_pos rfl])
   have hu2 : rm1T T1 k = ({ T1 with a := rmV T1.a (bkt T1.seed T1.a.length k) j, n := T1.n - 1 } : Tb Int) := by (unfold rm1T; rw [hf]; simp)
   have hup := (rm1T_ok hok1 hm1 k (by rw [hf])).1
   rw [hu2] at hup
   rw [hst, hu2]
   have hsh : shrT ({ T1 with a := rmV T1.a (bkt T1.seed T1.a.length k) j, n := T1.n - 1 } : Tb Int) = ({ T1 with a := rmV T1.a (bkt T1.seed T1.a.length k) j, n := T1.n - 1 } : Tb Int) := by (unfold shrT; rw [if_neg]; rintro ⟨h0, _⟩; exact hb1 (by first | exact h0 | (have h1 : (rmV T1.b (bkt T1.seed T1.b.length k) j).length = 0 := h0; rwa [rmV_length] at h1)))
   rw [hsh]
   exact ⟨by rw [hf], (TabM.fin (T := ({ T1 with a := rmV T1.a (bkt T1.seed T1.a.length k) j, n := T1.n - 1 } : Tb Int)) hup hb0 hB343_372 hR329_371 hRB_367 (by first | exact hlA | (simp only [List.length_set]; exact hlA)) hK321_370 (mem4 (l := (b257 :: t :: gA :: gB :: av)) (by simp) (by simp) (by simp) (by intro k hk; simp [hk])) (by first | assumption | omega) (by first | assumption | omega) (by first | assumption | omega) hpt ⟨.inl hpg.1, hpg.2⟩ ⟨.inl hph.1, hph.2⟩ rfl (rmV_length _ _ _).symm rfl (by show ((T1.n : Int) - 1) = ((T1.n - 1 : Nat) : Int); omega) rfl rfl rfl).gr3 (by omega), (hFPE.gr hE_368)⟩
 ·
  rcases hT19q.2 with ⟨hb0, gA, vsA, hN⟩ | ⟨hb0, gA, gB, vsA, vsB, hN⟩
  ·
   exact absurd (by rw [hb0]; rfl) hbn
  ·
   have hb1 : T1.b.length ≠ 0 := fun h => hb0 (List.eq_nil_of_length_eq_zero h)
   obtain ⟨hB, hRA, hRB, hlA, hlB, hK, hne, hne2, hne3, hpt, hpg, hph⟩ := hN
   replace hK := hK.toH
   have hltt := hB.lt
   have hltg := hRA.lt
   have hltg2 := hRB.lt
   have hE : FrP (gp (gr H w w21) av) w21 w21 := FrP.refl _ _
   have hK0 : ∀ k ∈ av, k < w21.heap.size := fun k hk => hK.avl k (by simp [hk])
   obtain ⟨hsd, hpa, hla, hlb, hmv, hmz, hnn, hcn, hks⟩ := (show T1.Ok from hok1)
   have hbl := hok1.bl
   have hFPE := hFP_22
   refine V.go (V.call 53 #[] #[.pointer (some ⟨t, 0, none⟩), .string k] evf (args2 (o1 rfl (sm hz12.p2 rfl)) (sm hz12.p2.p1 rfl)) (Go.Proofs.enters_of Try.func53 (by kernel_rfl) rfl) (by have h := find_any w21 (gr H w w21) (av) t T1 hT19q k hkz; rw [hf] at h; exact h) ?_)
   rintro _ w382 ⟨rfl, hF381⟩
   refine ⟨_, rfl, ?_⟩
   have hsw382 := hF381.size
   have hB_383 := hB.fr0 hF381
   have hRA_384 := hRA.fr0 hF381
   have hRB_385 := hRB.fr0 hF381
   have hK_386 := hK.fr0 hF381
   have hE_387 := hE.tr0 hF381
   have hbkl := bkt_lt T1.seed k (n := T1.b.length) (by omega)
   refine V.gm (sm hz12.p4 rfl) ?_
   refine V.ge_ [(14, .tuple #[.agg #[.int .i64 1, .int .i64 ((bkt T1.seed T1.b.length k : Nat) : Int), .int .i64 (j : Int)], .bool true])] ⟨(sm hz12.p4.p1 rfl), trivial⟩ (.agg #[.int .i64 1, .int .i64 ((bkt T1.seed T1.b.length k : Nat) : Int), .int .i64 (j : Int)]) ?_
   refine V.ge_ [(14, .tuple #[.agg #[.int .i64 1, .int .i64 ((bkt T1.seed T1.b.length k : Nat) : Int), .int .i64 (j : Int)], .bool true])] ⟨(o1 rfl (sm hz12.p4.p1 rfl)), trivial⟩ (.bool true) ?_
   refine V.go (V.mk [] trivial (by kernel_rfl) [.int .i64 0, .int .i64 0, .int .i64 0] 82 (fun b => .pointer (some ⟨b, 0, none⟩)) (by kernel_rfl) ?_)
   intro w389 b388 heb388 hB390 hF391 hsb388
   have hB_392 := hB_383.fr0 hF391
   have hRA_393 := hRA_384.fr0 hF391
   have hRB_394 := hRB_385.fr0 hF391
   have hK_395 := hK_386.alloc hF391 heb388 (by omega)
   have hE_396 := hE_387.tr0 hF391
   refine V.go (V.stn b388 0 (.agg #[.int .i64 1, .int .i64 ((bkt T1.seed T1.b.length k : Nat) : Int), .int .i64 (j : Int)]) [.int .i64 1, .int .i64 ((bkt T1.seed T1.b.length k : Nat) : Int), .int .i64 (j : Int)] (sm hz12.p8 rfl) (o2 rfl (sm hz12.p4.p2 rfl)) rfl rfl (by kernel_rfl) hB390 (by simp) [.int .i64 1, .int .i64 ((bkt T1.seed T1.b.length k : Nat) : Int), .int .i64 (j : Int)] rfl ?_)
   intro w397 hB398 hF399 hsw397
   have hB_400 := hB_392.fr1 hF399 (by omega)
   have hRA_401 := hRA_393.fr1 hF399 (by omega)
   have hRB_402 := hRB_394.fr1 hF399 (by omega)
   have hK_403 := hK_395.fr hF399 (by simp)
   have hE_404 := hE_396.tr1 hF399 (by first | exact .inl (by assumption) | exact .inr (by omega) | exact .inl (.inl rfl))
   refine V.ga (o1 rfl (sm hz12.p4.p2.p1 rfl)) ?_
   refine V.nil ?_
   refine V.then_n (hK24 _ _ ?_)
   refine V.flushW hz12.p8.p2 (fun a405 hz406 up407 => ?_)
   have s0_408 := up407 0 _ (o8 rfl (o2 rfl s0_14))
   have s5_409 := up407 5 _ (o1 rfl (sm hz12.p8 rfl))
   have s6_410 := up407 6 _ (sm hz12.p8.p1 rfl)
   clear up407
   refine V.seq (fun K411 hK412 => ?_)
   refine V.seq (fun K413 hK414 => ?_)
   refine V.rg ?_
   refine V.gm (s6_410) ?_
   refine V.ge_ [(20, .bool true)] ⟨(sm hz406 rfl), trivial⟩ (.bool false) ?_
   refine V.nil ?_
   refine V.then_n (hK414 _ _ ?_)
   refine V.cond_f (sm hz406.p1 rfl) ?_
   refine V.skip ?_
   refine V.then_n (hK412 _ _ ?_)
   refine V.seq (fun K415 hK416 => ?_)
   have hbq := hbl (bkt T1.seed T1.b.length k)
   refine V.plan [[], [], [1], [0], [0, 3], [0, 1, 2, 3, 4], [0, 1, 2, 3, 4, 5], [], [7], [0, 1, 2, 3, 4, 5, 6, 7, 8], [0, 1, 2, 3, 4, 5, 6, 7, 8, 9], [0, 1, 2, 3, 4, 5, 6, 7, 8, 9, 10]] [([0, 1, 2, 3, 4, 5, 6, 7, 8, 9, 10, 11], none)] (by kernel_rfl) (by kernel_rfl) (by exact fun _ _ _ _ h => h) ?_
   simp only [Plan.wpSegs, Plan.pickAll, Plan.nth, V.L_eq]
   obtain ⟨w417, hF418e⟩ : ∃ w1, w1 = w397.drew := ⟨_, rfl⟩
   rw [← hF418e]
   have hF418 : Fr [] w397 w417 := by rw [hF418e]; exact Fr.drew _ _
   have hsw417 : w417.heap.size = w397.heap.size := by rw [hF418e]; rfl
   clear hF418e
   have hB_419 := hB_400.fr0 hF418
   have hRA_420 := hRA_401.fr0 hF418
   have hRB_421 := hRB_402.fr0 hF418
   have hK_422 := hK_403.fr0 hF418
   have hE_423 := hE_404.tr0 hF418
   have hB398_424 := hB398.fr0 hF418
   refine V.gm (o2 rfl s0_408) ?_
   refine V.ge_ [(5, .pointer (some ⟨b388, 0, none⟩))] ⟨(o2 rfl (o1 rfl s5_409)), trivial⟩ (.pointer (some ⟨b388, 0, none⟩)) ?_
   refine V.go (V.ld ⟨b388, 0, none⟩ (.int .i64 1) (sm hz406.p2.p1 rfl) (by kernel_rfl) (hB398_424.at 0 rfl) ?_)
   refine V.ge_ [(22, .pointer (some ⟨t, 0, none⟩))] ⟨(o2 rfl (sm hz406.p2 rfl)), trivial⟩ (.pointer (some ⟨t, 0, none⟩)) ?_
   refine V.ge_ [(25, .pointer (some ⟨t, 0, none⟩))] ⟨(sm hz406.p4.p1 rfl), trivial⟩ (.pointer (some ⟨t, 1, none⟩)) ?_
   refine V.ge_ [(26, .pointer (some ⟨t, 1, none⟩)), (24, .int .i64 1)] ⟨(sm hz406.p4.p2 rfl), (o2 rfl (sm hz406.p4 rfl)), trivial⟩ (.pointer (some ⟨t, 2, none⟩)) ?_
   refine V.go (V.ld ⟨t, 2, none⟩ (.slice (some ⟨gB, 0, none⟩) T1.b.length T1.b.length) (sm hz406.p4.p2.p1 rfl) (by kernel_rfl) (hB_419.at 2 rfl) ?_)
   refine V.ge_ [(5, .pointer (some ⟨b388, 0, none⟩))] ⟨(o8 rfl (o1 rfl s5_409)), trivial⟩ (.pointer (some ⟨b388, 1, none⟩)) ?_
   refine V.go (V.ld ⟨b388, 1, none⟩ (.int .i64 ((bkt T1.seed T1.b.length k : Nat) : Int)) (sm hz406.p8.p1 rfl) (by kernel_rfl) (hB398_424.at 1 rfl) ?_)
   refine V.go (V.ixa gB 0 T1.b.length T1.b.length .i64 ((bkt T1.seed T1.b.length k : Nat) : Int) 1 (o2 rfl (sm hz406.p8 rfl)) (sm hz406.p8.p2 rfl) (by omega) (by omega) (by kernel_rfl) ?_)
   obtain ⟨A425, c426, hv427⟩ := hK_422.getB hlA (i := (bkt T1.seed T1.b.length k)) (by omega) nilS
   refine V.go (V.ld ⟨gB, 0 + ((bkt T1.seed T1.b.length k : Nat) : Int).toNat * 1, none⟩ (.slice A425 ((T1.b.getD (bkt T1.seed T1.b.length k) []).length) c426) (sm hz406.p8.p2.p1 rfl) (by kernel_rfl) ((hRB_421.at (bkt T1.seed T1.b.length k) nilS (by omega)).trans (congrArg some hv427)) ?_)
   have hS428 := hK_422.slB hlA (i := (bkt T1.seed T1.b.length k)) (by omega) hv427
   refine V.ga (sm hz406.p8.p4 rfl) ?_
   refine V.nil ?_
   refine ⟨chk [(22, .pointer (some ⟨t, 0, none⟩))] ⟨(o8 rfl (o2 rfl (o1 rfl (sm hz406.p2 rfl)))), trivial⟩ (by kernel_rfl), ?_⟩
   refine V.then_n (hK416 _ _ ?_)
   refine V.flushW hz406.p8.p4.p2 (fun a429 hz430 up431 => ?_)
   have s0_432 := up431 0 _ (o8 rfl (o4 rfl (o2 rfl s0_408)))
   have s5_433 := up431 5 _ (o8 rfl (o4 rfl (o2 rfl s5_409)))
   have s7_434 := up431 7 _ (sm hz406.p8.p4.p1 rfl)
   clear up431
   refine V.seq (fun K435 hK436 => ?_)
   refine V.plan [[], [], [1], [0], [0, 3], [0, 1, 2, 3, 4], [0, 1, 2, 3, 4, 5], [], [7], [], [], [10], [], [12], [12, 13], [9, 10, 11, 12, 13, 14], [0, 1, 2, 3, 4, 5, 6, 7, 8, 9, 10, 11, 12, 13, 14, 15], [0, 1, 2, 3, 4, 5, 6, 7, 8, 9, 10, 11, 12, 13, 14, 15, 16]] [([0, 1, 2, 3, 4, 5, 6, 7, 8, 9, 10, 11, 12, 13, 14], some (15, [2, 6, 8])), ([16], some (17, [])), ([], none)] (by kernel_rfl) (by kernel_rfl) (by exact fun _ _ _ _ h => h) ?_
   simp only [Plan.wpSegs, Plan.pickAll, Plan.nth, V.L_eq]
   obtain ⟨w437, hF438e⟩ : ∃ w1, w1 = w417.drew := ⟨_, rfl⟩
   rw [← hF438e]
   have hF438 : Fr [] w417 w437 := by rw [hF438e]; exact Fr.drew _ _
   have hsw437 : w437.heap.size = w417.heap.size := by rw [hF438e]; rfl
   clear hF438e
   have hB_439 := hB_419.fr0 hF438
   have hRA_440 := hRA_420.fr0 hF438
   have hRB_441 := hRB_421.fr0 hF438
   have hK_442 := hK_422.fr0 hF438
   have hE_443 := hE_423.tr0 hF438
   have hB398_444 := hB398_424.fr0 hF438
   have hS428_445 := hS428.fr0 hF438
   refine V.gm (s0_432) ?_
   refine V.ge_ [(5, .pointer (some ⟨b388, 0, none⟩))] ⟨(o1 rfl s5_433), trivial⟩ (.pointer (some ⟨b388, 0, none⟩)) ?_
   refine V.go (V.ld ⟨b388, 0, none⟩ (.int .i64 1) (sm hz430.p1 rfl) (by kernel_rfl) (hB398_444.at 0 rfl) ?_)
   refine V.ge_ [(33, .pointer (some ⟨t, 0, none⟩))] ⟨(o2 rfl (sm hz430 rfl)), trivial⟩ (.pointer (some ⟨t, 0, none⟩)) ?_
   refine V.ge_ [(36, .pointer (some ⟨t, 0, none⟩))] ⟨(sm hz430.p2.p1 rfl), trivial⟩ (.pointer (some ⟨t, 1, none⟩)) ?_
   refine V.ge_ [(37, .pointer (some ⟨t, 1, none⟩)), (35, .int .i64 1)] ⟨(sm hz430.p4 rfl), (o2 rfl (sm hz430.p2 rfl)), trivial⟩ (.pointer (some ⟨t, 2, none⟩)) ?_
   refine V.go (V.ld ⟨t, 2, none⟩ (.slice (some ⟨gB, 0, none⟩) T1.b.length T1.b.length) (sm hz430.p4.p1 rfl) (by kernel_rfl) (hB_439.at 2 rfl) ?_)
   refine V.ge_ [(5, .pointer (some ⟨b388, 0, none⟩))] ⟨(o4 rfl (o2 rfl (o1 rfl s5_433))), trivial⟩ (.pointer (some ⟨b388, 1, none⟩)) ?_
   refine V.go (V.ld ⟨b388, 1, none⟩ (.int .i64 ((bkt T1.seed T1.b.length k : Nat) : Int)) (sm hz430.p4.p2.p1 rfl) (by kernel_rfl) (hB398_444.at 1 rfl) ?_)
   refine V.gm (o8 rfl (o1 rfl s7_434)) ?_
   refine V.ge_ [(5, .pointer (some ⟨b388, 0, none⟩))] ⟨(o8 rfl (o2 rfl s5_433)), trivial⟩ (.pointer (some ⟨b388, 2, none⟩)) ?_
   refine V.go (V.ld ⟨b388, 2, none⟩ (.int .i64 (j : Int)) (sm hz430.p8.p2 rfl) (by kernel_rfl) (hB398_444.at 2 rfl) ?_)
   refine V.ge_ [(5, .pointer (some ⟨b388, 0, none⟩))] ⟨(o8 rfl (o4 rfl s5_433)), trivial⟩ (.pointer (some ⟨b388, 2, none⟩)) ?_
   refine V.go (V.ld ⟨b388, 2, none⟩ (.int .i64 (j : Int)) (sm hz430.p8.p4 rfl) (by kernel_rfl) (hB398_444.at 2 rfl) ?_)
   refine V.gf_ [(46, .int .i64 (j : Int))] ⟨(sm hz430.p8.p4.p1 rfl), trivial⟩ (.int .i64 (IntKind.i64.wrap ((j : Int) + 1))) (.int .i64 ((j : Int) + 1)) (V.w_i64 (by omega) (by omega)) ?_
   refine V.nil ?_
   refine ⟨chk [(33, .pointer (some ⟨t, 0, none⟩)), (46, .int .i64 (j : Int))] ⟨(o8 rfl (o4 rfl (o2 rfl (sm hz430 rfl)))), (o1 rfl (sm hz430.p8.p4.p1 rfl)), trivial⟩ (by kernel_rfl), ?_⟩
   obtain ⟨g446, hAe, hO447, hc448, ho449⟩ := hK_442.ownB hlA (i := (bkt T1.seed T1.b.length k)) (by omega) hv427 (by omega)
   rw [hAe] at hv427
   refine V.go (V.call 68 #[] #[.slice A425 ((T1.b.getD (bkt T1.seed T1.b.length k) []).length) c426, .int .i64 (j : Int), .int .i64 ((j : Int) + 1)] evf (args3 (o4 rfl (o1 rfl (sm hz430.p8.p1 rfl))) (o2 rfl (o1 rfl (sm hz430.p8.p2.p1 rfl))) (sm hz430.p8.p4.p2 rfl)) (Go.Proofs.enters_of Try.func68 (by kernel_rfl) rfl) (by (rw [hAe]; exact delete_any w437 g446 c426 j (T1.b.getD (bkt T1.seed T1.b.length k) []) hO447 (by omega) hc448 (by omega))) ?_)
   rintro _ w453 ⟨rfl, hOr450, hF451⟩
   refine ⟨_, rfl, ?_⟩
   have hsw453 := hF451.size
   have hB_454 := hB_439.fr hF451 (fun hm => (ho449 _ hm).1 (by simp))
   have hRA_455 := hRA_440.fr hF451 (fun hm => (ho449 _ hm).1 (by simp))
   have hRB_456 := hRB_441.fr hF451 (fun hm => (ho449 _ hm).1 (by simp))
   have hE_457 := hE_443.tr hF451 (fun k hk => ((ho449 k hk).2).imp (fun h => ⟨h, fun hm => (ho449 k hk).1 (by simp [hm])⟩) id)
   have hB398_458 := hB398_444.fr hF451 (fun hm => (ho449 _ hm).1 (by simp))
   have hK452 := hK_442.setB hlA (i := (bkt T1.seed T1.b.length k)) (by omega) hv427 hF451 hOr450 (.inr (by omega))
   refine V.nil ?_
   refine ⟨⟨(fun _ => held_blk (n := 1) (hx := (o8 rfl (o4 rfl (o1 rfl (sm hz430.p1 rfl))))) hB398_444 hB398_458 (by kernel_rfl) rfl (by simp only [List.length]; omega)), (fun _ => held_blk (n := 1) (hx := (o8 rfl (o1 rfl (sm hz430.p4.p1 rfl)))) hB_439 hB_454 (by kernel_rfl) rfl (by simp only [List.length]; omega)), (fun _ => held_blk (n := 1) (hx := (o4 rfl (o2 rfl (o1 rfl (sm hz430.p4.p2.p1 rfl))))) hB398_444 hB398_458 (by kernel_rfl) rfl (by simp only [List.length]; omega))⟩, ?_⟩
   refine V.go (V.ixa gB 0 T1.b.length T1.b.length .i64 ((bkt T1.seed T1.b.length k : Nat) : Int) 1 (o8 rfl (o1 rfl (sm hz430.p4.p2 rfl))) (o4 rfl (o2 rfl (o1 rfl (sm hz430.p8 rfl)))) (by omega) (by omega) (by kernel_rfl) ?_)
   refine V.nil ?_
   refine ⟨chk [] trivial (by kernel_rfl), ?_⟩
   refine V.go (V.strow (enc := idV) gB (((bkt T1.seed T1.b.length k : Nat) : Int).toNat) (.slice (some ⟨g446, 0, none⟩) ((T1.b.getD (bkt T1.seed T1.b.length k) []).length - 1) c426) (sm hz430.p16 rfl) (o1 rfl (sm hz430.p8.p4.p2.p1 rfl)) rfl rfl (by kernel_rfl) hRB_456 (by first | omega | (simp only [List.length_set, List.length_replicate]; omega)) ?_)
   intro w459 hR460 hF461 hsw459
   have hB_462 := hB_454.fr1 hF461 (by omega)
   have hRA_463 := hRA_455.fr1 hF461 (by omega)
   have hE_464 := hE_457.tr1 hF461 (by first | exact .inl (by assumption) | exact .inr (by omega) | exact .inl (.inl rfl))
   have hB398_465 := hB398_458.fr1 hF461 (by omega)
   have hK452_466 := hK452.fr hF461 (by simp)
   refine V.nil ?_
   refine ⟨trivial, ?_⟩
   refine V.nil ?_
   refine ⟨chk [] trivial (by kernel_rfl), ?_⟩
   refine V.then_n (hK436 _ _ ?_)
   refine V.flushW hz430.p16.p1 (fun a467 hz468 up469 => ?_)
   have s0_470 := up469 0 _ (o16 rfl (o1 rfl s0_432))
   clear up469
   refine V.seq (fun K471 hK472 => ?_)
   refine V.rg ?_
   refine V.gm (s0_470) ?_
   refine V.ge_ [(50, .pointer (some ⟨t, 0, none⟩))] ⟨(sm hz468 rfl), trivial⟩ (.pointer (some ⟨t, 0, none⟩)) ?_
   refine V.ge_ [(51, .pointer (some ⟨t, 0, none⟩))] ⟨(sm hz468.p1 rfl), trivial⟩ (.pointer (some ⟨t, 4, none⟩)) ?_
   refine V.go (V.ld ⟨t, 4, none⟩ (.int .i64 (T1.n : Int)) (sm hz468.p2 rfl) (by kernel_rfl) (hB_462.at 4 rfl) ?_)
   refine V.gf_ [(53, .int .i64 (T1.n : Int))] ⟨(sm hz468.p2.p1 rfl), trivial⟩ (.int .i64 (IntKind.i64.wrap ((T1.n : Int) - 1))) (.int .i64 ((T1.n : Int) - 1)) (V.w_i64 (by omega) (by omega)) ?_
   refine V.ge_ [(50, .pointer (some ⟨t, 0, none⟩))] ⟨(o4 rfl (sm hz468 rfl)), trivial⟩ (.pointer (some ⟨t, 0, none⟩)) ?_
   refine V.ge_ [(55, .pointer (some ⟨t, 0, none⟩))] ⟨(sm hz468.p4.p1 rfl), trivial⟩ (.pointer (some ⟨t, 4, none⟩)) ?_
   refine V.go (V.stn t 4 (.int .i64 ((T1.n : Int) - 1)) [.int .i64 ((T1.n : Int) - 1)] (sm hz468.p4.p2 rfl) (o2 rfl (sm hz468.p4 rfl)) rfl rfl (by kernel_rfl) hB_462 (by simp) [.int .u64 (T1.seed : Int), .slice (some ⟨gA, 0, none⟩) T1.a.length T1.a.length, .slice (some ⟨gB, 0, none⟩) T1.b.length T1.b.length, .int .i64 (T1.moved : Int), .int .i64 ((T1.n : Int) - 1)] rfl ?_)
   intro w473 hB474 hF475 hsw473
   have hRA_476 := hRA_463.fr1 hF475 (by omega)
   have hE_477 := hE_464.tr1 hF475 (by first | exact .inl (by assumption) | exact .inr (by omega) | exact .inl (.inl rfl))
   have hB398_478 := hB398_465.fr1 hF475 (by omega)
   have hK452_479 := hK452_466.fr hF475 (by simp)
   have hR460_480 := hR460.fr1 hF475 (by omega)
   refine V.nil ?_
   refine V.then_n (hK472 _ _ ?_)
   refine V.flushW hz468.p4.p2.p1 (fun a481 hz482 up483 => ?_)
   have s0_484 := up483 0 _ (o4 rfl (o2 rfl (o1 rfl s0_470)))
   clear up483
   refine V.seq (fun K485 hK486 => ?_)
   refine V.seq (fun K487 hK488 => ?_)
   refine V.rg ?_
   refine V.gm (s0_484) ?_
   refine V.ge_ [(57, .pointer (some ⟨t, 0, none⟩))] ⟨(sm hz482 rfl), trivial⟩ (.pointer (some ⟨t, 0, none⟩)) ?_
   refine V.ge_ [(58, .pointer (some ⟨t, 0, none⟩))] ⟨(sm hz482.p1 rfl), trivial⟩ (.pointer (some ⟨t, 1, none⟩)) ?_
   refine V.ge_ [(59, .pointer (some ⟨t, 1, none⟩))] ⟨(sm hz482.p2 rfl), trivial⟩ (.pointer (some ⟨t, 1, none⟩)) ?_
   refine V.go (V.ld ⟨t, 1, none⟩ (.slice (some ⟨gA, 0, none⟩) T1.a.length T1.a.length) (sm hz482.p2.p1 rfl) (by kernel_rfl) (hB474.at 1 rfl) ?_)
   refine V.ge_ [(61, .slice (some ⟨gA, 0, none⟩) T1.a.length T1.a.length)] ⟨(sm hz482.p4 rfl), trivial⟩ (.int .i64 ((T1.a.length : Nat) : Int)) ?_
   refine V.ga (sm hz482.p4.p1 rfl) ?_
   refine V.nil ?_
   refine V.then_n (hK488 _ _ ?_)
   refine V.flushW hz482.p4.p2.p1 (fun a489 hz490 up491 => ?_)
   have s0_492 := up491 0 _ (o4 rfl (o2 rfl (o1 rfl s0_484)))
   have s8_493 := up491 8 _ (sm hz482.p4.p2 rfl)
   clear up491
   refine V.seq (fun K494 hK495 => ?_)
   refine V.rg ?_
   refine V.gm (s0_492) ?_
   refine V.go (V.call 65 #[] #[.pointer (some ⟨t, 0, none⟩)] evf (args1 (sm hz490 rfl)) (Go.Proofs.enters_of Try.func65 (by kernel_rfl) rfl) (moves_M w473 t T1.seed T1.a.length T1.b.length 0 gA gB (.int .i64 (T1.moved : Int)) (.int .i64 ((T1.n : Int) - 1)) hB474) ?_)
   rintro _ w497 ⟨rfl, hF496⟩
   refine ⟨_, rfl, ?_⟩
   have hsw497 := hF496.size
   have hRA_498 := hRA_476.fr0 hF496
   have hE_499 := hE_477.tr0 hF496
   have hB398_500 := hB398_478.fr0 hF496
   have hK452_501 := hK452_479.fr0 hF496
   have hR460_502 := hR460_480.fr0 hF496
   have hB474_503 := hB474.fr0 hF496
   refine V.ge_ [(64, .bool true)] ⟨(sm hz490.p1 rfl), trivial⟩ (.bool false) ?_
   refine V.gm (sm hz490.p2 rfl) ?_
   refine V.go_off 66 (by kernel_rfl) (sm hz490.p2.p1 rfl) (by kernel_rfl) ?_
   refine V.go_off 66 (by kernel_rfl) (o1 rfl (sm hz490.p2.p1 rfl)) (by kernel_rfl) ?_
   refine V.go (V.pk_f (o2 rfl (sm hz490.p2.p1 rfl)) (v := (.bool false)) evc ?_)
   refine V.gm (sm hz490.p4.p2 rfl) ?_
   refine V.go_off 70 (by kernel_rfl) (sm hz490.p4.p2.p1 rfl) (by kernel_rfl) ?_
   refine V.go_off 70 (by kernel_rfl) (o1 rfl (sm hz490.p4.p2.p1 rfl)) (by kernel_rfl) ?_
   refine V.go_off 70 (by kernel_rfl) (o2 rfl (sm hz490.p4.p2.p1 rfl)) (by kernel_rfl) ?_
   refine V.go_off 70 (by kernel_rfl) (o2 rfl (o1 rfl (sm hz490.p4.p2.p1 rfl))) (by kernel_rfl) ?_
   refine V.go_off 70 (by kernel_rfl) (o4 rfl (sm hz490.p4.p2.p1 rfl)) (by kernel_rfl) ?_
   refine V.go_off 70 (by kernel_rfl) (o4 rfl (o1 rfl (sm hz490.p4.p2.p1 rfl))) (by kernel_rfl) ?_
   refine V.go_off 70 (by kernel_rfl) (o4 rfl (o2 rfl (sm hz490.p4.p2.p1 rfl))) (by kernel_rfl) ?_
   refine V.go (V.pk_f (o4 rfl (o2 rfl (o1 rfl (sm hz490.p4.p2.p1 rfl)))) (v := (.bool false)) evc ?_)
   refine V.nil ?_
   refine V.then_n (hK495 _ _ ?_)
   refine V.flushW hz490.p16 (fun a504 hz505 up506 => ?_)
   have s0_507 := up506 0 _ (o16 rfl s0_492)
   have s8_508 := up506 8 _ (o16 rfl s8_493)
   have s78_509 := up506 78 _ (sm hz490.p8.p4.p2.p1 rfl)
   clear up506
   refine V.cond_f (s78_509) ?_
   refine V.skip ?_
   refine V.then_n (hK486 _ _ ?_)
   refine V.seq (fun K510 hK511 => ?_)
   refine V.rg ?_
   refine V.ga evc ?_
   refine V.nil ?_
   refine V.then_n (hK511 _ _ ?_)
   refine V.ret ?_
   refine V.ret1 hz505.p1 rfl (sm hz505 rfl) ?_
   have hst : delT T k = shrT (rm1T T1 k) := by (unfold delT; rw [← hT1]; unfold del1T; rw [hf, if_pos rfl])
   have hu2 : rm1T T1 k = ({ T1 with b := rmV T1.b (bkt T1.seed T1.b.length k) j, n := T1.n - 1 } : Tb Int) := by (unfold rm1T; rw [hf]; simp)
   have hup := (rm1T_ok hok1 hm1 k (by rw [hf])).1
   rw [hu2] at hup
   rw [hst, hu2]
   have hsh : shrT ({ T1 with b := rmV T1.b (bkt T1.seed T1.b.length k) j, n := T1.n - 1 } : Tb Int) = ({ T1 with b := rmV T1.b (bkt T1.seed T1.b.length k) j, n := T1.n - 1 } : Tb Int) := by (unfold shrT; rw [if_neg]; rintro ⟨h0, _⟩; exact hb1 (by first | exact h0 | (have h1 : (rmV T1.b (bkt T1.seed T1.b.length k) j).length = 0 := h0; rwa [rmV_length] at h1)))
   rw [hsh]
   exact ⟨by rw [hf], (TabM.fin (T := ({ T1 with b := rmV T1.b (bkt T1.seed T1.b.length k) j, n := T1.n - 1 } : Tb Int)) hup (fun h => hb1 (by have := congrArg List.length h; rwa [rmV_length] at this)) hB474_503 hRA_498 hR460_502 (by first | exact hlA | (simp only [List.length_set]; exact hlA)) hK452_501 (mem4 (l := (b388 :: t :: gA :: gB :: av)) (by simp) (by simp) (by simp) (by intro k hk; simp [hk])) (by first | assumption | omega) (by first | assumption | omega) (by first | assumption | omega) hpt ⟨.inl hpg.1, hpg.2⟩ ⟨.inl hph.1, hph.2⟩ rfl rfl rfl (by show ((T1.n : Int) - 1) = ((T1.n - 1 : Nat) : Int); omega) rfl rfl (rmV_length _ _ _).symm).gr3 (by omega), (hFPE.gr hE_499)⟩
end Go.Proofs.Ytalhmegjomfbaaa
