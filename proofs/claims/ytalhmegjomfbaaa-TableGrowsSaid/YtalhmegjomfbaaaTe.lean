/- Walks: slices.Delete, Del. -/
import Derived.Test.YtalhmegjomfbaaaProg
import Derived.Test.YtalhmegjomfbaaaTd
import Derived.Test.YtalhmegjomfbaaaTabD
namespace Go.Proofs.Ytalhmegjomfbaaa
open Go.V Go.Base
open Go.RowKit (Below)
attribute [local irreducible] Act.put Act.eval
set_option linter.unusedVariables false
set_option linter.unusedSimpArgs false
theorem itI_sz : itI.sz = 2 := rfl
theorem info86c : (Try.prog.info? 86).map (fun i => (i.zero, i.size)) = some (some (.agg #[.string ⟨#[]⟩, .int .i64 0]), itI.sz) := by kernel_rfl
set_option maxHeartbeats 4000000 in
set_option maxRecDepth 20000 in
theorem delete_any (w : World) (g c i : Nat) (xs : List (ByteArray × Int)) (hO : OwR itI NoZ w 0 86 (.slice (some ⟨g, 0, none⟩) xs.length c) xs) (hi : i < xs.length) (hc : xs.length ≤ c) (hl : xs.length ≤ 1099511627776) : Calls Try.prog 68 #[.slice (some ⟨g, 0, none⟩) xs.length c, .int .i64 (i : Int), .int .i64 ((i : Int) + 1)] w (fun e w' => e = .returned (.slice (some ⟨g, 0, none⟩) (xs.length - 1) c) ∧ OwR itI NoZ w' 0 86 (.slice (some ⟨g, 0, none⟩) (xs.length - 1) c) (xs.eraseIdx i) ∧ Fr [g] w w') := by
 have hF := Fr.refl [g] w
 have herl : i + (xs.length - (i + 1)) = (xs.eraseIdx i).length := by rw [List.length_eraseIdx_of_lt hi]; omega
 refine V.enter 33 Try.func68 rfl rfl ?_
 intro a hz ha
 have s0 : a.eval (.tmp 0) = (.slice (some ⟨g, 0, none⟩) xs.length c) := ha 0 _ rfl
 have s1 : a.eval (.tmp 1) = (.int .i64 (i : Int)) := ha 1 _ rfl
 have s2 : a.eval (.tmp 2) = (.int .i64 ((i : Int) + 1)) := ha 2 _ rfl
 clear ha
 refine V.seq (fun K1 hK2 => ?_)
 refine V.region (by kernel_rfl) ?_
 refine V.go (V.asg evc ?_)
 refine V.nil ?_
 refine V.then_n (hK2 _ _ ?_)
 refine V.seq (fun K3 hK4 => ?_)
 refine V.region (by kernel_rfl) ?_
 refine V.go (V.mv (o1 rfl s0) ?_)
 refine V.go (V.mv (o2 rfl s1) ?_)
 refine V.go (V.mv (o2 rfl (o1 rfl s2)) ?_)
 refine V.go (V.mv (o4 rfl s0) ?_)
 refine V.go (V.pv [(11, .slice (some ⟨g, 0, none⟩) xs.length c)] ⟨(at_same hz.p4 rfl _), trivial⟩ (by kernel_rfl) (.int .i64 ((xs.length : Nat) : Int)) (by kernel_rfl) ?_)
 refine V.go (V.slc (e := 86) (sz := 2) g 0 xs.length c i (i + 1) xs.length (o4 rfl (at_same hz.p1 rfl _)) ⟨_, ((o2 rfl (o1 rfl (at_same hz.p2 rfl _)))).trans (V.int_eq (by omega))⟩ ⟨_, ((o2 rfl (at_same hz.p2.p1 rfl _))).trans (V.int_eq (by omega))⟩ ⟨_, ((at_same hz.p4.p1 rfl _)).trans (V.int_eq (by omega))⟩ (by omega) (by omega) (by omega) (by kernel_rfl) (by kernel_rfl) ?_)
 intro ad5 had6 hae7
 refine V.nil ?_
 refine V.then_n (hK4 _ _ ?_)
 refine V.flushW hz.p4.p2.p1 (fun a8 hz9 up10 => ?_)
 have s0_11 := up10 0 _ (o4 rfl (o2 rfl (o1 rfl s0)))
 have s1_12 := up10 1 _ (o4 rfl (o2 rfl (o1 rfl s1)))
 have s2_13 := up10 2 _ (o4 rfl (o2 rfl (o1 rfl s2)))
 clear up10
 refine V.seq (fun K14 hK15 => ?_)
 refine V.seq (fun K16 hK17 => ?_)
 refine V.region (by kernel_rfl) ?_
 refine V.go (V.mv (s1_12) ?_)
 refine V.go (V.mv (o1 rfl s2_13) ?_)
 refine V.go (V.pvw [(14, .int .i64 (i : Int)), (15, .int .i64 ((i : Int) + 1))] ⟨(o1 rfl (at_same hz9 rfl _)), (at_same hz9.p1 rfl _), trivial⟩ (by kernel_rfl) (.bool ((i : Int) == ((i : Int) + 1))) (.bool (decide ((i : Int) = ((i : Int) + 1)))) (by kernel_rfl) V.t_eql ?_)
 refine V.nil ?_
 refine V.then_n (hK17 _ _ ?_)
 refine V.condP (p := (i : Int) = ((i : Int) + 1)) (at_same hz9.p2 rfl _) (fun ht18 => ?_) (fun ht18 => ?_)
 ·
  refine V.seq (fun K19 hK20 => ?_)
  refine V.region (by kernel_rfl) ?_
  refine V.go (V.mv (o2 rfl (o1 rfl s0_11)) ?_)
  refine V.go (V.asg (at_same hz9.p2.p1 rfl _) ?_)
  refine V.nil ?_
  refine V.then_n (hK20 _ _ ?_)
  refine V.flushW hz9.p4.p1 (fun a21 hz22 up23 => ?_)
  have s0_24 := up23 0 _ (o4 rfl (o1 rfl s0_11))
  have s1_25 := up23 1 _ (o4 rfl (o1 rfl s1_12))
  have s2_26 := up23 2 _ (o4 rfl (o1 rfl s2_13))
  have s6_27 := up23 6 _ (at_same hz9.p4 rfl _)
  clear up23
  refine V.ret ?_
  refine V.then_r ?_
  refine V.ret1 hz22 rfl (s6_27) ?_
  exact absurd ht18 (by omega)
 ·
  refine V.skip ?_
  refine V.then_n (hK15 _ _ ?_)
  refine V.seq (fun K28 hK29 => ?_)
  refine V.region (by kernel_rfl) ?_
  refine V.go (V.mv (o2 rfl (o1 rfl s0_11)) ?_)
  refine V.go (V.pv [(18, .slice (some ⟨g, 0, none⟩) xs.length c)] ⟨(at_same hz9.p2.p1 rfl _), trivial⟩ (by kernel_rfl) (.int .i64 ((xs.length : Nat) : Int)) (by kernel_rfl) ?_)
  refine V.go (V.asg (at_same hz9.p4 rfl _) ?_)
  refine V.nil ?_
  refine V.then_n (hK29 _ _ ?_)
  refine V.flushW hz9.p4.p2 (fun a30 hz31 up32 => ?_)
  have s0_33 := up32 0 _ (o4 rfl (o2 rfl s0_11))
  have s1_34 := up32 1 _ (o4 rfl (o2 rfl s1_12))
  have s2_35 := up32 2 _ (o4 rfl (o2 rfl s2_13))
  have s7_36 := up32 7 _ (at_same hz9.p4.p1 rfl _)
  clear up32
  refine V.seq (fun K37 hK38 => ?_)
  refine V.plan [[], [], [0, 1], [], [], [3, 4], [0, 1, 2, 3, 4, 5], [0, 1, 2, 3, 4, 5, 6]] [([0, 1, 2, 3, 4, 5], some (6, [])), ([7], none)] (by kernel_rfl) (by kernel_rfl) (by exact fun _ _ _ _ h => h) ?_
  simp only [Plan.wpSegs, Plan.pickAll, Plan.nth, V.L_eq]
  obtain ⟨w39, hF40e⟩ : ∃ w1, w1 = w.drew := ⟨_, rfl⟩
  rw [← hF40e]
  have hF40 : Fr [] w w39 := by rw [hF40e]; exact Fr.drew _ _
  have hsw39 : w39.heap.size = w.heap.size := by rw [hF40e]; rfl
  clear hF40e
  have hF_41 := hF.trans hF40 (by simp <;> omega)
  have hO_42 := hO.fr0 hF40
  refine V.go (V.mv (s0_33) ?_)
  refine V.go (V.mv (o1 rfl s1_34) ?_)
  refine V.go (V.slc (e := 86) (sz := 2) g 0 xs.length c 0 i c (o1 rfl (at_same hz31 rfl _)) rfl ⟨_, ((at_same hz31.p1 rfl _)).trans (V.int_eq (by omega))⟩ rfl (by omega) (by omega) (by omega) (by kernel_rfl) (by kernel_rfl) ?_)
  intro ad43 had44 hae45
  obtain rfl := hae45 rfl
  refine V.go (V.mv (o2 rfl (o1 rfl s0_33)) ?_)
  refine V.go (V.mv (o4 rfl s2_35) ?_)
  refine V.go (V.slc (e := 86) (sz := 2) g 0 xs.length c (i + 1) xs.length c (o1 rfl (at_same hz31.p2.p1 rfl _)) ⟨_, ((at_same hz31.p4 rfl _)).trans (V.int_eq (by omega))⟩ ⟨rfl, rfl⟩ rfl (by omega) (by omega) (by omega) (by kernel_rfl) (by kernel_rfl) ?_)
  intro ad46 had47 hae48
  refine V.nil ?_
  refine ⟨chk [] trivial (by kernel_rfl), ?_⟩
  refine V.go (V.appIn (R := itI) (i := i) (m := xs.length - (i + 1)) hO_42 rfl hi rfl ad46 (fun hq => by rw [had47 (by omega)]; simp [itI_sz]) (o2 rfl (o1 rfl (at_same hz31.p2 rfl _))) (at_same hz31.p4.p1 rfl _) (by kernel_rfl) (by kernel_rfl) ?_)
  intro w49 cur54 hO50 hF51 hB52 hcl53
  have hsw49 := hF51.size
  have hF_55 := hF_41.trans hF51 (by simp <;> omega)
  refine V.nil ?_
  refine ⟨trivial, ?_⟩
  refine V.go (V.asg (v := (.slice (some ⟨g, 0, none⟩) (i + (xs.length - (i + 1))) c)) (at_same hz31.p4.p2 rfl _) ?_)
  refine V.nil ?_
  refine ⟨chk [] trivial (by kernel_rfl), ?_⟩
  refine V.then_n (hK38 _ _ ?_)
  refine V.flushW hz31.p8 (fun a56 hz57 up58 => ?_)
  have s0_59 : a56.eval (.tmp 0) = (.slice (some ⟨g, 0, none⟩) (i + (xs.length - (i + 1))) c) := up58 _ _ (at_same hz31.p4.p2.p1 rfl _)
  have s7_60 := up58 7 _ (o8 rfl s7_36)
  clear up58
  refine V.seq (fun K61 hK62 => ?_)
  refine V.region (by kernel_rfl) ?_
  refine V.go (V.mv (v := (.slice (some ⟨g, 0, none⟩) (i + (xs.length - (i + 1))) c)) (s0_59) ?_)
  refine V.go (V.mv (v := (.slice (some ⟨g, 0, none⟩) (i + (xs.length - (i + 1))) c)) (o1 rfl s0_59) ?_)
  refine V.go (V.pv [(28, .slice (some ⟨g, 0, none⟩) (i + (xs.length - (i + 1))) c)] ⟨(at_same hz57.p1 rfl _), trivial⟩ (by kernel_rfl) (.int .i64 (((i + (xs.length - (i + 1))) : Nat) : Int)) (by kernel_rfl) ?_)
  refine V.go (V.mv (o2 rfl (o1 rfl s7_60)) ?_)
  refine V.go (V.slc (e := 86) (sz := 2) g 0 (i + (xs.length - (i + 1))) c (i + (xs.length - (i + 1))) xs.length c (o2 rfl (o1 rfl (at_same hz57 rfl _))) ⟨_, ((o1 rfl (at_same hz57.p2 rfl _))).trans (V.int_eq (by omega))⟩ ⟨_, ((at_same hz57.p2.p1 rfl _)).trans (V.int_eq (by omega))⟩ rfl (by omega) (by omega) (by omega) (by kernel_rfl) (by kernel_rfl) ?_)
  intro ad63 had64 hae65
  obtain rfl := had64 (by omega)
  refine V.go (V.clr1 (R := itI) (n := i + (xs.length - (i + 1))) hO50 herl hB52 hcl53 (by omega) ((at_same hz57.p4 rfl _).trans (V.sl_eq (by omega))) (by kernel_rfl) (info86c) rfl rfl ?_)
  intro w66 hO67 hF68 hsw66
  have hF_69 := hF_55.trans hF68 (by simp <;> omega)
  refine V.nil ?_
  refine V.then_n (hK62 _ _ ?_)
  refine V.flushW hz57.p4.p1 (fun a70 hz71 up72 => ?_)
  have s0_73 : a70.eval (.tmp 0) = (.slice (some ⟨g, 0, none⟩) (i + (xs.length - (i + 1))) c) := up72 _ _ (o4 rfl (o1 rfl s0_59))
  clear up72
  refine V.seq (fun K74 hK75 => ?_)
  refine V.region (by kernel_rfl) ?_
  refine V.go (V.mv (v := (.slice (some ⟨g, 0, none⟩) (i + (xs.length - (i + 1))) c)) (s0_73) ?_)
  refine V.go (V.asg (v := (.slice (some ⟨g, 0, none⟩) (i + (xs.length - (i + 1))) c)) (at_same hz71 rfl _) ?_)
  refine V.nil ?_
  refine V.then_n (hK75 _ _ ?_)
  refine V.ret ?_
  refine V.ret1 hz71.p2 rfl (at_same hz71.p1 rfl _) ?_
  have hq1 : i + (xs.length - (i + 1)) = xs.length - 1 := by omega
  rw [hq1] at hO67 ⊢
  exact ⟨rfl, hO67, hF_69⟩
set_option maxHeartbeats 4000000 in
set_option maxRecDepth 20000 in
theorem del_any (w : World) (H : Nat → Prop) (av : List Nat) (t : Nat) (T : Tb Int) (hT : TabX 67 87 86 itI w H av t T) (hm : T.Mv) (k : ByteArray) (hkz : k.size ≤ 9223372036854775807) : Calls Try.prog 39 #[.pointer (some ⟨t, 0, none⟩), .string k] w (fun e w' => e = .returned (.bool (findT (tbStep T) k).2) ∧ TabX 67 87 86 itI w' (gr H w w') av t (delT T k) ∧ FrP (gp H av) w w') := by
 have hFP := FrP.refl (gp H av) w
 obtain ⟨hok0, hm1⟩ := tbStep_ok hT.1 hm
 obtain ⟨T1, hT1⟩ : ∃ T1, T1 = tbStep T := ⟨_, rfl⟩
 rw [← hT1] at hok0 hm1 ⊢
 refine V.enter 83 Try.func39 rfl rfl ?_
 intro a hz ha
 have s0 : a.eval (.tmp 0) = (.pointer (some ⟨t, 0, none⟩)) := ha 0 _ rfl
 have s1 : a.eval (.tmp 1) = (.string k) := ha 1 _ rfl
 clear ha
 refine V.seq (fun K1 hK2 => ?_)
 refine V.region (by kernel_rfl) ?_
 refine V.go (V.asg evc ?_)
 refine V.nil ?_
 refine V.then_n (hK2 _ _ ?_)
 refine V.seq (fun K3 hK4 => ?_)
 refine V.seq (fun K5 hK6 => ?_)
 refine V.region (by kernel_rfl) ?_
 refine V.go (V.mv (o1 rfl s0) ?_)
 refine V.go (V.call 51 #[] #[.pointer (some ⟨t, 0, none⟩)] evf (args1 (at_same hz.p1 rfl _)) (Go.Proofs.enters_of Try.func51 (by kernel_rfl) rfl) (made_any w (H) (av) t (T) hT) ?_)
 rintro _ w8 ⟨rfl, hF7⟩
 refine ⟨_, rfl, ?_⟩
 have hsw8 := hF7.size
 have hT_9 := hT.fr0 hF7
 have hFP_10 := hFP.tr0 hF7
 refine V.go (V.pv [(10, .bool true)] ⟨(at_same hz.p2 rfl _), trivial⟩ (by kernel_rfl) (.bool false) (by kernel_rfl) ?_)
 refine V.nil ?_
 refine V.then_n (hK6 _ _ ?_)
 refine V.flushW hz.p4 (fun a11 hz12 up13 => ?_)
 have s0_14 := up13 0 _ (o4 rfl s0)
 have s1_15 := up13 1 _ (o4 rfl s1)
 have s11_16 := up13 11 _ (at_same hz.p2.p1 rfl _)
 clear up13
 refine V.cond_f (s11_16) ?_
 refine V.skip ?_
 refine V.then_n (hK4 _ _ ?_)
 refine V.seq (fun K17 hK18 => ?_)
 refine V.region (by kernel_rfl) ?_
 refine V.go (V.mv (s0_14) ?_)
 refine V.go (V.call 64 #[] #[.pointer (some ⟨t, 0, none⟩)] evf (args1 (at_same hz12 rfl _)) (Go.Proofs.enters_of Try.func64 (by kernel_rfl) rfl) (step_any w8 (H) (av) t (T) hT_9 hm) ?_)
 rintro _ w21 ⟨rfl, hT19, hfp20⟩
 refine ⟨_, rfl, ?_⟩
 have hsw21 := hfp20.size
 have hFP_22 := hFP_10.trP hfp20 (fun k hk => .inl hk)
 have hT19q := hT19.grm (w := w) (by omega)
 rw [← hT1] at hT19q
 refine V.nil ?_
 refine V.then_n (hK18 _ _ ?_)
 refine V.seq (fun K23 hK24 => ?_)
 refine V.region (by kernel_rfl) ?_
 refine V.go (V.mv (o2 rfl s0_14) ?_)
 refine V.go (V.mv (o2 rfl (o1 rfl s1_15)) ?_)
 have hok1 := hT19q.1
 rcases findT_cases hok1 k with hf | ⟨j, hf, hj⟩ | ⟨hbn, j, hf, hj⟩
 ·
  rcases hT19q.2 with ⟨hb0, gA, vsA, hN⟩ | ⟨hb0, gA, gB, vsA, vsB, hN⟩
  ·
   have hb1 : T1.b.length = 0 := by rw [hb0]; rfl
   obtain ⟨hB, hRA, hlA, hK, hne, hpt, hpg⟩ := hN
   replace hK := hK.toH
   have hltt := hB.lt
   have hltg := hRA.lt
   have hE : FrP (gp (gr H w w21) av) w21 w21 := FrP.refl _ _
   have hK0 : ∀ k ∈ av, k < w21.heap.size := fun k hk => hK.avl k (by simp [hk])
   obtain ⟨hsd, hpa, hla, hlb, hmv, hmz, hnn, hcn, hks⟩ := (show T1.Ok from hok1)
   have hbl := hok1.bl
   have hFPE := hFP_22
   refine V.go (V.call 53 #[] #[.pointer (some ⟨t, 0, none⟩), .string k] evf (args2 (o1 rfl (at_same hz12.p2 rfl _)) (at_same hz12.p2.p1 rfl _)) (Go.Proofs.enters_of Try.func53 (by kernel_rfl) rfl) (by have h := find_any w21 (gr H w w21) (av) t T1 hT19q k hkz; rw [hf] at h; exact h) ?_)
   rintro _ w26 ⟨rfl, hF25⟩
   refine ⟨_, rfl, ?_⟩
   have hsw26 := hF25.size
   have hB_27 := hB.fr0 hF25
   have hRA_28 := hRA.fr0 hF25
   have hK_29 := hK.fr0 hF25
   have hE_30 := hE.tr0 hF25
   refine V.go (V.mv (at_same hz12.p4 rfl _) ?_)
   refine V.go (V.pv [(14, .tuple #[.agg #[.int .i64 0, .int .i64 0, .int .i64 0], .bool false])] ⟨(at_same hz12.p4.p1 rfl _), trivial⟩ (by kernel_rfl) (.agg #[.int .i64 0, .int .i64 0, .int .i64 0]) (by kernel_rfl) ?_)
   refine V.go (V.pv [(14, .tuple #[.agg #[.int .i64 0, .int .i64 0, .int .i64 0], .bool false])] ⟨(o1 rfl (at_same hz12.p4.p1 rfl _)), trivial⟩ (by kernel_rfl) (.bool false) (by kernel_rfl) ?_)
   refine V.go (V.mk [] trivial (by kernel_rfl) [.int .i64 0, .int .i64 0, .int .i64 0] 82 (fun b => .pointer (some ⟨b, 0, none⟩)) (by kernel_rfl) ?_)
   intro w32 b31 heb31 hB33 hF34 hsb31
   have hB_35 := hB_27.fr0 hF34
   have hRA_36 := hRA_28.fr0 hF34
   have hK_37 := hK_29.alloc hF34 heb31 (by omega)
   have hE_38 := hE_30.tr0 hF34
   refine V.go (V.stn b31 0 (.agg #[.int .i64 0, .int .i64 0, .int .i64 0]) [.int .i64 0, .int .i64 0, .int .i64 0] (at_same hz12.p8 rfl _) (o2 rfl (at_same hz12.p4.p2 rfl _)) rfl rfl (by kernel_rfl) hB33 (by simp) [.int .i64 0, .int .i64 0, .int .i64 0] rfl ?_)
   intro w39 hB40 hF41 hsw39
   have hB_42 := hB_35.fr1 hF41 (by omega)
   have hRA_43 := hRA_36.fr1 hF41 (by omega)
   have hK_44 := hK_37.fr hF41 (by simp)
   have hE_45 := hE_38.tr hF41 (by intro k hk; simp only [List.mem_singleton] at hk; subst hk; first | exact .inl (by assumption) | exact .inr (by omega) | exact .inl (.inl rfl))
   refine V.go (V.asg (o1 rfl (at_same hz12.p4.p2.p1 rfl _)) ?_)
   refine V.nil ?_
   refine V.then_n (hK24 _ _ ?_)
   refine V.flushW hz12.p8.p2 (fun a46 hz47 up48 => ?_)
   have s0_49 := up48 0 _ (o8 rfl (o2 rfl s0_14))
   have s5_50 := up48 5 _ (o1 rfl (at_same hz12.p8 rfl _))
   have s6_51 := up48 6 _ (at_same hz12.p8.p1 rfl _)
   clear up48
   refine V.seq (fun K52 hK53 => ?_)
   refine V.seq (fun K54 hK55 => ?_)
   refine V.region (by kernel_rfl) ?_
   refine V.go (V.mv (s6_51) ?_)
   refine V.go (V.pv [(20, .bool false)] ⟨(at_same hz47 rfl _), trivial⟩ (by kernel_rfl) (.bool true) (by kernel_rfl) ?_)
   refine V.nil ?_
   refine V.then_n (hK55 _ _ ?_)
   refine V.cond_t (at_same hz47.p1 rfl _) ?_
   refine V.seq (fun K56 hK57 => ?_)
   refine V.region (by kernel_rfl) ?_
   refine V.go (V.asg evc ?_)
   refine V.nil ?_
   refine V.then_n (hK57 _ _ ?_)
   refine V.ret ?_
   refine V.then_r ?_
   refine V.ret1 hz47.p2.p1 rfl (at_same hz47.p2 rfl _) ?_
   have hst : delT T k = T1 := by (unfold delT; rw [← hT1]; unfold del1T; rw [hf, if_neg (by simp)])
   rw [hst]
   exact ⟨by rw [hf], (TabN.fin (T := T1) hok1 hb0 hB_42 hRA_43 (by have h := hK_44; rw [List.append_nil, List.append_nil] at h; exact h) (mem3 (l := (b31 :: t :: gA :: av)) (by simp) (by simp) (by intro k hk; simp [hk])) (by first | assumption | exact Ne.symm (by assumption) | omega) hpt ⟨.inl hpg.1, hpg.2⟩ rfl rfl rfl rfl rfl).gr3 (by omega), (hFPE.gr hE_45)⟩
  ·
   have hb1 : T1.b.length ≠ 0 := fun h => hb0 (List.eq_nil_of_length_eq_zero h)
   obtain ⟨hB, hRA, hRB, hlA, hlB, hK, hne, hne2, hne3, hpt, hpg, hph⟩ := hN
   replace hK := hK.toH
   have hltt := hB.lt
   have hltg := hRA.lt
   have hltg2 := hRB.lt
   have hE : FrP (gp (gr H w w21) av) w21 w21 := FrP.refl _ _
   have hK0 : ∀ k ∈ av, k < w21.heap.size := fun k hk => hK.avl k (by simp [hk])
   obtain ⟨hsd, hpa, hla, hlb, hmv, hmz, hnn, hcn, hks⟩ := (show T1.Ok from hok1)
   have hbl := hok1.bl
   have hFPE := hFP_22
   refine V.go (V.call 53 #[] #[.pointer (some ⟨t, 0, none⟩), .string k] evf (args2 (o1 rfl (at_same hz12.p2 rfl _)) (at_same hz12.p2.p1 rfl _)) (Go.Proofs.enters_of Try.func53 (by kernel_rfl) rfl) (by have h := find_any w21 (gr H w w21) (av) t T1 hT19q k hkz; rw [hf] at h; exact h) ?_)
   rintro _ w59 ⟨rfl, hF58⟩
   refine ⟨_, rfl, ?_⟩
   have hsw59 := hF58.size
   have hB_60 := hB.fr0 hF58
   have hRA_61 := hRA.fr0 hF58
   have hRB_62 := hRB.fr0 hF58
   have hK_63 := hK.fr0 hF58
   have hE_64 := hE.tr0 hF58
   refine V.go (V.mv (at_same hz12.p4 rfl _) ?_)
   refine V.go (V.pv [(14, .tuple #[.agg #[.int .i64 0, .int .i64 0, .int .i64 0], .bool false])] ⟨(at_same hz12.p4.p1 rfl _), trivial⟩ (by kernel_rfl) (.agg #[.int .i64 0, .int .i64 0, .int .i64 0]) (by kernel_rfl) ?_)
   refine V.go (V.pv [(14, .tuple #[.agg #[.int .i64 0, .int .i64 0, .int .i64 0], .bool false])] ⟨(o1 rfl (at_same hz12.p4.p1 rfl _)), trivial⟩ (by kernel_rfl) (.bool false) (by kernel_rfl) ?_)
   refine V.go (V.mk [] trivial (by kernel_rfl) [.int .i64 0, .int .i64 0, .int .i64 0] 82 (fun b => .pointer (some ⟨b, 0, none⟩)) (by kernel_rfl) ?_)
   intro w66 b65 heb65 hB67 hF68 hsb65
   have hB_69 := hB_60.fr0 hF68
   have hRA_70 := hRA_61.fr0 hF68
   have hRB_71 := hRB_62.fr0 hF68
   have hK_72 := hK_63.alloc hF68 heb65 (by omega)
   have hE_73 := hE_64.tr0 hF68
   refine V.go (V.stn b65 0 (.agg #[.int .i64 0, .int .i64 0, .int .i64 0]) [.int .i64 0, .int .i64 0, .int .i64 0] (at_same hz12.p8 rfl _) (o2 rfl (at_same hz12.p4.p2 rfl _)) rfl rfl (by kernel_rfl) hB67 (by simp) [.int .i64 0, .int .i64 0, .int .i64 0] rfl ?_)
   intro w74 hB75 hF76 hsw74
   have hB_77 := hB_69.fr1 hF76 (by omega)
   have hRA_78 := hRA_70.fr1 hF76 (by omega)
   have hRB_79 := hRB_71.fr1 hF76 (by omega)
   have hK_80 := hK_72.fr hF76 (by simp)
   have hE_81 := hE_73.tr hF76 (by intro k hk; simp only [List.mem_singleton] at hk; subst hk; first | exact .inl (by assumption) | exact .inr (by omega) | exact .inl (.inl rfl))
   refine V.go (V.asg (o1 rfl (at_same hz12.p4.p2.p1 rfl _)) ?_)
   refine V.nil ?_
   refine V.then_n (hK24 _ _ ?_)
   refine V.flushW hz12.p8.p2 (fun a82 hz83 up84 => ?_)
   have s0_85 := up84 0 _ (o8 rfl (o2 rfl s0_14))
   have s5_86 := up84 5 _ (o1 rfl (at_same hz12.p8 rfl _))
   have s6_87 := up84 6 _ (at_same hz12.p8.p1 rfl _)
   clear up84
   refine V.seq (fun K88 hK89 => ?_)
   refine V.seq (fun K90 hK91 => ?_)
   refine V.region (by kernel_rfl) ?_
   refine V.go (V.mv (s6_87) ?_)
   refine V.go (V.pv [(20, .bool false)] ⟨(at_same hz83 rfl _), trivial⟩ (by kernel_rfl) (.bool true) (by kernel_rfl) ?_)
   refine V.nil ?_
   refine V.then_n (hK91 _ _ ?_)
   refine V.cond_t (at_same hz83.p1 rfl _) ?_
   refine V.seq (fun K92 hK93 => ?_)
   refine V.region (by kernel_rfl) ?_
   refine V.go (V.asg evc ?_)
   refine V.nil ?_
   refine V.then_n (hK93 _ _ ?_)
   refine V.ret ?_
   refine V.then_r ?_
   refine V.ret1 hz83.p2.p1 rfl (at_same hz83.p2 rfl _) ?_
   have hst : delT T k = T1 := by (unfold delT; rw [← hT1]; unfold del1T; rw [hf, if_neg (by simp)])
   rw [hst]
   exact ⟨by rw [hf], (TabM.fin (T := T1) hok1 hb0 hB_77 hRA_78 hRB_79 (by first | exact hlA | (simp only [List.length_set]; exact hlA)) hK_80 (mem4 (l := (b65 :: t :: gA :: gB :: av)) (by simp) (by simp) (by simp) (by intro k hk; simp [hk])) (by first | assumption | omega) (by first | assumption | omega) (by first | assumption | omega) hpt ⟨.inl hpg.1, hpg.2⟩ ⟨.inl hph.1, hph.2⟩ rfl rfl rfl rfl rfl rfl rfl).gr3 (by omega), (hFPE.gr hE_81)⟩
 ·
  rcases hT19q.2 with ⟨hb0, gA, vsA, hN⟩ | ⟨hb0, gA, gB, vsA, vsB, hN⟩
  ·
   have hb1 : T1.b.length = 0 := by rw [hb0]; rfl
   obtain ⟨hB, hRA, hlA, hK, hne, hpt, hpg⟩ := hN
   replace hK := hK.toH
   have hltt := hB.lt
   have hltg := hRA.lt
   have hE : FrP (gp (gr H w w21) av) w21 w21 := FrP.refl _ _
   have hK0 : ∀ k ∈ av, k < w21.heap.size := fun k hk => hK.avl k (by simp [hk])
   obtain ⟨hsd, hpa, hla, hlb, hmv, hmz, hnn, hcn, hks⟩ := (show T1.Ok from hok1)
   have hbl := hok1.bl
   have hFPE := hFP_22
   refine V.go (V.call 53 #[] #[.pointer (some ⟨t, 0, none⟩), .string k] evf (args2 (o1 rfl (at_same hz12.p2 rfl _)) (at_same hz12.p2.p1 rfl _)) (Go.Proofs.enters_of Try.func53 (by kernel_rfl) rfl) (by have h := find_any w21 (gr H w w21) (av) t T1 hT19q k hkz; rw [hf] at h; exact h) ?_)
   rintro _ w95 ⟨rfl, hF94⟩
   refine ⟨_, rfl, ?_⟩
   have hsw95 := hF94.size
   have hB_96 := hB.fr0 hF94
   have hRA_97 := hRA.fr0 hF94
   have hK_98 := hK.fr0 hF94
   have hE_99 := hE.tr0 hF94
   have hbkl := bkt_lt T1.seed k (n := T1.a.length) (by omega)
   refine V.go (V.mv (at_same hz12.p4 rfl _) ?_)
   refine V.go (V.pv [(14, .tuple #[.agg #[.int .i64 0, .int .i64 ((bkt T1.seed T1.a.length k : Nat) : Int), .int .i64 (j : Int)], .bool true])] ⟨(at_same hz12.p4.p1 rfl _), trivial⟩ (by kernel_rfl) (.agg #[.int .i64 0, .int .i64 ((bkt T1.seed T1.a.length k : Nat) : Int), .int .i64 (j : Int)]) (by kernel_rfl) ?_)
   refine V.go (V.pv [(14, .tuple #[.agg #[.int .i64 0, .int .i64 ((bkt T1.seed T1.a.length k : Nat) : Int), .int .i64 (j : Int)], .bool true])] ⟨(o1 rfl (at_same hz12.p4.p1 rfl _)), trivial⟩ (by kernel_rfl) (.bool true) (by kernel_rfl) ?_)
   refine V.go (V.mk [] trivial (by kernel_rfl) [.int .i64 0, .int .i64 0, .int .i64 0] 82 (fun b => .pointer (some ⟨b, 0, none⟩)) (by kernel_rfl) ?_)
   intro w101 b100 heb100 hB102 hF103 hsb100
   have hB_104 := hB_96.fr0 hF103
   have hRA_105 := hRA_97.fr0 hF103
   have hK_106 := hK_98.alloc hF103 heb100 (by omega)
   have hE_107 := hE_99.tr0 hF103
   refine V.go (V.stn b100 0 (.agg #[.int .i64 0, .int .i64 ((bkt T1.seed T1.a.length k : Nat) : Int), .int .i64 (j : Int)]) [.int .i64 0, .int .i64 ((bkt T1.seed T1.a.length k : Nat) : Int), .int .i64 (j : Int)] (at_same hz12.p8 rfl _) (o2 rfl (at_same hz12.p4.p2 rfl _)) rfl rfl (by kernel_rfl) hB102 (by simp) [.int .i64 0, .int .i64 ((bkt T1.seed T1.a.length k : Nat) : Int), .int .i64 (j : Int)] rfl ?_)
   intro w108 hB109 hF110 hsw108
   have hB_111 := hB_104.fr1 hF110 (by omega)
   have hRA_112 := hRA_105.fr1 hF110 (by omega)
   have hK_113 := hK_106.fr hF110 (by simp)
   have hE_114 := hE_107.tr hF110 (by intro k hk; simp only [List.mem_singleton] at hk; subst hk; first | exact .inl (by assumption) | exact .inr (by omega) | exact .inl (.inl rfl))
   refine V.go (V.asg (o1 rfl (at_same hz12.p4.p2.p1 rfl _)) ?_)
   refine V.nil ?_
   refine V.then_n (hK24 _ _ ?_)
   refine V.flushW hz12.p8.p2 (fun a115 hz116 up117 => ?_)
   have s0_118 := up117 0 _ (o8 rfl (o2 rfl s0_14))
   have s5_119 := up117 5 _ (o1 rfl (at_same hz12.p8 rfl _))
   have s6_120 := up117 6 _ (at_same hz12.p8.p1 rfl _)
   clear up117
   refine V.seq (fun K121 hK122 => ?_)
   refine V.seq (fun K123 hK124 => ?_)
   refine V.region (by kernel_rfl) ?_
   refine V.go (V.mv (s6_120) ?_)
   refine V.go (V.pv [(20, .bool true)] ⟨(at_same hz116 rfl _), trivial⟩ (by kernel_rfl) (.bool false) (by kernel_rfl) ?_)
   refine V.nil ?_
   refine V.then_n (hK124 _ _ ?_)
   refine V.cond_f (at_same hz116.p1 rfl _) ?_
   refine V.skip ?_
   refine V.then_n (hK122 _ _ ?_)
   refine V.seq (fun K125 hK126 => ?_)
   have hbq := hbl (bkt T1.seed T1.a.length k)
   refine V.plan [[], [], [1], [0], [0, 3], [0, 1, 2, 3, 4], [0, 1, 2, 3, 4, 5], [], [7], [0, 1, 2, 3, 4, 5, 6, 7, 8], [0, 1, 2, 3, 4, 5, 6, 7, 8, 9], [0, 1, 2, 3, 4, 5, 6, 7, 8, 9, 10]] [([0, 1, 2, 3, 4, 5, 6, 7, 8, 9, 10, 11], none)] (by kernel_rfl) (by kernel_rfl) (by exact fun _ _ _ _ h => h) ?_
   simp only [Plan.wpSegs, Plan.pickAll, Plan.nth, V.L_eq]
   obtain ⟨w127, hF128e⟩ : ∃ w1, w1 = w108.drew := ⟨_, rfl⟩
   rw [← hF128e]
   have hF128 : Fr [] w108 w127 := by rw [hF128e]; exact Fr.drew _ _
   have hsw127 : w127.heap.size = w108.heap.size := by rw [hF128e]; rfl
   clear hF128e
   have hB_129 := hB_111.fr0 hF128
   have hRA_130 := hRA_112.fr0 hF128
   have hK_131 := hK_113.fr0 hF128
   have hE_132 := hE_114.tr0 hF128
   have hB109_133 := hB109.fr0 hF128
   refine V.go (V.mv (o2 rfl s0_118) ?_)
   refine V.go (V.pv [(5, .pointer (some ⟨b100, 0, none⟩))] ⟨(o2 rfl (o1 rfl s5_119)), trivial⟩ (by kernel_rfl) (.pointer (some ⟨b100, 0, none⟩)) (by kernel_rfl) ?_)
   refine V.go (V.ld ⟨b100, 0, none⟩ (.int .i64 0) (at_same hz116.p2.p1 rfl _) (by kernel_rfl) (hB109_133.at 0 rfl) ?_)
   refine V.go (V.pv [(22, .pointer (some ⟨t, 0, none⟩))] ⟨(o2 rfl (at_same hz116.p2 rfl _)), trivial⟩ (by kernel_rfl) (.pointer (some ⟨t, 0, none⟩)) (by kernel_rfl) ?_)
   refine V.go (V.pv [(25, .pointer (some ⟨t, 0, none⟩))] ⟨(at_same hz116.p4.p1 rfl _), trivial⟩ (by kernel_rfl) (.pointer (some ⟨t, 1, none⟩)) (by kernel_rfl) ?_)
   refine V.go (V.pv [(26, .pointer (some ⟨t, 1, none⟩)), (24, .int .i64 0)] ⟨(at_same hz116.p4.p2 rfl _), (o2 rfl (at_same hz116.p4 rfl _)), trivial⟩ (by kernel_rfl) (.pointer (some ⟨t, 1, none⟩)) (by kernel_rfl) ?_)
   refine V.go (V.ld ⟨t, 1, none⟩ (.slice (some ⟨gA, 0, none⟩) T1.a.length T1.a.length) (at_same hz116.p4.p2.p1 rfl _) (by kernel_rfl) (hB_129.at 1 rfl) ?_)
   refine V.go (V.pv [(5, .pointer (some ⟨b100, 0, none⟩))] ⟨(o8 rfl (o1 rfl s5_119)), trivial⟩ (by kernel_rfl) (.pointer (some ⟨b100, 1, none⟩)) (by kernel_rfl) ?_)
   refine V.go (V.ld ⟨b100, 1, none⟩ (.int .i64 ((bkt T1.seed T1.a.length k : Nat) : Int)) (at_same hz116.p8.p1 rfl _) (by kernel_rfl) (hB109_133.at 1 rfl) ?_)
   refine V.go (V.ixa gA 0 T1.a.length T1.a.length .i64 ((bkt T1.seed T1.a.length k : Nat) : Int) 1 (o2 rfl (at_same hz116.p8 rfl _)) (at_same hz116.p8.p2 rfl _) (by omega) (by omega) (by kernel_rfl) ?_)
   obtain ⟨A134, c135, hv136⟩ := hK_131.getA hlA (i := (bkt T1.seed T1.a.length k)) (by omega) nilS
   refine V.go (V.ld ⟨gA, 0 + ((bkt T1.seed T1.a.length k : Nat) : Int).toNat * 1, none⟩ (.slice A134 ((T1.a.getD (bkt T1.seed T1.a.length k) []).length) c135) (at_same hz116.p8.p2.p1 rfl _) (by kernel_rfl) ((hRA_130.at (bkt T1.seed T1.a.length k) nilS (by omega)).trans (congrArg some hv136)) ?_)
   have hS137 := hK_131.slA hlA (i := (bkt T1.seed T1.a.length k)) (by omega) hv136
   refine V.go (V.asg (at_same hz116.p8.p4 rfl _) ?_)
   refine V.nil ?_
   refine ⟨chk [(22, .pointer (some ⟨t, 0, none⟩))] ⟨(o8 rfl (o2 rfl (o1 rfl (at_same hz116.p2 rfl _)))), trivial⟩ (by kernel_rfl), ?_⟩
   refine V.then_n (hK126 _ _ ?_)
   refine V.flushW hz116.p8.p4.p2 (fun a138 hz139 up140 => ?_)
   have s0_141 := up140 0 _ (o8 rfl (o4 rfl (o2 rfl s0_118)))
   have s5_142 := up140 5 _ (o8 rfl (o4 rfl (o2 rfl s5_119)))
   have s7_143 := up140 7 _ (at_same hz116.p8.p4.p1 rfl _)
   clear up140
   refine V.seq (fun K144 hK145 => ?_)
   refine V.plan [[], [], [1], [0], [0, 3], [0, 1, 2, 3, 4], [0, 1, 2, 3, 4, 5], [], [7], [], [], [10], [], [12], [12, 13], [9, 10, 11, 12, 13, 14], [0, 1, 2, 3, 4, 5, 6, 7, 8, 9, 10, 11, 12, 13, 14, 15], [0, 1, 2, 3, 4, 5, 6, 7, 8, 9, 10, 11, 12, 13, 14, 15, 16]] [([0, 1, 2, 3, 4, 5, 6, 7, 8, 9, 10, 11, 12, 13, 14], some (15, [2, 6, 8])), ([16], some (17, [])), ([], none)] (by kernel_rfl) (by kernel_rfl) (by exact fun _ _ _ _ h => h) ?_
   simp only [Plan.wpSegs, Plan.pickAll, Plan.nth, V.L_eq]
   obtain ⟨w146, hF147e⟩ : ∃ w1, w1 = w127.drew := ⟨_, rfl⟩
   rw [← hF147e]
   have hF147 : Fr [] w127 w146 := by rw [hF147e]; exact Fr.drew _ _
   have hsw146 : w146.heap.size = w127.heap.size := by rw [hF147e]; rfl
   clear hF147e
   have hB_148 := hB_129.fr0 hF147
   have hRA_149 := hRA_130.fr0 hF147
   have hK_150 := hK_131.fr0 hF147
   have hE_151 := hE_132.tr0 hF147
   have hB109_152 := hB109_133.fr0 hF147
   have hS137_153 := hS137.fr0 hF147
   refine V.go (V.mv (s0_141) ?_)
   refine V.go (V.pv [(5, .pointer (some ⟨b100, 0, none⟩))] ⟨(o1 rfl s5_142), trivial⟩ (by kernel_rfl) (.pointer (some ⟨b100, 0, none⟩)) (by kernel_rfl) ?_)
   refine V.go (V.ld ⟨b100, 0, none⟩ (.int .i64 0) (at_same hz139.p1 rfl _) (by kernel_rfl) (hB109_152.at 0 rfl) ?_)
   refine V.go (V.pv [(33, .pointer (some ⟨t, 0, none⟩))] ⟨(o2 rfl (at_same hz139 rfl _)), trivial⟩ (by kernel_rfl) (.pointer (some ⟨t, 0, none⟩)) (by kernel_rfl) ?_)
   refine V.go (V.pv [(36, .pointer (some ⟨t, 0, none⟩))] ⟨(at_same hz139.p2.p1 rfl _), trivial⟩ (by kernel_rfl) (.pointer (some ⟨t, 1, none⟩)) (by kernel_rfl) ?_)
   refine V.go (V.pv [(37, .pointer (some ⟨t, 1, none⟩)), (35, .int .i64 0)] ⟨(at_same hz139.p4 rfl _), (o2 rfl (at_same hz139.p2 rfl _)), trivial⟩ (by kernel_rfl) (.pointer (some ⟨t, 1, none⟩)) (by kernel_rfl) ?_)
   refine V.go (V.ld ⟨t, 1, none⟩ (.slice (some ⟨gA, 0, none⟩) T1.a.length T1.a.length) (at_same hz139.p4.p1 rfl _) (by kernel_rfl) (hB_148.at 1 rfl) ?_)
   refine V.go (V.pv [(5, .pointer (some ⟨b100, 0, none⟩))] ⟨(o4 rfl (o2 rfl (o1 rfl s5_142))), trivial⟩ (by kernel_rfl) (.pointer (some ⟨b100, 1, none⟩)) (by kernel_rfl) ?_)
   refine V.go (V.ld ⟨b100, 1, none⟩ (.int .i64 ((bkt T1.seed T1.a.length k : Nat) : Int)) (at_same hz139.p4.p2.p1 rfl _) (by kernel_rfl) (hB109_152.at 1 rfl) ?_)
   refine V.go (V.mv (o8 rfl (o1 rfl s7_143)) ?_)
   refine V.go (V.pv [(5, .pointer (some ⟨b100, 0, none⟩))] ⟨(o8 rfl (o2 rfl s5_142)), trivial⟩ (by kernel_rfl) (.pointer (some ⟨b100, 2, none⟩)) (by kernel_rfl) ?_)
   refine V.go (V.ld ⟨b100, 2, none⟩ (.int .i64 (j : Int)) (at_same hz139.p8.p2 rfl _) (by kernel_rfl) (hB109_152.at 2 rfl) ?_)
   refine V.go (V.pv [(5, .pointer (some ⟨b100, 0, none⟩))] ⟨(o8 rfl (o4 rfl s5_142)), trivial⟩ (by kernel_rfl) (.pointer (some ⟨b100, 2, none⟩)) (by kernel_rfl) ?_)
   refine V.go (V.ld ⟨b100, 2, none⟩ (.int .i64 (j : Int)) (at_same hz139.p8.p4 rfl _) (by kernel_rfl) (hB109_152.at 2 rfl) ?_)
   refine V.go (V.pvw [(46, .int .i64 (j : Int))] ⟨(at_same hz139.p8.p4.p1 rfl _), trivial⟩ (by kernel_rfl) (.int .i64 (IntKind.i64.wrap ((j : Int) + 1))) (.int .i64 ((j : Int) + 1)) (by kernel_rfl) (V.w_i64 (by omega) (by omega)) ?_)
   refine V.nil ?_
   refine ⟨chk [(33, .pointer (some ⟨t, 0, none⟩)), (46, .int .i64 (j : Int))] ⟨(o8 rfl (o4 rfl (o2 rfl (at_same hz139 rfl _)))), (o1 rfl (at_same hz139.p8.p4.p1 rfl _)), trivial⟩ (by kernel_rfl), ?_⟩
   obtain ⟨g154, hAe, hO155, hc156, ho157⟩ := hK_150.ownA hlA (i := (bkt T1.seed T1.a.length k)) (by omega) hv136 (by omega)
   rw [hAe] at hv136
   refine V.go (V.call 68 #[] #[.slice A134 ((T1.a.getD (bkt T1.seed T1.a.length k) []).length) c135, .int .i64 (j : Int), .int .i64 ((j : Int) + 1)] evf (args3 (o4 rfl (o1 rfl (at_same hz139.p8.p1 rfl _))) (o2 rfl (o1 rfl (at_same hz139.p8.p2.p1 rfl _))) (at_same hz139.p8.p4.p2 rfl _)) (Go.Proofs.enters_of Try.func68 (by kernel_rfl) rfl) (by (rw [hAe]; exact delete_any w146 g154 c135 j (T1.a.getD (bkt T1.seed T1.a.length k) []) hO155 (by omega) hc156 (by omega))) ?_)
   rintro _ w161 ⟨rfl, hOr158, hF159⟩
   refine ⟨_, rfl, ?_⟩
   have hsw161 := hF159.size
   have hB_162 := hB_148.fr hF159 (fun hm => (ho157 _ hm).1 (by simp))
   have hRA_163 := hRA_149.fr hF159 (fun hm => (ho157 _ hm).1 (by simp))
   have hE_164 := hE_151.tr hF159 (fun k hk => ((ho157 k hk).2).imp (fun h => ⟨h, fun hm => (ho157 k hk).1 (by simp [hm])⟩) id)
   have hB109_165 := hB109_152.fr hF159 (fun hm => (ho157 _ hm).1 (by simp))
   have hK160 := hK_150.setA hlA (i := (bkt T1.seed T1.a.length k)) (by omega) hv136 hF159 hOr158 (.inr (by omega))
   refine V.nil ?_
   refine ⟨⟨(fun _ => held_blk (n := 1) (hx := (o8 rfl (o4 rfl (o1 rfl (at_same hz139.p1 rfl _))))) hB109_152 hB109_165 (by kernel_rfl) rfl (by simp only [List.length]; omega)), (fun _ => held_blk (n := 1) (hx := (o8 rfl (o1 rfl (at_same hz139.p4.p1 rfl _)))) hB_148 hB_162 (by kernel_rfl) rfl (by simp only [List.length]; omega)), (fun _ => held_blk (n := 1) (hx := (o4 rfl (o2 rfl (o1 rfl (at_same hz139.p4.p2.p1 rfl _))))) hB109_152 hB109_165 (by kernel_rfl) rfl (by simp only [List.length]; omega))⟩, ?_⟩
   refine V.go (V.ixa gA 0 T1.a.length T1.a.length .i64 ((bkt T1.seed T1.a.length k : Nat) : Int) 1 (o8 rfl (o1 rfl (at_same hz139.p4.p2 rfl _))) (o4 rfl (o2 rfl (o1 rfl (at_same hz139.p8 rfl _)))) (by omega) (by omega) (by kernel_rfl) ?_)
   refine V.nil ?_
   refine ⟨chk [] trivial (by kernel_rfl), ?_⟩
   refine V.go (V.strow (enc := idV) gA (((bkt T1.seed T1.a.length k : Nat) : Int).toNat) (.slice (some ⟨g154, 0, none⟩) ((T1.a.getD (bkt T1.seed T1.a.length k) []).length - 1) c135) (at_same hz139.p16 rfl _) (o1 rfl (at_same hz139.p8.p4.p2.p1 rfl _)) rfl rfl (by kernel_rfl) hRA_163 (by first | omega | (simp only [List.length_set, List.length_replicate]; omega)) ?_)
   intro w166 hR167 hF168 hsw166
   have hB_169 := hB_162.fr1 hF168 (by omega)
   have hE_170 := hE_164.tr hF168 (by intro k hk; simp only [List.mem_singleton] at hk; subst hk; first | exact .inl (by assumption) | exact .inr (by omega) | exact .inl (.inl rfl))
   have hB109_171 := hB109_165.fr1 hF168 (by omega)
   have hK160_172 := hK160.fr hF168 (by simp)
   refine V.nil ?_
   refine ⟨trivial, ?_⟩
   refine V.nil ?_
   refine ⟨chk [] trivial (by kernel_rfl), ?_⟩
   refine V.then_n (hK145 _ _ ?_)
   refine V.flushW hz139.p16.p1 (fun a173 hz174 up175 => ?_)
   have s0_176 := up175 0 _ (o16 rfl (o1 rfl s0_141))
   clear up175
   refine V.seq (fun K177 hK178 => ?_)
   refine V.region (by kernel_rfl) ?_
   refine V.go (V.mv (s0_176) ?_)
   refine V.go (V.pv [(50, .pointer (some ⟨t, 0, none⟩))] ⟨(at_same hz174 rfl _), trivial⟩ (by kernel_rfl) (.pointer (some ⟨t, 0, none⟩)) (by kernel_rfl) ?_)
   refine V.go (V.pv [(51, .pointer (some ⟨t, 0, none⟩))] ⟨(at_same hz174.p1 rfl _), trivial⟩ (by kernel_rfl) (.pointer (some ⟨t, 4, none⟩)) (by kernel_rfl) ?_)
   refine V.go (V.ld ⟨t, 4, none⟩ (.int .i64 (T1.n : Int)) (at_same hz174.p2 rfl _) (by kernel_rfl) (hB_169.at 4 rfl) ?_)
   refine V.go (V.pvw [(53, .int .i64 (T1.n : Int))] ⟨(at_same hz174.p2.p1 rfl _), trivial⟩ (by kernel_rfl) (.int .i64 (IntKind.i64.wrap ((T1.n : Int) - 1))) (.int .i64 ((T1.n : Int) - 1)) (by kernel_rfl) (V.w_i64 (by omega) (by omega)) ?_)
   refine V.go (V.pv [(50, .pointer (some ⟨t, 0, none⟩))] ⟨(o4 rfl (at_same hz174 rfl _)), trivial⟩ (by kernel_rfl) (.pointer (some ⟨t, 0, none⟩)) (by kernel_rfl) ?_)
   refine V.go (V.pv [(55, .pointer (some ⟨t, 0, none⟩))] ⟨(at_same hz174.p4.p1 rfl _), trivial⟩ (by kernel_rfl) (.pointer (some ⟨t, 4, none⟩)) (by kernel_rfl) ?_)
   refine V.go (V.stn t 4 (.int .i64 ((T1.n : Int) - 1)) [.int .i64 ((T1.n : Int) - 1)] (at_same hz174.p4.p2 rfl _) (o2 rfl (at_same hz174.p4 rfl _)) rfl rfl (by kernel_rfl) hB_169 (by simp) [.int .u64 (T1.seed : Int), .slice (some ⟨gA, 0, none⟩) T1.a.length T1.a.length, .slice none 0 0, .int .i64 (T1.moved : Int), .int .i64 ((T1.n : Int) - 1)] rfl ?_)
   intro w179 hB180 hF181 hsw179
   have hE_182 := hE_170.tr hF181 (by intro k hk; simp only [List.mem_singleton] at hk; subst hk; first | exact .inl (by assumption) | exact .inr (by omega) | exact .inl (.inl rfl))
   have hB109_183 := hB109_171.fr1 hF181 (by omega)
   have hK160_184 := hK160_172.fr hF181 (by simp)
   have hR167_185 := hR167.fr1 hF181 (by omega)
   refine V.nil ?_
   refine V.then_n (hK178 _ _ ?_)
   refine V.flushW hz174.p4.p2.p1 (fun a186 hz187 up188 => ?_)
   have s0_189 := up188 0 _ (o4 rfl (o2 rfl (o1 rfl s0_176)))
   clear up188
   refine V.seq (fun K190 hK191 => ?_)
   refine V.seq (fun K192 hK193 => ?_)
   refine V.region (by kernel_rfl) ?_
   refine V.go (V.mv (s0_189) ?_)
   refine V.go (V.pv [(57, .pointer (some ⟨t, 0, none⟩))] ⟨(at_same hz187 rfl _), trivial⟩ (by kernel_rfl) (.pointer (some ⟨t, 0, none⟩)) (by kernel_rfl) ?_)
   refine V.go (V.pv [(58, .pointer (some ⟨t, 0, none⟩))] ⟨(at_same hz187.p1 rfl _), trivial⟩ (by kernel_rfl) (.pointer (some ⟨t, 1, none⟩)) (by kernel_rfl) ?_)
   refine V.go (V.pv [(59, .pointer (some ⟨t, 1, none⟩))] ⟨(at_same hz187.p2 rfl _), trivial⟩ (by kernel_rfl) (.pointer (some ⟨t, 1, none⟩)) (by kernel_rfl) ?_)
   refine V.go (V.ld ⟨t, 1, none⟩ (.slice (some ⟨gA, 0, none⟩) T1.a.length T1.a.length) (at_same hz187.p2.p1 rfl _) (by kernel_rfl) (hB180.at 1 rfl) ?_)
   refine V.go (V.pv [(61, .slice (some ⟨gA, 0, none⟩) T1.a.length T1.a.length)] ⟨(at_same hz187.p4 rfl _), trivial⟩ (by kernel_rfl) (.int .i64 ((T1.a.length : Nat) : Int)) (by kernel_rfl) ?_)
   refine V.go (V.asg (at_same hz187.p4.p1 rfl _) ?_)
   refine V.nil ?_
   refine V.then_n (hK193 _ _ ?_)
   refine V.flushW hz187.p4.p2.p1 (fun a194 hz195 up196 => ?_)
   have s0_197 := up196 0 _ (o4 rfl (o2 rfl (o1 rfl s0_189)))
   have s8_198 := up196 8 _ (at_same hz187.p4.p2 rfl _)
   clear up196
   refine V.seq (fun K199 hK200 => ?_)
   refine V.region (by kernel_rfl) ?_
   refine V.go (V.mv (s0_197) ?_)
   refine V.go (V.call 65 #[] #[.pointer (some ⟨t, 0, none⟩)] evf (args1 (at_same hz195 rfl _)) (Go.Proofs.enters_of Try.func65 (by kernel_rfl) rfl) (moves_N w179 t T1.seed T1.a.length 0 0 gA 0 (.int .i64 (T1.moved : Int)) (.int .i64 ((T1.n : Int) - 1)) hB180) ?_)
   rintro _ w202 ⟨rfl, hF201⟩
   refine ⟨_, rfl, ?_⟩
   have hsw202 := hF201.size
   have hE_203 := hE_182.tr0 hF201
   have hB109_204 := hB109_183.fr0 hF201
   have hK160_205 := hK160_184.fr0 hF201
   have hR167_206 := hR167_185.fr0 hF201
   have hB180_207 := hB180.fr0 hF201
   refine V.go (V.pv [(64, .bool false)] ⟨(at_same hz195.p1 rfl _), trivial⟩ (by kernel_rfl) (.bool true) (by kernel_rfl) ?_)
   refine V.go (V.mv (at_same hz195.p2 rfl _) ?_)
   refine V.go_on 66 (by kernel_rfl) (at_same hz195.p2.p1 rfl _) (V.mv (o4 rfl s8_198) ?_)
   refine V.go_on 66 (by kernel_rfl) (o1 rfl (at_same hz195.p2.p1 rfl _)) (V.pv [(67, .int .i64 ((T1.a.length : Nat) : Int))] ⟨(at_same hz195.p4 rfl _), trivial⟩ (by kernel_rfl) (.bool (decide (((T1.a.length : Nat) : Int) > 4))) (by kernel_rfl) ?_)
   refine V.go (V.pk_t (o2 rfl (at_same hz195.p2.p1 rfl _)) (v := (.bool (decide (((T1.a.length : Nat) : Int) > 4)))) (at_same hz195.p4.p1 rfl _) ?_)
   refine V.go (V.mv (at_same hz195.p4.p2 rfl _) ?_)
   by_cases hg208 : ((T1.a.length : Nat) : Int) > 4
   ·
    refine V.go_on 70 (by kernel_rfl) (((at_same hz195.p4.p2.p1 rfl _ : Act.eval _ _ = (.bool (decide (((T1.a.length : Nat) : Int) > 4))))).trans (dt hg208)) (V.mv (o8 rfl s0_197) ?_)
    refine V.go_on 70 (by kernel_rfl) (((o1 rfl (at_same hz195.p4.p2.p1 rfl _) : Act.eval _ _ = (.bool (decide (((T1.a.length : Nat) : Int) > 4))))).trans (dt hg208)) (V.pv [(71, .pointer (some ⟨t, 0, none⟩))] ⟨(at_same hz195.p8 rfl _), trivial⟩ (by kernel_rfl) (.pointer (some ⟨t, 0, none⟩)) (by kernel_rfl) ?_)
    refine V.go_on 70 (by kernel_rfl) (((o2 rfl (at_same hz195.p4.p2.p1 rfl _) : Act.eval _ _ = (.bool (decide (((T1.a.length : Nat) : Int) > 4))))).trans (dt hg208)) (V.pv [(72, .pointer (some ⟨t, 0, none⟩))] ⟨(at_same hz195.p8.p1 rfl _), trivial⟩ (by kernel_rfl) (.pointer (some ⟨t, 4, none⟩)) (by kernel_rfl) ?_)
    refine V.go_on 70 (by kernel_rfl) (((o2 rfl (o1 rfl (at_same hz195.p4.p2.p1 rfl _)) : Act.eval _ _ = (.bool (decide (((T1.a.length : Nat) : Int) > 4))))).trans (dt hg208)) (V.ld ⟨t, 4, none⟩ (.int .i64 ((T1.n : Int) - 1)) (at_same hz195.p8.p2 rfl _) (by kernel_rfl) (hB180_207.at 4 rfl) ?_)
    refine V.go_on 70 (by kernel_rfl) (((o4 rfl (at_same hz195.p4.p2.p1 rfl _) : Act.eval _ _ = (.bool (decide (((T1.a.length : Nat) : Int) > 4))))).trans (dt hg208)) (V.mv (o8 rfl (o4 rfl s8_198)) ?_)
    refine V.go_on 70 (by kernel_rfl) (((o4 rfl (o1 rfl (at_same hz195.p4.p2.p1 rfl _)) : Act.eval _ _ = (.bool (decide (((T1.a.length : Nat) : Int) > 4))))).trans (dt hg208)) (V.pvw [(75, .int .i64 ((T1.a.length : Nat) : Int))] ⟨(at_same hz195.p8.p4 rfl _), trivial⟩ (by kernel_rfl) (.int .i64 (IntKind.i64.wrap (Int.tdiv ((T1.a.length : Nat) : Int) 8))) (.int .i64 (((T1.a.length : Nat) : Int) / 8)) (by kernel_rfl) (V.quo_i64 (by omega) (by omega) (by omega)) ?_)
    refine V.go_on 70 (by kernel_rfl) (((o4 rfl (o2 rfl (at_same hz195.p4.p2.p1 rfl _)) : Act.eval _ _ = (.bool (decide (((T1.a.length : Nat) : Int) > 4))))).trans (dt hg208)) (V.pv [(74, .int .i64 ((T1.n : Int) - 1)), (76, .int .i64 (((T1.a.length : Nat) : Int) / 8))] ⟨(o2 rfl (at_same hz195.p8.p2.p1 rfl _)), (at_same hz195.p8.p4.p1 rfl _), trivial⟩ (by kernel_rfl) (.bool (decide (((T1.n : Int) - 1) < (((T1.a.length : Nat) : Int) / 8)))) (by kernel_rfl) ?_)
    refine V.go (V.pk_t (((o4 rfl (o2 rfl (o1 rfl (at_same hz195.p4.p2.p1 rfl _))) : Act.eval _ _ = (.bool (decide (((T1.a.length : Nat) : Int) > 4))))).trans (dt hg208)) (v := (.bool (decide (((T1.n : Int) - 1) < (((T1.a.length : Nat) : Int) / 8))))) (at_same hz195.p8.p4.p2 rfl _) ?_)
    refine V.nil ?_
    refine V.then_n (hK200 _ _ ?_)
    refine V.flushW hz195.p16 (fun a209 hz210 up211 => ?_)
    have s0_212 := up211 0 _ (o16 rfl s0_197)
    have s8_213 := up211 8 _ (o16 rfl s8_198)
    have s78_214 := up211 78 _ (at_same hz195.p8.p4.p2.p1 rfl _)
    clear up211
    refine V.condP (p := ((T1.n : Int) - 1) < (((T1.a.length : Nat) : Int) / 8)) (s78_214) (fun ht215 => ?_) (fun ht215 => ?_)
    ·
     refine V.region (by kernel_rfl) ?_
     refine V.go (V.mv (s0_212) ?_)
     refine V.go (V.mv (o1 rfl s8_213) ?_)
     refine V.go (V.quoN T1.a.length 2 (at_same hz210.p1 rfl _) evc (by omega) (by omega) ?_)
     have hu2 : rm1T T1 k = ({ T1 with a := rmV T1.a (bkt T1.seed T1.a.length k) j, n := T1.n - 1 } : Tb Int) := by (unfold rm1T; rw [hf]; simp)
     have hup := (rm1T_ok hok1 hm1 k (by rw [hf])).1
     rw [hu2] at hup
     have hN216 : TabN 67 87 86 itI w202 (gh (gr H w w21) w21) av t gA (vsA.set (((bkt T1.seed T1.a.length k : Nat) : Int).toNat) (.slice (some ⟨g154, 0, none⟩) ((T1.a.getD (bkt T1.seed T1.a.length k) []).length - 1) c135)) ({ T1 with a := rmV T1.a (bkt T1.seed T1.a.length k) j, n := T1.n - 1 } : Tb Int) := TabN.mk2 hB180_207 hR167_206 (by simpa [rmV] using hK160_205) (mem3 (by simp) (by simp) (by intro k hk; simp [hk])) hne ⟨.inl hpt.1, hpt.2⟩ ⟨.inl hpg.1, hpg.2⟩ rfl (rmV_length _ _ _).symm rfl (by show ((T1.n : Int) - 1) = ((T1.n - 1 : Nat) : Int); omega) rfl
     refine V.go (V.call 67 #[] #[.pointer (some ⟨t, 0, none⟩), .int .i64 ((T1.a.length / 2 : Nat) : Int)] evf (args2 (o2 rfl (at_same hz210 rfl _)) (at_same hz210.p2 rfl _)) (Go.Proofs.enters_of Try.func67 (by kernel_rfl) rfl) (start_N w202 (gh (gr H w w21) w21) av t gA _ ({ T1 with a := rmV T1.a (bkt T1.seed T1.a.length k) j, n := T1.n - 1 } : Tb Int) hup hN216 (T1.a.length / 2) hb0 (by omega) (by omega)) ?_)
     rintro _ w219 ⟨rfl, hT217, hfp218⟩
     refine ⟨_, rfl, ?_⟩
     have hsw219 := hfp218.size
     have hE_220 := hE_203.trP hfp218 (fun k hk => hk.1.imp (fun h => ⟨h, hk.2⟩) id)
     refine V.nil ?_
     refine V.then_n (hK191 _ _ ?_)
     refine V.flushW hz210.p4 (fun a221 hz222 up223 => ?_)
     clear up223
     refine V.seq (fun K224 hK225 => ?_)
     refine V.region (by kernel_rfl) ?_
     refine V.go (V.asg evc ?_)
     refine V.nil ?_
     refine V.then_n (hK225 _ _ ?_)
     refine V.ret ?_
     refine V.ret1 hz222.p1 rfl (at_same hz222 rfl _) ?_
     have hst : delT T k = shrT (rm1T T1 k) := by (unfold delT; rw [← hT1]; unfold del1T; rw [hf, if_pos rfl])
     rw [hst, hu2]
     have hsh : shrT ({ T1 with a := rmV T1.a (bkt T1.seed T1.a.length k) j, n := T1.n - 1 } : Tb Int) = startT ({ T1 with a := rmV T1.a (bkt T1.seed T1.a.length k) j, n := T1.n - 1 } : Tb Int) (T1.a.length / 2) := by (unfold shrT; rw [if_pos ⟨hb1, by show 4 < (rmV T1.a (bkt T1.seed T1.a.length k) j).length; rw [rmV_length]; omega, by show T1.n - 1 < (rmV T1.a (bkt T1.seed T1.a.length k) j).length / 8; rw [rmV_length]; omega⟩]; show startT _ ((rmV T1.a (bkt T1.seed T1.a.length k) j).length / 2) = _; rw [rmV_length])
     rw [hsh]
     exact ⟨by rw [hf], (hT217.gr2 (by omega)).gr3 (by omega), (hFPE.gr hE_220)⟩
    ·
     refine V.skip ?_
     refine V.then_n (hK191 _ _ ?_)
     refine V.seq (fun K226 hK227 => ?_)
     refine V.region (by kernel_rfl) ?_
     refine V.go (V.asg evc ?_)
     refine V.nil ?_
     refine V.then_n (hK227 _ _ ?_)
     refine V.ret ?_
     refine V.ret1 hz210.p1 rfl (at_same hz210 rfl _) ?_
     have hst : delT T k = shrT (rm1T T1 k) := by (unfold delT; rw [← hT1]; unfold del1T; rw [hf, if_pos rfl])
     have hu2 : rm1T T1 k = ({ T1 with a := rmV T1.a (bkt T1.seed T1.a.length k) j, n := T1.n - 1 } : Tb Int) := by (unfold rm1T; rw [hf]; simp)
     have hup := (rm1T_ok hok1 hm1 k (by rw [hf])).1
     rw [hu2] at hup
     rw [hst, hu2]
     have hsh : shrT ({ T1 with a := rmV T1.a (bkt T1.seed T1.a.length k) j, n := T1.n - 1 } : Tb Int) = ({ T1 with a := rmV T1.a (bkt T1.seed T1.a.length k) j, n := T1.n - 1 } : Tb Int) := by (unfold shrT; rw [if_neg]; rintro ⟨_, h1, h2⟩; (have h3 : 4 < (rmV T1.a (bkt T1.seed T1.a.length k) j).length := h1); (have h4 : T1.n - 1 < (rmV T1.a (bkt T1.seed T1.a.length k) j).length / 8 := h2); rw [rmV_length] at h3 h4; omega)
     rw [hsh]
     exact ⟨by rw [hf], (TabN.fin (T := ({ T1 with a := rmV T1.a (bkt T1.seed T1.a.length k) j, n := T1.n - 1 } : Tb Int)) hup hb0 hB180_207 hR167_206 (by have h := hK160_205; rw [List.append_nil, List.append_nil] at h; exact h) (mem3 (l := (b100 :: t :: gA :: av)) (by simp) (by simp) (by intro k hk; simp [hk])) (by first | assumption | exact Ne.symm (by assumption) | omega) hpt ⟨.inl hpg.1, hpg.2⟩ rfl (rmV_length _ _ _).symm rfl (by show ((T1.n : Int) - 1) = ((T1.n - 1 : Nat) : Int); omega) rfl).gr3 (by omega), (hFPE.gr hE_203)⟩
   ·
    refine V.go_off 70 (by kernel_rfl) (((at_same hz195.p4.p2.p1 rfl _ : Act.eval _ _ = (.bool (decide (((T1.a.length : Nat) : Int) > 4))))).trans (df hg208)) (by kernel_rfl) ?_
    refine V.go_off 70 (by kernel_rfl) (((o1 rfl (at_same hz195.p4.p2.p1 rfl _) : Act.eval _ _ = (.bool (decide (((T1.a.length : Nat) : Int) > 4))))).trans (df hg208)) (by kernel_rfl) ?_
    refine V.go_off 70 (by kernel_rfl) (((o2 rfl (at_same hz195.p4.p2.p1 rfl _) : Act.eval _ _ = (.bool (decide (((T1.a.length : Nat) : Int) > 4))))).trans (df hg208)) (by kernel_rfl) ?_
    refine V.go_off 70 (by kernel_rfl) (((o2 rfl (o1 rfl (at_same hz195.p4.p2.p1 rfl _)) : Act.eval _ _ = (.bool (decide (((T1.a.length : Nat) : Int) > 4))))).trans (df hg208)) (by kernel_rfl) ?_
    refine V.go_off 70 (by kernel_rfl) (((o4 rfl (at_same hz195.p4.p2.p1 rfl _) : Act.eval _ _ = (.bool (decide (((T1.a.length : Nat) : Int) > 4))))).trans (df hg208)) (by kernel_rfl) ?_
    refine V.go_off 70 (by kernel_rfl) (((o4 rfl (o1 rfl (at_same hz195.p4.p2.p1 rfl _)) : Act.eval _ _ = (.bool (decide (((T1.a.length : Nat) : Int) > 4))))).trans (df hg208)) (by kernel_rfl) ?_
    refine V.go_off 70 (by kernel_rfl) (((o4 rfl (o2 rfl (at_same hz195.p4.p2.p1 rfl _)) : Act.eval _ _ = (.bool (decide (((T1.a.length : Nat) : Int) > 4))))).trans (df hg208)) (by kernel_rfl) ?_
    refine V.go (V.pk_f (((o4 rfl (o2 rfl (o1 rfl (at_same hz195.p4.p2.p1 rfl _))) : Act.eval _ _ = (.bool (decide (((T1.a.length : Nat) : Int) > 4))))).trans (df hg208)) (v := (.bool false)) evc ?_)
    refine V.nil ?_
    refine V.then_n (hK200 _ _ ?_)
    refine V.flushW hz195.p16 (fun a228 hz229 up230 => ?_)
    have s0_231 := up230 0 _ (o16 rfl s0_197)
    have s8_232 := up230 8 _ (o16 rfl s8_198)
    have s78_233 := up230 78 _ (at_same hz195.p8.p4.p2.p1 rfl _)
    clear up230
    refine V.cond_f (s78_233) ?_
    refine V.skip ?_
    refine V.then_n (hK191 _ _ ?_)
    refine V.seq (fun K234 hK235 => ?_)
    refine V.region (by kernel_rfl) ?_
    refine V.go (V.asg evc ?_)
    refine V.nil ?_
    refine V.then_n (hK235 _ _ ?_)
    refine V.ret ?_
    refine V.ret1 hz229.p1 rfl (at_same hz229 rfl _) ?_
    have hst : delT T k = shrT (rm1T T1 k) := by (unfold delT; rw [← hT1]; unfold del1T; rw [hf, if_pos rfl])
    have hu2 : rm1T T1 k = ({ T1 with a := rmV T1.a (bkt T1.seed T1.a.length k) j, n := T1.n - 1 } : Tb Int) := by (unfold rm1T; rw [hf]; simp)
    have hup := (rm1T_ok hok1 hm1 k (by rw [hf])).1
    rw [hu2] at hup
    rw [hst, hu2]
    have hsh : shrT ({ T1 with a := rmV T1.a (bkt T1.seed T1.a.length k) j, n := T1.n - 1 } : Tb Int) = ({ T1 with a := rmV T1.a (bkt T1.seed T1.a.length k) j, n := T1.n - 1 } : Tb Int) := by (unfold shrT; rw [if_neg]; rintro ⟨_, h1, h2⟩; (have h3 : 4 < (rmV T1.a (bkt T1.seed T1.a.length k) j).length := h1); (have h4 : T1.n - 1 < (rmV T1.a (bkt T1.seed T1.a.length k) j).length / 8 := h2); rw [rmV_length] at h3 h4; omega)
    rw [hsh]
    exact ⟨by rw [hf], (TabN.fin (T := ({ T1 with a := rmV T1.a (bkt T1.seed T1.a.length k) j, n := T1.n - 1 } : Tb Int)) hup hb0 hB180_207 hR167_206 (by have h := hK160_205; rw [List.append_nil, List.append_nil] at h; exact h) (mem3 (l := (b100 :: t :: gA :: av)) (by simp) (by simp) (by intro k hk; simp [hk])) (by first | assumption | exact Ne.symm (by assumption) | omega) hpt ⟨.inl hpg.1, hpg.2⟩ rfl (rmV_length _ _ _).symm rfl (by show ((T1.n : Int) - 1) = ((T1.n - 1 : Nat) : Int); omega) rfl).gr3 (by omega), (hFPE.gr hE_203)⟩
  ·
   have hb1 : T1.b.length ≠ 0 := fun h => hb0 (List.eq_nil_of_length_eq_zero h)
   obtain ⟨hB, hRA, hRB, hlA, hlB, hK, hne, hne2, hne3, hpt, hpg, hph⟩ := hN
   replace hK := hK.toH
   have hltt := hB.lt
   have hltg := hRA.lt
   have hltg2 := hRB.lt
   have hE : FrP (gp (gr H w w21) av) w21 w21 := FrP.refl _ _
   have hK0 : ∀ k ∈ av, k < w21.heap.size := fun k hk => hK.avl k (by simp [hk])
   obtain ⟨hsd, hpa, hla, hlb, hmv, hmz, hnn, hcn, hks⟩ := (show T1.Ok from hok1)
   have hbl := hok1.bl
   have hFPE := hFP_22
   refine V.go (V.call 53 #[] #[.pointer (some ⟨t, 0, none⟩), .string k] evf (args2 (o1 rfl (at_same hz12.p2 rfl _)) (at_same hz12.p2.p1 rfl _)) (Go.Proofs.enters_of Try.func53 (by kernel_rfl) rfl) (by have h := find_any w21 (gr H w w21) (av) t T1 hT19q k hkz; rw [hf] at h; exact h) ?_)
   rintro _ w237 ⟨rfl, hF236⟩
   refine ⟨_, rfl, ?_⟩
   have hsw237 := hF236.size
   have hB_238 := hB.fr0 hF236
   have hRA_239 := hRA.fr0 hF236
   have hRB_240 := hRB.fr0 hF236
   have hK_241 := hK.fr0 hF236
   have hE_242 := hE.tr0 hF236
   have hbkl := bkt_lt T1.seed k (n := T1.a.length) (by omega)
   refine V.go (V.mv (at_same hz12.p4 rfl _) ?_)
   refine V.go (V.pv [(14, .tuple #[.agg #[.int .i64 0, .int .i64 ((bkt T1.seed T1.a.length k : Nat) : Int), .int .i64 (j : Int)], .bool true])] ⟨(at_same hz12.p4.p1 rfl _), trivial⟩ (by kernel_rfl) (.agg #[.int .i64 0, .int .i64 ((bkt T1.seed T1.a.length k : Nat) : Int), .int .i64 (j : Int)]) (by kernel_rfl) ?_)
   refine V.go (V.pv [(14, .tuple #[.agg #[.int .i64 0, .int .i64 ((bkt T1.seed T1.a.length k : Nat) : Int), .int .i64 (j : Int)], .bool true])] ⟨(o1 rfl (at_same hz12.p4.p1 rfl _)), trivial⟩ (by kernel_rfl) (.bool true) (by kernel_rfl) ?_)
   refine V.go (V.mk [] trivial (by kernel_rfl) [.int .i64 0, .int .i64 0, .int .i64 0] 82 (fun b => .pointer (some ⟨b, 0, none⟩)) (by kernel_rfl) ?_)
   intro w244 b243 heb243 hB245 hF246 hsb243
   have hB_247 := hB_238.fr0 hF246
   have hRA_248 := hRA_239.fr0 hF246
   have hRB_249 := hRB_240.fr0 hF246
   have hK_250 := hK_241.alloc hF246 heb243 (by omega)
   have hE_251 := hE_242.tr0 hF246
   refine V.go (V.stn b243 0 (.agg #[.int .i64 0, .int .i64 ((bkt T1.seed T1.a.length k : Nat) : Int), .int .i64 (j : Int)]) [.int .i64 0, .int .i64 ((bkt T1.seed T1.a.length k : Nat) : Int), .int .i64 (j : Int)] (at_same hz12.p8 rfl _) (o2 rfl (at_same hz12.p4.p2 rfl _)) rfl rfl (by kernel_rfl) hB245 (by simp) [.int .i64 0, .int .i64 ((bkt T1.seed T1.a.length k : Nat) : Int), .int .i64 (j : Int)] rfl ?_)
   intro w252 hB253 hF254 hsw252
   have hB_255 := hB_247.fr1 hF254 (by omega)
   have hRA_256 := hRA_248.fr1 hF254 (by omega)
   have hRB_257 := hRB_249.fr1 hF254 (by omega)
   have hK_258 := hK_250.fr hF254 (by simp)
   have hE_259 := hE_251.tr hF254 (by intro k hk; simp only [List.mem_singleton] at hk; subst hk; first | exact .inl (by assumption) | exact .inr (by omega) | exact .inl (.inl rfl))
   refine V.go (V.asg (o1 rfl (at_same hz12.p4.p2.p1 rfl _)) ?_)
   refine V.nil ?_
   refine V.then_n (hK24 _ _ ?_)
   refine V.flushW hz12.p8.p2 (fun a260 hz261 up262 => ?_)
   have s0_263 := up262 0 _ (o8 rfl (o2 rfl s0_14))
   have s5_264 := up262 5 _ (o1 rfl (at_same hz12.p8 rfl _))
   have s6_265 := up262 6 _ (at_same hz12.p8.p1 rfl _)
   clear up262
   refine V.seq (fun K266 hK267 => ?_)
   refine V.seq (fun K268 hK269 => ?_)
   refine V.region (by kernel_rfl) ?_
   refine V.go (V.mv (s6_265) ?_)
   refine V.go (V.pv [(20, .bool true)] ⟨(at_same hz261 rfl _), trivial⟩ (by kernel_rfl) (.bool false) (by kernel_rfl) ?_)
   refine V.nil ?_
   refine V.then_n (hK269 _ _ ?_)
   refine V.cond_f (at_same hz261.p1 rfl _) ?_
   refine V.skip ?_
   refine V.then_n (hK267 _ _ ?_)
   refine V.seq (fun K270 hK271 => ?_)
   have hbq := hbl (bkt T1.seed T1.a.length k)
   refine V.plan [[], [], [1], [0], [0, 3], [0, 1, 2, 3, 4], [0, 1, 2, 3, 4, 5], [], [7], [0, 1, 2, 3, 4, 5, 6, 7, 8], [0, 1, 2, 3, 4, 5, 6, 7, 8, 9], [0, 1, 2, 3, 4, 5, 6, 7, 8, 9, 10]] [([0, 1, 2, 3, 4, 5, 6, 7, 8, 9, 10, 11], none)] (by kernel_rfl) (by kernel_rfl) (by exact fun _ _ _ _ h => h) ?_
   simp only [Plan.wpSegs, Plan.pickAll, Plan.nth, V.L_eq]
   obtain ⟨w272, hF273e⟩ : ∃ w1, w1 = w252.drew := ⟨_, rfl⟩
   rw [← hF273e]
   have hF273 : Fr [] w252 w272 := by rw [hF273e]; exact Fr.drew _ _
   have hsw272 : w272.heap.size = w252.heap.size := by rw [hF273e]; rfl
   clear hF273e
   have hB_274 := hB_255.fr0 hF273
   have hRA_275 := hRA_256.fr0 hF273
   have hRB_276 := hRB_257.fr0 hF273
   have hK_277 := hK_258.fr0 hF273
   have hE_278 := hE_259.tr0 hF273
   have hB253_279 := hB253.fr0 hF273
   refine V.go (V.mv (o2 rfl s0_263) ?_)
   refine V.go (V.pv [(5, .pointer (some ⟨b243, 0, none⟩))] ⟨(o2 rfl (o1 rfl s5_264)), trivial⟩ (by kernel_rfl) (.pointer (some ⟨b243, 0, none⟩)) (by kernel_rfl) ?_)
   refine V.go (V.ld ⟨b243, 0, none⟩ (.int .i64 0) (at_same hz261.p2.p1 rfl _) (by kernel_rfl) (hB253_279.at 0 rfl) ?_)
   refine V.go (V.pv [(22, .pointer (some ⟨t, 0, none⟩))] ⟨(o2 rfl (at_same hz261.p2 rfl _)), trivial⟩ (by kernel_rfl) (.pointer (some ⟨t, 0, none⟩)) (by kernel_rfl) ?_)
   refine V.go (V.pv [(25, .pointer (some ⟨t, 0, none⟩))] ⟨(at_same hz261.p4.p1 rfl _), trivial⟩ (by kernel_rfl) (.pointer (some ⟨t, 1, none⟩)) (by kernel_rfl) ?_)
   refine V.go (V.pv [(26, .pointer (some ⟨t, 1, none⟩)), (24, .int .i64 0)] ⟨(at_same hz261.p4.p2 rfl _), (o2 rfl (at_same hz261.p4 rfl _)), trivial⟩ (by kernel_rfl) (.pointer (some ⟨t, 1, none⟩)) (by kernel_rfl) ?_)
   refine V.go (V.ld ⟨t, 1, none⟩ (.slice (some ⟨gA, 0, none⟩) T1.a.length T1.a.length) (at_same hz261.p4.p2.p1 rfl _) (by kernel_rfl) (hB_274.at 1 rfl) ?_)
   refine V.go (V.pv [(5, .pointer (some ⟨b243, 0, none⟩))] ⟨(o8 rfl (o1 rfl s5_264)), trivial⟩ (by kernel_rfl) (.pointer (some ⟨b243, 1, none⟩)) (by kernel_rfl) ?_)
   refine V.go (V.ld ⟨b243, 1, none⟩ (.int .i64 ((bkt T1.seed T1.a.length k : Nat) : Int)) (at_same hz261.p8.p1 rfl _) (by kernel_rfl) (hB253_279.at 1 rfl) ?_)
   refine V.go (V.ixa gA 0 T1.a.length T1.a.length .i64 ((bkt T1.seed T1.a.length k : Nat) : Int) 1 (o2 rfl (at_same hz261.p8 rfl _)) (at_same hz261.p8.p2 rfl _) (by omega) (by omega) (by kernel_rfl) ?_)
   obtain ⟨A280, c281, hv282⟩ := hK_277.getA hlA (i := (bkt T1.seed T1.a.length k)) (by omega) nilS
   refine V.go (V.ld ⟨gA, 0 + ((bkt T1.seed T1.a.length k : Nat) : Int).toNat * 1, none⟩ (.slice A280 ((T1.a.getD (bkt T1.seed T1.a.length k) []).length) c281) (at_same hz261.p8.p2.p1 rfl _) (by kernel_rfl) ((hRA_275.at (bkt T1.seed T1.a.length k) nilS (by omega)).trans (congrArg some hv282)) ?_)
   have hS283 := hK_277.slA hlA (i := (bkt T1.seed T1.a.length k)) (by omega) hv282
   refine V.go (V.asg (at_same hz261.p8.p4 rfl _) ?_)
   refine V.nil ?_
   refine ⟨chk [(22, .pointer (some ⟨t, 0, none⟩))] ⟨(o8 rfl (o2 rfl (o1 rfl (at_same hz261.p2 rfl _)))), trivial⟩ (by kernel_rfl), ?_⟩
   refine V.then_n (hK271 _ _ ?_)
   refine V.flushW hz261.p8.p4.p2 (fun a284 hz285 up286 => ?_)
   have s0_287 := up286 0 _ (o8 rfl (o4 rfl (o2 rfl s0_263)))
   have s5_288 := up286 5 _ (o8 rfl (o4 rfl (o2 rfl s5_264)))
   have s7_289 := up286 7 _ (at_same hz261.p8.p4.p1 rfl _)
   clear up286
   refine V.seq (fun K290 hK291 => ?_)
   refine V.plan [[], [], [1], [0], [0, 3], [0, 1, 2, 3, 4], [0, 1, 2, 3, 4, 5], [], [7], [], [], [10], [], [12], [12, 13], [9, 10, 11, 12, 13, 14], [0, 1, 2, 3, 4, 5, 6, 7, 8, 9, 10, 11, 12, 13, 14, 15], [0, 1, 2, 3, 4, 5, 6, 7, 8, 9, 10, 11, 12, 13, 14, 15, 16]] [([0, 1, 2, 3, 4, 5, 6, 7, 8, 9, 10, 11, 12, 13, 14], some (15, [2, 6, 8])), ([16], some (17, [])), ([], none)] (by kernel_rfl) (by kernel_rfl) (by exact fun _ _ _ _ h => h) ?_
   simp only [Plan.wpSegs, Plan.pickAll, Plan.nth, V.L_eq]
   obtain ⟨w292, hF293e⟩ : ∃ w1, w1 = w272.drew := ⟨_, rfl⟩
   rw [← hF293e]
   have hF293 : Fr [] w272 w292 := by rw [hF293e]; exact Fr.drew _ _
   have hsw292 : w292.heap.size = w272.heap.size := by rw [hF293e]; rfl
   clear hF293e
   have hB_294 := hB_274.fr0 hF293
   have hRA_295 := hRA_275.fr0 hF293
   have hRB_296 := hRB_276.fr0 hF293
   have hK_297 := hK_277.fr0 hF293
   have hE_298 := hE_278.tr0 hF293
   have hB253_299 := hB253_279.fr0 hF293
   have hS283_300 := hS283.fr0 hF293
   refine V.go (V.mv (s0_287) ?_)
   refine V.go (V.pv [(5, .pointer (some ⟨b243, 0, none⟩))] ⟨(o1 rfl s5_288), trivial⟩ (by kernel_rfl) (.pointer (some ⟨b243, 0, none⟩)) (by kernel_rfl) ?_)
   refine V.go (V.ld ⟨b243, 0, none⟩ (.int .i64 0) (at_same hz285.p1 rfl _) (by kernel_rfl) (hB253_299.at 0 rfl) ?_)
   refine V.go (V.pv [(33, .pointer (some ⟨t, 0, none⟩))] ⟨(o2 rfl (at_same hz285 rfl _)), trivial⟩ (by kernel_rfl) (.pointer (some ⟨t, 0, none⟩)) (by kernel_rfl) ?_)
   refine V.go (V.pv [(36, .pointer (some ⟨t, 0, none⟩))] ⟨(at_same hz285.p2.p1 rfl _), trivial⟩ (by kernel_rfl) (.pointer (some ⟨t, 1, none⟩)) (by kernel_rfl) ?_)
   refine V.go (V.pv [(37, .pointer (some ⟨t, 1, none⟩)), (35, .int .i64 0)] ⟨(at_same hz285.p4 rfl _), (o2 rfl (at_same hz285.p2 rfl _)), trivial⟩ (by kernel_rfl) (.pointer (some ⟨t, 1, none⟩)) (by kernel_rfl) ?_)
   refine V.go (V.ld ⟨t, 1, none⟩ (.slice (some ⟨gA, 0, none⟩) T1.a.length T1.a.length) (at_same hz285.p4.p1 rfl _) (by kernel_rfl) (hB_294.at 1 rfl) ?_)
   refine V.go (V.pv [(5, .pointer (some ⟨b243, 0, none⟩))] ⟨(o4 rfl (o2 rfl (o1 rfl s5_288))), trivial⟩ (by kernel_rfl) (.pointer (some ⟨b243, 1, none⟩)) (by kernel_rfl) ?_)
   refine V.go (V.ld ⟨b243, 1, none⟩ (.int .i64 ((bkt T1.seed T1.a.length k : Nat) : Int)) (at_same hz285.p4.p2.p1 rfl _) (by kernel_rfl) (hB253_299.at 1 rfl) ?_)
   refine V.go (V.mv (o8 rfl (o1 rfl s7_289)) ?_)
   refine V.go (V.pv [(5, .pointer (some ⟨b243, 0, none⟩))] ⟨(o8 rfl (o2 rfl s5_288)), trivial⟩ (by kernel_rfl) (.pointer (some ⟨b243, 2, none⟩)) (by kernel_rfl) ?_)
   refine V.go (V.ld ⟨b243, 2, none⟩ (.int .i64 (j : Int)) (at_same hz285.p8.p2 rfl _) (by kernel_rfl) (hB253_299.at 2 rfl) ?_)
   refine V.go (V.pv [(5, .pointer (some ⟨b243, 0, none⟩))] ⟨(o8 rfl (o4 rfl s5_288)), trivial⟩ (by kernel_rfl) (.pointer (some ⟨b243, 2, none⟩)) (by kernel_rfl) ?_)
   refine V.go (V.ld ⟨b243, 2, none⟩ (.int .i64 (j : Int)) (at_same hz285.p8.p4 rfl _) (by kernel_rfl) (hB253_299.at 2 rfl) ?_)
   refine V.go (V.pvw [(46, .int .i64 (j : Int))] ⟨(at_same hz285.p8.p4.p1 rfl _), trivial⟩ (by kernel_rfl) (.int .i64 (IntKind.i64.wrap ((j : Int) + 1))) (.int .i64 ((j : Int) + 1)) (by kernel_rfl) (V.w_i64 (by omega) (by omega)) ?_)
   refine V.nil ?_
   refine ⟨chk [(33, .pointer (some ⟨t, 0, none⟩)), (46, .int .i64 (j : Int))] ⟨(o8 rfl (o4 rfl (o2 rfl (at_same hz285 rfl _)))), (o1 rfl (at_same hz285.p8.p4.p1 rfl _)), trivial⟩ (by kernel_rfl), ?_⟩
   obtain ⟨g301, hAe, hO302, hc303, ho304⟩ := hK_297.ownA hlA (i := (bkt T1.seed T1.a.length k)) (by omega) hv282 (by omega)
   rw [hAe] at hv282
   refine V.go (V.call 68 #[] #[.slice A280 ((T1.a.getD (bkt T1.seed T1.a.length k) []).length) c281, .int .i64 (j : Int), .int .i64 ((j : Int) + 1)] evf (args3 (o4 rfl (o1 rfl (at_same hz285.p8.p1 rfl _))) (o2 rfl (o1 rfl (at_same hz285.p8.p2.p1 rfl _))) (at_same hz285.p8.p4.p2 rfl _)) (Go.Proofs.enters_of Try.func68 (by kernel_rfl) rfl) (by (rw [hAe]; exact delete_any w292 g301 c281 j (T1.a.getD (bkt T1.seed T1.a.length k) []) hO302 (by omega) hc303 (by omega))) ?_)
   rintro _ w308 ⟨rfl, hOr305, hF306⟩
   refine ⟨_, rfl, ?_⟩
   have hsw308 := hF306.size
   have hB_309 := hB_294.fr hF306 (fun hm => (ho304 _ hm).1 (by simp))
   have hRA_310 := hRA_295.fr hF306 (fun hm => (ho304 _ hm).1 (by simp))
   have hRB_311 := hRB_296.fr hF306 (fun hm => (ho304 _ hm).1 (by simp))
   have hE_312 := hE_298.tr hF306 (fun k hk => ((ho304 k hk).2).imp (fun h => ⟨h, fun hm => (ho304 k hk).1 (by simp [hm])⟩) id)
   have hB253_313 := hB253_299.fr hF306 (fun hm => (ho304 _ hm).1 (by simp))
   have hK307 := hK_297.setA hlA (i := (bkt T1.seed T1.a.length k)) (by omega) hv282 hF306 hOr305 (.inr (by omega))
   refine V.nil ?_
   refine ⟨⟨(fun _ => held_blk (n := 1) (hx := (o8 rfl (o4 rfl (o1 rfl (at_same hz285.p1 rfl _))))) hB253_299 hB253_313 (by kernel_rfl) rfl (by simp only [List.length]; omega)), (fun _ => held_blk (n := 1) (hx := (o8 rfl (o1 rfl (at_same hz285.p4.p1 rfl _)))) hB_294 hB_309 (by kernel_rfl) rfl (by simp only [List.length]; omega)), (fun _ => held_blk (n := 1) (hx := (o4 rfl (o2 rfl (o1 rfl (at_same hz285.p4.p2.p1 rfl _))))) hB253_299 hB253_313 (by kernel_rfl) rfl (by simp only [List.length]; omega))⟩, ?_⟩
   refine V.go (V.ixa gA 0 T1.a.length T1.a.length .i64 ((bkt T1.seed T1.a.length k : Nat) : Int) 1 (o8 rfl (o1 rfl (at_same hz285.p4.p2 rfl _))) (o4 rfl (o2 rfl (o1 rfl (at_same hz285.p8 rfl _)))) (by omega) (by omega) (by kernel_rfl) ?_)
   refine V.nil ?_
   refine ⟨chk [] trivial (by kernel_rfl), ?_⟩
   refine V.go (V.strow (enc := idV) gA (((bkt T1.seed T1.a.length k : Nat) : Int).toNat) (.slice (some ⟨g301, 0, none⟩) ((T1.a.getD (bkt T1.seed T1.a.length k) []).length - 1) c281) (at_same hz285.p16 rfl _) (o1 rfl (at_same hz285.p8.p4.p2.p1 rfl _)) rfl rfl (by kernel_rfl) hRA_310 (by first | omega | (simp only [List.length_set, List.length_replicate]; omega)) ?_)
   intro w314 hR315 hF316 hsw314
   have hB_317 := hB_309.fr1 hF316 (by omega)
   have hRB_318 := hRB_311.fr1 hF316 (by omega)
   have hE_319 := hE_312.tr hF316 (by intro k hk; simp only [List.mem_singleton] at hk; subst hk; first | exact .inl (by assumption) | exact .inr (by omega) | exact .inl (.inl rfl))
   have hB253_320 := hB253_313.fr1 hF316 (by omega)
   have hK307_321 := hK307.fr hF316 (by simp)
   refine V.nil ?_
   refine ⟨trivial, ?_⟩
   refine V.nil ?_
   refine ⟨chk [] trivial (by kernel_rfl), ?_⟩
   refine V.then_n (hK291 _ _ ?_)
   refine V.flushW hz285.p16.p1 (fun a322 hz323 up324 => ?_)
   have s0_325 := up324 0 _ (o16 rfl (o1 rfl s0_287))
   clear up324
   refine V.seq (fun K326 hK327 => ?_)
   refine V.region (by kernel_rfl) ?_
   refine V.go (V.mv (s0_325) ?_)
   refine V.go (V.pv [(50, .pointer (some ⟨t, 0, none⟩))] ⟨(at_same hz323 rfl _), trivial⟩ (by kernel_rfl) (.pointer (some ⟨t, 0, none⟩)) (by kernel_rfl) ?_)
   refine V.go (V.pv [(51, .pointer (some ⟨t, 0, none⟩))] ⟨(at_same hz323.p1 rfl _), trivial⟩ (by kernel_rfl) (.pointer (some ⟨t, 4, none⟩)) (by kernel_rfl) ?_)
   refine V.go (V.ld ⟨t, 4, none⟩ (.int .i64 (T1.n : Int)) (at_same hz323.p2 rfl _) (by kernel_rfl) (hB_317.at 4 rfl) ?_)
   refine V.go (V.pvw [(53, .int .i64 (T1.n : Int))] ⟨(at_same hz323.p2.p1 rfl _), trivial⟩ (by kernel_rfl) (.int .i64 (IntKind.i64.wrap ((T1.n : Int) - 1))) (.int .i64 ((T1.n : Int) - 1)) (by kernel_rfl) (V.w_i64 (by omega) (by omega)) ?_)
   refine V.go (V.pv [(50, .pointer (some ⟨t, 0, none⟩))] ⟨(o4 rfl (at_same hz323 rfl _)), trivial⟩ (by kernel_rfl) (.pointer (some ⟨t, 0, none⟩)) (by kernel_rfl) ?_)
   refine V.go (V.pv [(55, .pointer (some ⟨t, 0, none⟩))] ⟨(at_same hz323.p4.p1 rfl _), trivial⟩ (by kernel_rfl) (.pointer (some ⟨t, 4, none⟩)) (by kernel_rfl) ?_)
   refine V.go (V.stn t 4 (.int .i64 ((T1.n : Int) - 1)) [.int .i64 ((T1.n : Int) - 1)] (at_same hz323.p4.p2 rfl _) (o2 rfl (at_same hz323.p4 rfl _)) rfl rfl (by kernel_rfl) hB_317 (by simp) [.int .u64 (T1.seed : Int), .slice (some ⟨gA, 0, none⟩) T1.a.length T1.a.length, .slice (some ⟨gB, 0, none⟩) T1.b.length T1.b.length, .int .i64 (T1.moved : Int), .int .i64 ((T1.n : Int) - 1)] rfl ?_)
   intro w328 hB329 hF330 hsw328
   have hRB_331 := hRB_318.fr1 hF330 (by omega)
   have hE_332 := hE_319.tr hF330 (by intro k hk; simp only [List.mem_singleton] at hk; subst hk; first | exact .inl (by assumption) | exact .inr (by omega) | exact .inl (.inl rfl))
   have hB253_333 := hB253_320.fr1 hF330 (by omega)
   have hK307_334 := hK307_321.fr hF330 (by simp)
   have hR315_335 := hR315.fr1 hF330 (by omega)
   refine V.nil ?_
   refine V.then_n (hK327 _ _ ?_)
   refine V.flushW hz323.p4.p2.p1 (fun a336 hz337 up338 => ?_)
   have s0_339 := up338 0 _ (o4 rfl (o2 rfl (o1 rfl s0_325)))
   clear up338
   refine V.seq (fun K340 hK341 => ?_)
   refine V.seq (fun K342 hK343 => ?_)
   refine V.region (by kernel_rfl) ?_
   refine V.go (V.mv (s0_339) ?_)
   refine V.go (V.pv [(57, .pointer (some ⟨t, 0, none⟩))] ⟨(at_same hz337 rfl _), trivial⟩ (by kernel_rfl) (.pointer (some ⟨t, 0, none⟩)) (by kernel_rfl) ?_)
   refine V.go (V.pv [(58, .pointer (some ⟨t, 0, none⟩))] ⟨(at_same hz337.p1 rfl _), trivial⟩ (by kernel_rfl) (.pointer (some ⟨t, 1, none⟩)) (by kernel_rfl) ?_)
   refine V.go (V.pv [(59, .pointer (some ⟨t, 1, none⟩))] ⟨(at_same hz337.p2 rfl _), trivial⟩ (by kernel_rfl) (.pointer (some ⟨t, 1, none⟩)) (by kernel_rfl) ?_)
   refine V.go (V.ld ⟨t, 1, none⟩ (.slice (some ⟨gA, 0, none⟩) T1.a.length T1.a.length) (at_same hz337.p2.p1 rfl _) (by kernel_rfl) (hB329.at 1 rfl) ?_)
   refine V.go (V.pv [(61, .slice (some ⟨gA, 0, none⟩) T1.a.length T1.a.length)] ⟨(at_same hz337.p4 rfl _), trivial⟩ (by kernel_rfl) (.int .i64 ((T1.a.length : Nat) : Int)) (by kernel_rfl) ?_)
   refine V.go (V.asg (at_same hz337.p4.p1 rfl _) ?_)
   refine V.nil ?_
   refine V.then_n (hK343 _ _ ?_)
   refine V.flushW hz337.p4.p2.p1 (fun a344 hz345 up346 => ?_)
   have s0_347 := up346 0 _ (o4 rfl (o2 rfl (o1 rfl s0_339)))
   have s8_348 := up346 8 _ (at_same hz337.p4.p2 rfl _)
   clear up346
   refine V.seq (fun K349 hK350 => ?_)
   refine V.region (by kernel_rfl) ?_
   refine V.go (V.mv (s0_347) ?_)
   refine V.go (V.call 65 #[] #[.pointer (some ⟨t, 0, none⟩)] evf (args1 (at_same hz345 rfl _)) (Go.Proofs.enters_of Try.func65 (by kernel_rfl) rfl) (moves_M w328 t T1.seed T1.a.length T1.b.length 0 gA gB (.int .i64 (T1.moved : Int)) (.int .i64 ((T1.n : Int) - 1)) hB329) ?_)
   rintro _ w352 ⟨rfl, hF351⟩
   refine ⟨_, rfl, ?_⟩
   have hsw352 := hF351.size
   have hRB_353 := hRB_331.fr0 hF351
   have hE_354 := hE_332.tr0 hF351
   have hB253_355 := hB253_333.fr0 hF351
   have hK307_356 := hK307_334.fr0 hF351
   have hR315_357 := hR315_335.fr0 hF351
   have hB329_358 := hB329.fr0 hF351
   refine V.go (V.pv [(64, .bool true)] ⟨(at_same hz345.p1 rfl _), trivial⟩ (by kernel_rfl) (.bool false) (by kernel_rfl) ?_)
   refine V.go (V.mv (at_same hz345.p2 rfl _) ?_)
   refine V.go_off 66 (by kernel_rfl) (at_same hz345.p2.p1 rfl _) (by kernel_rfl) ?_
   refine V.go_off 66 (by kernel_rfl) (o1 rfl (at_same hz345.p2.p1 rfl _)) (by kernel_rfl) ?_
   refine V.go (V.pk_f (o2 rfl (at_same hz345.p2.p1 rfl _)) (v := (.bool false)) evc ?_)
   refine V.go (V.mv (at_same hz345.p4.p2 rfl _) ?_)
   refine V.go_off 70 (by kernel_rfl) (at_same hz345.p4.p2.p1 rfl _) (by kernel_rfl) ?_
   refine V.go_off 70 (by kernel_rfl) (o1 rfl (at_same hz345.p4.p2.p1 rfl _)) (by kernel_rfl) ?_
   refine V.go_off 70 (by kernel_rfl) (o2 rfl (at_same hz345.p4.p2.p1 rfl _)) (by kernel_rfl) ?_
   refine V.go_off 70 (by kernel_rfl) (o2 rfl (o1 rfl (at_same hz345.p4.p2.p1 rfl _))) (by kernel_rfl) ?_
   refine V.go_off 70 (by kernel_rfl) (o4 rfl (at_same hz345.p4.p2.p1 rfl _)) (by kernel_rfl) ?_
   refine V.go_off 70 (by kernel_rfl) (o4 rfl (o1 rfl (at_same hz345.p4.p2.p1 rfl _))) (by kernel_rfl) ?_
   refine V.go_off 70 (by kernel_rfl) (o4 rfl (o2 rfl (at_same hz345.p4.p2.p1 rfl _))) (by kernel_rfl) ?_
   refine V.go (V.pk_f (o4 rfl (o2 rfl (o1 rfl (at_same hz345.p4.p2.p1 rfl _)))) (v := (.bool false)) evc ?_)
   refine V.nil ?_
   refine V.then_n (hK350 _ _ ?_)
   refine V.flushW hz345.p16 (fun a359 hz360 up361 => ?_)
   have s0_362 := up361 0 _ (o16 rfl s0_347)
   have s8_363 := up361 8 _ (o16 rfl s8_348)
   have s78_364 := up361 78 _ (at_same hz345.p8.p4.p2.p1 rfl _)
   clear up361
   refine V.cond_f (s78_364) ?_
   refine V.skip ?_
   refine V.then_n (hK341 _ _ ?_)
   refine V.seq (fun K365 hK366 => ?_)
   refine V.region (by kernel_rfl) ?_
   refine V.go (V.asg evc ?_)
   refine V.nil ?_
   refine V.then_n (hK366 _ _ ?_)
   refine V.ret ?_
   refine V.ret1 hz360.p1 rfl (at_same hz360 rfl _) ?_
   have hst : delT T k = shrT (rm1T T1 k) := by (unfold delT; rw [← hT1]; unfold del1T; rw [hf, if_pos rfl])
   have hu2 : rm1T T1 k = ({ T1 with a := rmV T1.a (bkt T1.seed T1.a.length k) j, n := T1.n - 1 } : Tb Int) := by (unfold rm1T; rw [hf]; simp)
   have hup := (rm1T_ok hok1 hm1 k (by rw [hf])).1
   rw [hu2] at hup
   rw [hst, hu2]
   have hsh : shrT ({ T1 with a := rmV T1.a (bkt T1.seed T1.a.length k) j, n := T1.n - 1 } : Tb Int) = ({ T1 with a := rmV T1.a (bkt T1.seed T1.a.length k) j, n := T1.n - 1 } : Tb Int) := by (unfold shrT; rw [if_neg]; rintro ⟨h0, _⟩; exact hb1 (by first | exact h0 | (have h1 : (rmV T1.b (bkt T1.seed T1.b.length k) j).length = 0 := h0; rwa [rmV_length] at h1)))
   rw [hsh]
   exact ⟨by rw [hf], (TabM.fin (T := ({ T1 with a := rmV T1.a (bkt T1.seed T1.a.length k) j, n := T1.n - 1 } : Tb Int)) hup hb0 hB329_358 hR315_357 hRB_353 (by first | exact hlA | (simp only [List.length_set]; exact hlA)) hK307_356 (mem4 (l := (b243 :: t :: gA :: gB :: av)) (by simp) (by simp) (by simp) (by intro k hk; simp [hk])) (by first | assumption | omega) (by first | assumption | omega) (by first | assumption | omega) hpt ⟨.inl hpg.1, hpg.2⟩ ⟨.inl hph.1, hph.2⟩ rfl (rmV_length _ _ _).symm rfl (by show ((T1.n : Int) - 1) = ((T1.n - 1 : Nat) : Int); omega) rfl rfl rfl).gr3 (by omega), (hFPE.gr hE_354)⟩
 ·
  rcases hT19q.2 with ⟨hb0, gA, vsA, hN⟩ | ⟨hb0, gA, gB, vsA, vsB, hN⟩
  ·
   exact absurd (by rw [hb0]; rfl) hbn
  ·
   have hb1 : T1.b.length ≠ 0 := fun h => hb0 (List.eq_nil_of_length_eq_zero h)
   obtain ⟨hB, hRA, hRB, hlA, hlB, hK, hne, hne2, hne3, hpt, hpg, hph⟩ := hN
   replace hK := hK.toH
   have hltt := hB.lt
   have hltg := hRA.lt
   have hltg2 := hRB.lt
   have hE : FrP (gp (gr H w w21) av) w21 w21 := FrP.refl _ _
   have hK0 : ∀ k ∈ av, k < w21.heap.size := fun k hk => hK.avl k (by simp [hk])
   obtain ⟨hsd, hpa, hla, hlb, hmv, hmz, hnn, hcn, hks⟩ := (show T1.Ok from hok1)
   have hbl := hok1.bl
   have hFPE := hFP_22
   refine V.go (V.call 53 #[] #[.pointer (some ⟨t, 0, none⟩), .string k] evf (args2 (o1 rfl (at_same hz12.p2 rfl _)) (at_same hz12.p2.p1 rfl _)) (Go.Proofs.enters_of Try.func53 (by kernel_rfl) rfl) (by have h := find_any w21 (gr H w w21) (av) t T1 hT19q k hkz; rw [hf] at h; exact h) ?_)
   rintro _ w368 ⟨rfl, hF367⟩
   refine ⟨_, rfl, ?_⟩
   have hsw368 := hF367.size
   have hB_369 := hB.fr0 hF367
   have hRA_370 := hRA.fr0 hF367
   have hRB_371 := hRB.fr0 hF367
   have hK_372 := hK.fr0 hF367
   have hE_373 := hE.tr0 hF367
   have hbkl := bkt_lt T1.seed k (n := T1.b.length) (by omega)
   refine V.go (V.mv (at_same hz12.p4 rfl _) ?_)
   refine V.go (V.pv [(14, .tuple #[.agg #[.int .i64 1, .int .i64 ((bkt T1.seed T1.b.length k : Nat) : Int), .int .i64 (j : Int)], .bool true])] ⟨(at_same hz12.p4.p1 rfl _), trivial⟩ (by kernel_rfl) (.agg #[.int .i64 1, .int .i64 ((bkt T1.seed T1.b.length k : Nat) : Int), .int .i64 (j : Int)]) (by kernel_rfl) ?_)
   refine V.go (V.pv [(14, .tuple #[.agg #[.int .i64 1, .int .i64 ((bkt T1.seed T1.b.length k : Nat) : Int), .int .i64 (j : Int)], .bool true])] ⟨(o1 rfl (at_same hz12.p4.p1 rfl _)), trivial⟩ (by kernel_rfl) (.bool true) (by kernel_rfl) ?_)
   refine V.go (V.mk [] trivial (by kernel_rfl) [.int .i64 0, .int .i64 0, .int .i64 0] 82 (fun b => .pointer (some ⟨b, 0, none⟩)) (by kernel_rfl) ?_)
   intro w375 b374 heb374 hB376 hF377 hsb374
   have hB_378 := hB_369.fr0 hF377
   have hRA_379 := hRA_370.fr0 hF377
   have hRB_380 := hRB_371.fr0 hF377
   have hK_381 := hK_372.alloc hF377 heb374 (by omega)
   have hE_382 := hE_373.tr0 hF377
   refine V.go (V.stn b374 0 (.agg #[.int .i64 1, .int .i64 ((bkt T1.seed T1.b.length k : Nat) : Int), .int .i64 (j : Int)]) [.int .i64 1, .int .i64 ((bkt T1.seed T1.b.length k : Nat) : Int), .int .i64 (j : Int)] (at_same hz12.p8 rfl _) (o2 rfl (at_same hz12.p4.p2 rfl _)) rfl rfl (by kernel_rfl) hB376 (by simp) [.int .i64 1, .int .i64 ((bkt T1.seed T1.b.length k : Nat) : Int), .int .i64 (j : Int)] rfl ?_)
   intro w383 hB384 hF385 hsw383
   have hB_386 := hB_378.fr1 hF385 (by omega)
   have hRA_387 := hRA_379.fr1 hF385 (by omega)
   have hRB_388 := hRB_380.fr1 hF385 (by omega)
   have hK_389 := hK_381.fr hF385 (by simp)
   have hE_390 := hE_382.tr hF385 (by intro k hk; simp only [List.mem_singleton] at hk; subst hk; first | exact .inl (by assumption) | exact .inr (by omega) | exact .inl (.inl rfl))
   refine V.go (V.asg (o1 rfl (at_same hz12.p4.p2.p1 rfl _)) ?_)
   refine V.nil ?_
   refine V.then_n (hK24 _ _ ?_)
   refine V.flushW hz12.p8.p2 (fun a391 hz392 up393 => ?_)
   have s0_394 := up393 0 _ (o8 rfl (o2 rfl s0_14))
   have s5_395 := up393 5 _ (o1 rfl (at_same hz12.p8 rfl _))
   have s6_396 := up393 6 _ (at_same hz12.p8.p1 rfl _)
   clear up393
   refine V.seq (fun K397 hK398 => ?_)
   refine V.seq (fun K399 hK400 => ?_)
   refine V.region (by kernel_rfl) ?_
   refine V.go (V.mv (s6_396) ?_)
   refine V.go (V.pv [(20, .bool true)] ⟨(at_same hz392 rfl _), trivial⟩ (by kernel_rfl) (.bool false) (by kernel_rfl) ?_)
   refine V.nil ?_
   refine V.then_n (hK400 _ _ ?_)
   refine V.cond_f (at_same hz392.p1 rfl _) ?_
   refine V.skip ?_
   refine V.then_n (hK398 _ _ ?_)
   refine V.seq (fun K401 hK402 => ?_)
   have hbq := hbl (bkt T1.seed T1.b.length k)
   refine V.plan [[], [], [1], [0], [0, 3], [0, 1, 2, 3, 4], [0, 1, 2, 3, 4, 5], [], [7], [0, 1, 2, 3, 4, 5, 6, 7, 8], [0, 1, 2, 3, 4, 5, 6, 7, 8, 9], [0, 1, 2, 3, 4, 5, 6, 7, 8, 9, 10]] [([0, 1, 2, 3, 4, 5, 6, 7, 8, 9, 10, 11], none)] (by kernel_rfl) (by kernel_rfl) (by exact fun _ _ _ _ h => h) ?_
   simp only [Plan.wpSegs, Plan.pickAll, Plan.nth, V.L_eq]
   obtain ⟨w403, hF404e⟩ : ∃ w1, w1 = w383.drew := ⟨_, rfl⟩
   rw [← hF404e]
   have hF404 : Fr [] w383 w403 := by rw [hF404e]; exact Fr.drew _ _
   have hsw403 : w403.heap.size = w383.heap.size := by rw [hF404e]; rfl
   clear hF404e
   have hB_405 := hB_386.fr0 hF404
   have hRA_406 := hRA_387.fr0 hF404
   have hRB_407 := hRB_388.fr0 hF404
   have hK_408 := hK_389.fr0 hF404
   have hE_409 := hE_390.tr0 hF404
   have hB384_410 := hB384.fr0 hF404
   refine V.go (V.mv (o2 rfl s0_394) ?_)
   refine V.go (V.pv [(5, .pointer (some ⟨b374, 0, none⟩))] ⟨(o2 rfl (o1 rfl s5_395)), trivial⟩ (by kernel_rfl) (.pointer (some ⟨b374, 0, none⟩)) (by kernel_rfl) ?_)
   refine V.go (V.ld ⟨b374, 0, none⟩ (.int .i64 1) (at_same hz392.p2.p1 rfl _) (by kernel_rfl) (hB384_410.at 0 rfl) ?_)
   refine V.go (V.pv [(22, .pointer (some ⟨t, 0, none⟩))] ⟨(o2 rfl (at_same hz392.p2 rfl _)), trivial⟩ (by kernel_rfl) (.pointer (some ⟨t, 0, none⟩)) (by kernel_rfl) ?_)
   refine V.go (V.pv [(25, .pointer (some ⟨t, 0, none⟩))] ⟨(at_same hz392.p4.p1 rfl _), trivial⟩ (by kernel_rfl) (.pointer (some ⟨t, 1, none⟩)) (by kernel_rfl) ?_)
   refine V.go (V.pv [(26, .pointer (some ⟨t, 1, none⟩)), (24, .int .i64 1)] ⟨(at_same hz392.p4.p2 rfl _), (o2 rfl (at_same hz392.p4 rfl _)), trivial⟩ (by kernel_rfl) (.pointer (some ⟨t, 2, none⟩)) (by kernel_rfl) ?_)
   refine V.go (V.ld ⟨t, 2, none⟩ (.slice (some ⟨gB, 0, none⟩) T1.b.length T1.b.length) (at_same hz392.p4.p2.p1 rfl _) (by kernel_rfl) (hB_405.at 2 rfl) ?_)
   refine V.go (V.pv [(5, .pointer (some ⟨b374, 0, none⟩))] ⟨(o8 rfl (o1 rfl s5_395)), trivial⟩ (by kernel_rfl) (.pointer (some ⟨b374, 1, none⟩)) (by kernel_rfl) ?_)
   refine V.go (V.ld ⟨b374, 1, none⟩ (.int .i64 ((bkt T1.seed T1.b.length k : Nat) : Int)) (at_same hz392.p8.p1 rfl _) (by kernel_rfl) (hB384_410.at 1 rfl) ?_)
   refine V.go (V.ixa gB 0 T1.b.length T1.b.length .i64 ((bkt T1.seed T1.b.length k : Nat) : Int) 1 (o2 rfl (at_same hz392.p8 rfl _)) (at_same hz392.p8.p2 rfl _) (by omega) (by omega) (by kernel_rfl) ?_)
   obtain ⟨A411, c412, hv413⟩ := hK_408.getB hlA (i := (bkt T1.seed T1.b.length k)) (by omega) nilS
   refine V.go (V.ld ⟨gB, 0 + ((bkt T1.seed T1.b.length k : Nat) : Int).toNat * 1, none⟩ (.slice A411 ((T1.b.getD (bkt T1.seed T1.b.length k) []).length) c412) (at_same hz392.p8.p2.p1 rfl _) (by kernel_rfl) ((hRB_407.at (bkt T1.seed T1.b.length k) nilS (by omega)).trans (congrArg some hv413)) ?_)
   have hS414 := hK_408.slB hlA (i := (bkt T1.seed T1.b.length k)) (by omega) hv413
   refine V.go (V.asg (at_same hz392.p8.p4 rfl _) ?_)
   refine V.nil ?_
   refine ⟨chk [(22, .pointer (some ⟨t, 0, none⟩))] ⟨(o8 rfl (o2 rfl (o1 rfl (at_same hz392.p2 rfl _)))), trivial⟩ (by kernel_rfl), ?_⟩
   refine V.then_n (hK402 _ _ ?_)
   refine V.flushW hz392.p8.p4.p2 (fun a415 hz416 up417 => ?_)
   have s0_418 := up417 0 _ (o8 rfl (o4 rfl (o2 rfl s0_394)))
   have s5_419 := up417 5 _ (o8 rfl (o4 rfl (o2 rfl s5_395)))
   have s7_420 := up417 7 _ (at_same hz392.p8.p4.p1 rfl _)
   clear up417
   refine V.seq (fun K421 hK422 => ?_)
   refine V.plan [[], [], [1], [0], [0, 3], [0, 1, 2, 3, 4], [0, 1, 2, 3, 4, 5], [], [7], [], [], [10], [], [12], [12, 13], [9, 10, 11, 12, 13, 14], [0, 1, 2, 3, 4, 5, 6, 7, 8, 9, 10, 11, 12, 13, 14, 15], [0, 1, 2, 3, 4, 5, 6, 7, 8, 9, 10, 11, 12, 13, 14, 15, 16]] [([0, 1, 2, 3, 4, 5, 6, 7, 8, 9, 10, 11, 12, 13, 14], some (15, [2, 6, 8])), ([16], some (17, [])), ([], none)] (by kernel_rfl) (by kernel_rfl) (by exact fun _ _ _ _ h => h) ?_
   simp only [Plan.wpSegs, Plan.pickAll, Plan.nth, V.L_eq]
   obtain ⟨w423, hF424e⟩ : ∃ w1, w1 = w403.drew := ⟨_, rfl⟩
   rw [← hF424e]
   have hF424 : Fr [] w403 w423 := by rw [hF424e]; exact Fr.drew _ _
   have hsw423 : w423.heap.size = w403.heap.size := by rw [hF424e]; rfl
   clear hF424e
   have hB_425 := hB_405.fr0 hF424
   have hRA_426 := hRA_406.fr0 hF424
   have hRB_427 := hRB_407.fr0 hF424
   have hK_428 := hK_408.fr0 hF424
   have hE_429 := hE_409.tr0 hF424
   have hB384_430 := hB384_410.fr0 hF424
   have hS414_431 := hS414.fr0 hF424
   refine V.go (V.mv (s0_418) ?_)
   refine V.go (V.pv [(5, .pointer (some ⟨b374, 0, none⟩))] ⟨(o1 rfl s5_419), trivial⟩ (by kernel_rfl) (.pointer (some ⟨b374, 0, none⟩)) (by kernel_rfl) ?_)
   refine V.go (V.ld ⟨b374, 0, none⟩ (.int .i64 1) (at_same hz416.p1 rfl _) (by kernel_rfl) (hB384_430.at 0 rfl) ?_)
   refine V.go (V.pv [(33, .pointer (some ⟨t, 0, none⟩))] ⟨(o2 rfl (at_same hz416 rfl _)), trivial⟩ (by kernel_rfl) (.pointer (some ⟨t, 0, none⟩)) (by kernel_rfl) ?_)
   refine V.go (V.pv [(36, .pointer (some ⟨t, 0, none⟩))] ⟨(at_same hz416.p2.p1 rfl _), trivial⟩ (by kernel_rfl) (.pointer (some ⟨t, 1, none⟩)) (by kernel_rfl) ?_)
   refine V.go (V.pv [(37, .pointer (some ⟨t, 1, none⟩)), (35, .int .i64 1)] ⟨(at_same hz416.p4 rfl _), (o2 rfl (at_same hz416.p2 rfl _)), trivial⟩ (by kernel_rfl) (.pointer (some ⟨t, 2, none⟩)) (by kernel_rfl) ?_)
   refine V.go (V.ld ⟨t, 2, none⟩ (.slice (some ⟨gB, 0, none⟩) T1.b.length T1.b.length) (at_same hz416.p4.p1 rfl _) (by kernel_rfl) (hB_425.at 2 rfl) ?_)
   refine V.go (V.pv [(5, .pointer (some ⟨b374, 0, none⟩))] ⟨(o4 rfl (o2 rfl (o1 rfl s5_419))), trivial⟩ (by kernel_rfl) (.pointer (some ⟨b374, 1, none⟩)) (by kernel_rfl) ?_)
   refine V.go (V.ld ⟨b374, 1, none⟩ (.int .i64 ((bkt T1.seed T1.b.length k : Nat) : Int)) (at_same hz416.p4.p2.p1 rfl _) (by kernel_rfl) (hB384_430.at 1 rfl) ?_)
   refine V.go (V.mv (o8 rfl (o1 rfl s7_420)) ?_)
   refine V.go (V.pv [(5, .pointer (some ⟨b374, 0, none⟩))] ⟨(o8 rfl (o2 rfl s5_419)), trivial⟩ (by kernel_rfl) (.pointer (some ⟨b374, 2, none⟩)) (by kernel_rfl) ?_)
   refine V.go (V.ld ⟨b374, 2, none⟩ (.int .i64 (j : Int)) (at_same hz416.p8.p2 rfl _) (by kernel_rfl) (hB384_430.at 2 rfl) ?_)
   refine V.go (V.pv [(5, .pointer (some ⟨b374, 0, none⟩))] ⟨(o8 rfl (o4 rfl s5_419)), trivial⟩ (by kernel_rfl) (.pointer (some ⟨b374, 2, none⟩)) (by kernel_rfl) ?_)
   refine V.go (V.ld ⟨b374, 2, none⟩ (.int .i64 (j : Int)) (at_same hz416.p8.p4 rfl _) (by kernel_rfl) (hB384_430.at 2 rfl) ?_)
   refine V.go (V.pvw [(46, .int .i64 (j : Int))] ⟨(at_same hz416.p8.p4.p1 rfl _), trivial⟩ (by kernel_rfl) (.int .i64 (IntKind.i64.wrap ((j : Int) + 1))) (.int .i64 ((j : Int) + 1)) (by kernel_rfl) (V.w_i64 (by omega) (by omega)) ?_)
   refine V.nil ?_
   refine ⟨chk [(33, .pointer (some ⟨t, 0, none⟩)), (46, .int .i64 (j : Int))] ⟨(o8 rfl (o4 rfl (o2 rfl (at_same hz416 rfl _)))), (o1 rfl (at_same hz416.p8.p4.p1 rfl _)), trivial⟩ (by kernel_rfl), ?_⟩
   obtain ⟨g432, hAe, hO433, hc434, ho435⟩ := hK_428.ownB hlA (i := (bkt T1.seed T1.b.length k)) (by omega) hv413 (by omega)
   rw [hAe] at hv413
   refine V.go (V.call 68 #[] #[.slice A411 ((T1.b.getD (bkt T1.seed T1.b.length k) []).length) c412, .int .i64 (j : Int), .int .i64 ((j : Int) + 1)] evf (args3 (o4 rfl (o1 rfl (at_same hz416.p8.p1 rfl _))) (o2 rfl (o1 rfl (at_same hz416.p8.p2.p1 rfl _))) (at_same hz416.p8.p4.p2 rfl _)) (Go.Proofs.enters_of Try.func68 (by kernel_rfl) rfl) (by (rw [hAe]; exact delete_any w423 g432 c412 j (T1.b.getD (bkt T1.seed T1.b.length k) []) hO433 (by omega) hc434 (by omega))) ?_)
   rintro _ w439 ⟨rfl, hOr436, hF437⟩
   refine ⟨_, rfl, ?_⟩
   have hsw439 := hF437.size
   have hB_440 := hB_425.fr hF437 (fun hm => (ho435 _ hm).1 (by simp))
   have hRA_441 := hRA_426.fr hF437 (fun hm => (ho435 _ hm).1 (by simp))
   have hRB_442 := hRB_427.fr hF437 (fun hm => (ho435 _ hm).1 (by simp))
   have hE_443 := hE_429.tr hF437 (fun k hk => ((ho435 k hk).2).imp (fun h => ⟨h, fun hm => (ho435 k hk).1 (by simp [hm])⟩) id)
   have hB384_444 := hB384_430.fr hF437 (fun hm => (ho435 _ hm).1 (by simp))
   have hK438 := hK_428.setB hlA (i := (bkt T1.seed T1.b.length k)) (by omega) hv413 hF437 hOr436 (.inr (by omega))
   refine V.nil ?_
   refine ⟨⟨(fun _ => held_blk (n := 1) (hx := (o8 rfl (o4 rfl (o1 rfl (at_same hz416.p1 rfl _))))) hB384_430 hB384_444 (by kernel_rfl) rfl (by simp only [List.length]; omega)), (fun _ => held_blk (n := 1) (hx := (o8 rfl (o1 rfl (at_same hz416.p4.p1 rfl _)))) hB_425 hB_440 (by kernel_rfl) rfl (by simp only [List.length]; omega)), (fun _ => held_blk (n := 1) (hx := (o4 rfl (o2 rfl (o1 rfl (at_same hz416.p4.p2.p1 rfl _))))) hB384_430 hB384_444 (by kernel_rfl) rfl (by simp only [List.length]; omega))⟩, ?_⟩
   refine V.go (V.ixa gB 0 T1.b.length T1.b.length .i64 ((bkt T1.seed T1.b.length k : Nat) : Int) 1 (o8 rfl (o1 rfl (at_same hz416.p4.p2 rfl _))) (o4 rfl (o2 rfl (o1 rfl (at_same hz416.p8 rfl _)))) (by omega) (by omega) (by kernel_rfl) ?_)
   refine V.nil ?_
   refine ⟨chk [] trivial (by kernel_rfl), ?_⟩
   refine V.go (V.strow (enc := idV) gB (((bkt T1.seed T1.b.length k : Nat) : Int).toNat) (.slice (some ⟨g432, 0, none⟩) ((T1.b.getD (bkt T1.seed T1.b.length k) []).length - 1) c412) (at_same hz416.p16 rfl _) (o1 rfl (at_same hz416.p8.p4.p2.p1 rfl _)) rfl rfl (by kernel_rfl) hRB_442 (by first | omega | (simp only [List.length_set, List.length_replicate]; omega)) ?_)
   intro w445 hR446 hF447 hsw445
   have hB_448 := hB_440.fr1 hF447 (by omega)
   have hRA_449 := hRA_441.fr1 hF447 (by omega)
   have hE_450 := hE_443.tr hF447 (by intro k hk; simp only [List.mem_singleton] at hk; subst hk; first | exact .inl (by assumption) | exact .inr (by omega) | exact .inl (.inl rfl))
   have hB384_451 := hB384_444.fr1 hF447 (by omega)
   have hK438_452 := hK438.fr hF447 (by simp)
   refine V.nil ?_
   refine ⟨trivial, ?_⟩
   refine V.nil ?_
   refine ⟨chk [] trivial (by kernel_rfl), ?_⟩
   refine V.then_n (hK422 _ _ ?_)
   refine V.flushW hz416.p16.p1 (fun a453 hz454 up455 => ?_)
   have s0_456 := up455 0 _ (o16 rfl (o1 rfl s0_418))
   clear up455
   refine V.seq (fun K457 hK458 => ?_)
   refine V.region (by kernel_rfl) ?_
   refine V.go (V.mv (s0_456) ?_)
   refine V.go (V.pv [(50, .pointer (some ⟨t, 0, none⟩))] ⟨(at_same hz454 rfl _), trivial⟩ (by kernel_rfl) (.pointer (some ⟨t, 0, none⟩)) (by kernel_rfl) ?_)
   refine V.go (V.pv [(51, .pointer (some ⟨t, 0, none⟩))] ⟨(at_same hz454.p1 rfl _), trivial⟩ (by kernel_rfl) (.pointer (some ⟨t, 4, none⟩)) (by kernel_rfl) ?_)
   refine V.go (V.ld ⟨t, 4, none⟩ (.int .i64 (T1.n : Int)) (at_same hz454.p2 rfl _) (by kernel_rfl) (hB_448.at 4 rfl) ?_)
   refine V.go (V.pvw [(53, .int .i64 (T1.n : Int))] ⟨(at_same hz454.p2.p1 rfl _), trivial⟩ (by kernel_rfl) (.int .i64 (IntKind.i64.wrap ((T1.n : Int) - 1))) (.int .i64 ((T1.n : Int) - 1)) (by kernel_rfl) (V.w_i64 (by omega) (by omega)) ?_)
   refine V.go (V.pv [(50, .pointer (some ⟨t, 0, none⟩))] ⟨(o4 rfl (at_same hz454 rfl _)), trivial⟩ (by kernel_rfl) (.pointer (some ⟨t, 0, none⟩)) (by kernel_rfl) ?_)
   refine V.go (V.pv [(55, .pointer (some ⟨t, 0, none⟩))] ⟨(at_same hz454.p4.p1 rfl _), trivial⟩ (by kernel_rfl) (.pointer (some ⟨t, 4, none⟩)) (by kernel_rfl) ?_)
   refine V.go (V.stn t 4 (.int .i64 ((T1.n : Int) - 1)) [.int .i64 ((T1.n : Int) - 1)] (at_same hz454.p4.p2 rfl _) (o2 rfl (at_same hz454.p4 rfl _)) rfl rfl (by kernel_rfl) hB_448 (by simp) [.int .u64 (T1.seed : Int), .slice (some ⟨gA, 0, none⟩) T1.a.length T1.a.length, .slice (some ⟨gB, 0, none⟩) T1.b.length T1.b.length, .int .i64 (T1.moved : Int), .int .i64 ((T1.n : Int) - 1)] rfl ?_)
   intro w459 hB460 hF461 hsw459
   have hRA_462 := hRA_449.fr1 hF461 (by omega)
   have hE_463 := hE_450.tr hF461 (by intro k hk; simp only [List.mem_singleton] at hk; subst hk; first | exact .inl (by assumption) | exact .inr (by omega) | exact .inl (.inl rfl))
   have hB384_464 := hB384_451.fr1 hF461 (by omega)
   have hK438_465 := hK438_452.fr hF461 (by simp)
   have hR446_466 := hR446.fr1 hF461 (by omega)
   refine V.nil ?_
   refine V.then_n (hK458 _ _ ?_)
   refine V.flushW hz454.p4.p2.p1 (fun a467 hz468 up469 => ?_)
   have s0_470 := up469 0 _ (o4 rfl (o2 rfl (o1 rfl s0_456)))
   clear up469
   refine V.seq (fun K471 hK472 => ?_)
   refine V.seq (fun K473 hK474 => ?_)
   refine V.region (by kernel_rfl) ?_
   refine V.go (V.mv (s0_470) ?_)
   refine V.go (V.pv [(57, .pointer (some ⟨t, 0, none⟩))] ⟨(at_same hz468 rfl _), trivial⟩ (by kernel_rfl) (.pointer (some ⟨t, 0, none⟩)) (by kernel_rfl) ?_)
   refine V.go (V.pv [(58, .pointer (some ⟨t, 0, none⟩))] ⟨(at_same hz468.p1 rfl _), trivial⟩ (by kernel_rfl) (.pointer (some ⟨t, 1, none⟩)) (by kernel_rfl) ?_)
   refine V.go (V.pv [(59, .pointer (some ⟨t, 1, none⟩))] ⟨(at_same hz468.p2 rfl _), trivial⟩ (by kernel_rfl) (.pointer (some ⟨t, 1, none⟩)) (by kernel_rfl) ?_)
   refine V.go (V.ld ⟨t, 1, none⟩ (.slice (some ⟨gA, 0, none⟩) T1.a.length T1.a.length) (at_same hz468.p2.p1 rfl _) (by kernel_rfl) (hB460.at 1 rfl) ?_)
   refine V.go (V.pv [(61, .slice (some ⟨gA, 0, none⟩) T1.a.length T1.a.length)] ⟨(at_same hz468.p4 rfl _), trivial⟩ (by kernel_rfl) (.int .i64 ((T1.a.length : Nat) : Int)) (by kernel_rfl) ?_)
   refine V.go (V.asg (at_same hz468.p4.p1 rfl _) ?_)
   refine V.nil ?_
   refine V.then_n (hK474 _ _ ?_)
   refine V.flushW hz468.p4.p2.p1 (fun a475 hz476 up477 => ?_)
   have s0_478 := up477 0 _ (o4 rfl (o2 rfl (o1 rfl s0_470)))
   have s8_479 := up477 8 _ (at_same hz468.p4.p2 rfl _)
   clear up477
   refine V.seq (fun K480 hK481 => ?_)
   refine V.region (by kernel_rfl) ?_
   refine V.go (V.mv (s0_478) ?_)
   refine V.go (V.call 65 #[] #[.pointer (some ⟨t, 0, none⟩)] evf (args1 (at_same hz476 rfl _)) (Go.Proofs.enters_of Try.func65 (by kernel_rfl) rfl) (moves_M w459 t T1.seed T1.a.length T1.b.length 0 gA gB (.int .i64 (T1.moved : Int)) (.int .i64 ((T1.n : Int) - 1)) hB460) ?_)
   rintro _ w483 ⟨rfl, hF482⟩
   refine ⟨_, rfl, ?_⟩
   have hsw483 := hF482.size
   have hRA_484 := hRA_462.fr0 hF482
   have hE_485 := hE_463.tr0 hF482
   have hB384_486 := hB384_464.fr0 hF482
   have hK438_487 := hK438_465.fr0 hF482
   have hR446_488 := hR446_466.fr0 hF482
   have hB460_489 := hB460.fr0 hF482
   refine V.go (V.pv [(64, .bool true)] ⟨(at_same hz476.p1 rfl _), trivial⟩ (by kernel_rfl) (.bool false) (by kernel_rfl) ?_)
   refine V.go (V.mv (at_same hz476.p2 rfl _) ?_)
   refine V.go_off 66 (by kernel_rfl) (at_same hz476.p2.p1 rfl _) (by kernel_rfl) ?_
   refine V.go_off 66 (by kernel_rfl) (o1 rfl (at_same hz476.p2.p1 rfl _)) (by kernel_rfl) ?_
   refine V.go (V.pk_f (o2 rfl (at_same hz476.p2.p1 rfl _)) (v := (.bool false)) evc ?_)
   refine V.go (V.mv (at_same hz476.p4.p2 rfl _) ?_)
   refine V.go_off 70 (by kernel_rfl) (at_same hz476.p4.p2.p1 rfl _) (by kernel_rfl) ?_
   refine V.go_off 70 (by kernel_rfl) (o1 rfl (at_same hz476.p4.p2.p1 rfl _)) (by kernel_rfl) ?_
   refine V.go_off 70 (by kernel_rfl) (o2 rfl (at_same hz476.p4.p2.p1 rfl _)) (by kernel_rfl) ?_
   refine V.go_off 70 (by kernel_rfl) (o2 rfl (o1 rfl (at_same hz476.p4.p2.p1 rfl _))) (by kernel_rfl) ?_
   refine V.go_off 70 (by kernel_rfl) (o4 rfl (at_same hz476.p4.p2.p1 rfl _)) (by kernel_rfl) ?_
   refine V.go_off 70 (by kernel_rfl) (o4 rfl (o1 rfl (at_same hz476.p4.p2.p1 rfl _))) (by kernel_rfl) ?_
   refine V.go_off 70 (by kernel_rfl) (o4 rfl (o2 rfl (at_same hz476.p4.p2.p1 rfl _))) (by kernel_rfl) ?_
   refine V.go (V.pk_f (o4 rfl (o2 rfl (o1 rfl (at_same hz476.p4.p2.p1 rfl _)))) (v := (.bool false)) evc ?_)
   refine V.nil ?_
   refine V.then_n (hK481 _ _ ?_)
   refine V.flushW hz476.p16 (fun a490 hz491 up492 => ?_)
   have s0_493 := up492 0 _ (o16 rfl s0_478)
   have s8_494 := up492 8 _ (o16 rfl s8_479)
   have s78_495 := up492 78 _ (at_same hz476.p8.p4.p2.p1 rfl _)
   clear up492
   refine V.cond_f (s78_495) ?_
   refine V.skip ?_
   refine V.then_n (hK472 _ _ ?_)
   refine V.seq (fun K496 hK497 => ?_)
   refine V.region (by kernel_rfl) ?_
   refine V.go (V.asg evc ?_)
   refine V.nil ?_
   refine V.then_n (hK497 _ _ ?_)
   refine V.ret ?_
   refine V.ret1 hz491.p1 rfl (at_same hz491 rfl _) ?_
   have hst : delT T k = shrT (rm1T T1 k) := by (unfold delT; rw [← hT1]; unfold del1T; rw [hf, if_pos rfl])
   have hu2 : rm1T T1 k = ({ T1 with b := rmV T1.b (bkt T1.seed T1.b.length k) j, n := T1.n - 1 } : Tb Int) := by (unfold rm1T; rw [hf]; simp)
   have hup := (rm1T_ok hok1 hm1 k (by rw [hf])).1
   rw [hu2] at hup
   rw [hst, hu2]
   have hsh : shrT ({ T1 with b := rmV T1.b (bkt T1.seed T1.b.length k) j, n := T1.n - 1 } : Tb Int) = ({ T1 with b := rmV T1.b (bkt T1.seed T1.b.length k) j, n := T1.n - 1 } : Tb Int) := by (unfold shrT; rw [if_neg]; rintro ⟨h0, _⟩; exact hb1 (by first | exact h0 | (have h1 : (rmV T1.b (bkt T1.seed T1.b.length k) j).length = 0 := h0; rwa [rmV_length] at h1)))
   rw [hsh]
   exact ⟨by rw [hf], (TabM.fin (T := ({ T1 with b := rmV T1.b (bkt T1.seed T1.b.length k) j, n := T1.n - 1 } : Tb Int)) hup (fun h => hb1 (by have := congrArg List.length h; rwa [rmV_length] at this)) hB460_489 hRA_484 hR446_488 (by first | exact hlA | (simp only [List.length_set]; exact hlA)) hK438_487 (mem4 (l := (b374 :: t :: gA :: gB :: av)) (by simp) (by simp) (by simp) (by intro k hk; simp [hk])) (by first | assumption | omega) (by first | assumption | omega) (by first | assumption | omega) hpt ⟨.inl hpg.1, hpg.2⟩ ⟨.inl hph.1, hph.2⟩ rfl rfl rfl (by show ((T1.n : Int) - 1) = ((T1.n - 1 : Nat) : Int); omega) rfl rfl (rmV_length _ _ _).symm).gr3 (by omega), (hFPE.gr hE_485)⟩
end Go.Proofs.Ytalhmegjomfbaaa
