/- Walks: the reference: without, Del. -/
import Derived.Test.YtalhmegjomfbaaaProg
import Derived.Test.YtalhmegjomfbaaaRc
import Derived.Test.YtalhmegjomfbaaaTabW
import Derived.Test.YtalhmegjomfbaaaTi
namespace Go.Proofs.Ytalhmegjomfbaaa
open Go.V Go.Base
open Go.RowKit (Below)
attribute [local irreducible] Act.put Act.eval
set_option linter.unusedVariables false
set_option linter.unusedSimpArgs false
set_option maxHeartbeats 4000000 in
set_option maxRecDepth 20000 in
theorem rwithout_any (w : World) (g o c i : Nat) (xs : List (ByteArray × Int)) (hS : SlR itI (fun b => b < w.heap.size) w (.slice (some ⟨g, o, none⟩) xs.length c) xs) (hi : i < xs.length) (hc : xs.length ≤ c) (hl : xs.length ≤ 1099511627776) : Calls Try.prog 73 #[.slice (some ⟨g, o, none⟩) xs.length c, .int .i64 (i : Int)] w (fun e w' => ∃ A c', e = .returned (.slice A (xs.length - 1) c') ∧ OwR itI NoZ w' w.heap.size 60 (.slice A (xs.length - 1) c') (xs.eraseIdx i) ∧ Fr [] w w') := by
 have hF := Fr.refl [] w
 refine V.enter 15 Try.func73 rfl rfl ?_
 intro a hz ha
 have s0 : a.eval (.tmp 0) = (.slice (some ⟨g, o, none⟩) xs.length c) := ha 0 _ rfl
 have s1 : a.eval (.tmp 1) = (.int .i64 (i : Int)) := ha 1 _ rfl
 clear ha
 refine V.seq (fun K1 hK2 => ?_)
 refine V.region (by kernel_rfl) ?_
 refine V.go (V.asg evc ?_)
 refine V.nil ?_
 refine V.then_n (hK2 _ _ ?_)
 refine V.seq (fun K3 hK4 => ?_)
 refine V.plan [[], [], [], [1, 2], [0, 1, 2, 3], [], [], [6], [5, 6, 7], [0, 1, 2, 3, 4, 5, 6, 7, 8], [0, 1, 2, 3, 4, 5, 6, 7, 8, 9]] [([1, 2, 3, 5, 6, 7, 8], some (0, [])), ([], some (4, [])), ([], some (9, [])), ([10], none)] (by kernel_rfl) (by kernel_rfl) (by exact fun _ _ _ _ h => h) ?_
 simp only [Plan.wpSegs, Plan.pickAll, Plan.nth, V.L_eq]
 obtain ⟨w5, hF6e⟩ : ∃ w1, w1 = w.drew := ⟨_, rfl⟩
 rw [← hF6e]
 have hF6 : Fr [] w w5 := by rw [hF6e]; exact Fr.drew _ _
 have hsw5 : w5.heap.size = w.heap.size := by rw [hF6e]; rfl
 clear hF6e
 have hF_7 := hF.new hF6
 have hS_8 := hS.fr0 hF6
 refine V.go (V.mv (o1 rfl s0) ?_)
 refine V.go (V.mv (o2 rfl s1) ?_)
 refine V.go (V.slc (e := 60) (sz := 2) g o xs.length c 0 i c (o1 rfl (at_same hz.p1 rfl _)) rfl ⟨_, ((at_same hz.p2 rfl _)).trans (V.int_eq (by omega))⟩ rfl (by omega) (by omega) (by omega) (by kernel_rfl) (by kernel_rfl) ?_)
 intro ad9 had10 hae11
 obtain rfl := hae11 rfl
 have hS12 := hS_8.takeN (i := i) (by omega)
 refine V.go (V.mv (o4 rfl s0) ?_)
 refine V.go (V.mv (o4 rfl (o1 rfl s1)) ?_)
 refine V.go (V.pvw [(11, .int .i64 (i : Int))] ⟨(at_same hz.p4.p1 rfl _), trivial⟩ (by kernel_rfl) (.int .i64 (IntKind.i64.wrap ((i : Int) + 1))) (.int .i64 ((i : Int) + 1)) (by kernel_rfl) (V.w_i64 (by omega) (by omega)) ?_)
 refine V.go (V.slc (e := 60) (sz := 2) g o xs.length c (i + 1) xs.length c (o2 rfl (at_same hz.p4 rfl _)) ⟨_, ((at_same hz.p4.p2 rfl _)).trans (V.int_eq (by omega))⟩ ⟨rfl, rfl⟩ rfl (by omega) (by omega) (by omega) (by kernel_rfl) (by kernel_rfl) ?_)
 intro ad13 had14 hae15
 have hS16 := hS_8.dropN (i := i + 1) (by omega) (ad := ad13) (fun hq => by rw [had14 (by omega)]; rfl) (m := xs.length - (i + 1)) rfl
 refine V.nil ?_
 refine ⟨chk [(11, .int .i64 (i : Int))] ⟨(o2 rfl (at_same hz.p4.p1 rfl _)), trivial⟩ (by kernel_rfl), ?_⟩
 refine V.go (V.mk [] trivial (by kernel_rfl) [] 60 (fun b => .slice (some ⟨b, 0, none⟩) 0 0) (by kernel_rfl) ?_)
 intro w18 b17 heb17 hB19 hF20 hsb17
 have hF_21 := hF_7.new hF20
 have hS_22 := hS_8.fr0 hF20
 have hS12_23 := hS12.fr0 hF20
 have hS16_24 := hS16.fr0 hF20
 have hO25 := OwR.empty (R := itI) (base := w.heap.size) hB19 (by omega)
 refine V.nil ?_
 refine ⟨trivial, ?_⟩
 refine V.nil ?_
 refine ⟨chk [] trivial (by kernel_rfl), ?_⟩
 refine V.go (V.appS (R := itI) (at_same hz.p8 rfl _) (o4 rfl (o1 rfl (at_same hz.p2.p1 rfl _))) (by kernel_rfl) info60 (by kernel_rfl) (by decide) hO25 hS12_23 (fun _ _ h => h) (by simp only [List.length_append, List.length_nil, List.length_take, List.length_drop]; omega) (by decide) (by omega) ?_)
 intro A26 c27 w28 hO29 hF30
 have hsw28 := hF30.size
 have hF_31 := hF_21.own hF30 (own_ge hO25 (by omega))
 have hS_32 := hS_22.fr hF30 (by intro b hb hz; have := own_ge hO25 (Nat.le_refl _) b hb; (try dsimp only at hz); omega)
 have hS12_33 := hS12_23.fr hF30 (by intro b hb hz; have := own_ge hO25 (Nat.le_refl _) b hb; (try dsimp only at hz); omega)
 have hS16_34 := hS16_24.fr hF30 (by intro b hb hz; have := own_ge hO25 (Nat.le_refl _) b hb; (try dsimp only at hz); omega)
 refine V.nil ?_
 refine ⟨trivial, ?_⟩
 refine V.nil ?_
 refine ⟨chk [] trivial (by kernel_rfl), ?_⟩
 refine V.go (V.appS (R := itI) (at_same hz.p8.p1 rfl _) (o2 rfl (at_same hz.p4.p2.p1 rfl _)) (by kernel_rfl) info60 (by kernel_rfl) (by decide) hO29 hS16_34 (fun _ _ h => h) (by simp only [List.length_append, List.length_nil, List.length_take, List.length_drop]; omega) (by decide) (by omega) ?_)
 intro A35 c36 w37 hO38 hF39
 have hsw37 := hF39.size
 have hF_40 := hF_31.own hF39 (own_ge hO29 (by omega))
 have hS_41 := hS_32.fr hF39 (by intro b hb hz; have := own_ge hO29 (Nat.le_refl _) b hb; (try dsimp only at hz); omega)
 have hS12_42 := hS12_33.fr hF39 (by intro b hb hz; have := own_ge hO29 (Nat.le_refl _) b hb; (try dsimp only at hz); omega)
 have hS16_43 := hS16_34.fr hF39 (by intro b hb hz; have := own_ge hO29 (Nat.le_refl _) b hb; (try dsimp only at hz); omega)
 refine V.nil ?_
 refine ⟨trivial, ?_⟩
 refine V.go (V.asg (at_same hz.p8.p2 rfl _) ?_)
 refine V.nil ?_
 refine ⟨chk [] trivial (by kernel_rfl), ?_⟩
 refine V.then_n (hK4 _ _ ?_)
 refine V.flushW hz.p8.p4 (fun a44 hz45 up46 => ?_)
 have s4_47 := up46 4 _ (at_same hz.p8.p2.p1 rfl _)
 clear up46
 refine V.ret ?_
 refine V.ret1 hz45 rfl (s4_47) ?_
 have hl : (([]) ++ (xs.take i)) ++ (xs.drop (i + 1)) = xs.eraseIdx i := by rw [List.nil_append, List.eraseIdx_eq_take_drop_succ]
 have hn : (([]) ++ (xs.take i)).length + (xs.drop (i + 1)).length = xs.length - 1 := by simp only [List.length_append, List.length_nil, List.length_take, List.length_drop]; omega
 rw [hl, hn] at hO38
 rw [hn]
 exact ⟨_, _, rfl, hO38, hF_40⟩
set_option maxHeartbeats 4000000 in
set_option maxRecDepth 20000 in
theorem rdel_any (w : World) (H : Nat → Prop) (av : List Nat) (t : Nat) (T : Tb Int) (hT : TabX 40 42 60 itI w H av t T) (hm : T.Mv) (k : ByteArray) (hkz : k.size ≤ 9223372036854775807) (hp8 : 4 < (tbStep T).a.length → (tbStep T).a.length % 8 = 0) : Calls Try.prog 47 #[.pointer (some ⟨t, 0, none⟩), .string k] w (fun e w' => e = .returned (.bool (findT (tbStep T) k).2) ∧ TabX 40 42 60 itI w' (gr H w w') av t (delT T k) ∧ FrP (gp H av) w w') := by
 have hFP := FrP.refl (gp H av) w
 obtain ⟨hok0, hm1⟩ := tbStep_ok hT.1 hm
 obtain ⟨T1, hT1⟩ : ∃ T1, T1 = tbStep T := ⟨_, rfl⟩
 rw [← hT1] at hok0 hm1 hp8 ⊢
 refine V.enter 95 Try.func47 rfl rfl ?_
 intro a hz ha
 have s0 : a.eval (.tmp 0) = (.pointer (some ⟨t, 0, none⟩)) := ha 0 _ rfl
 have s1 : a.eval (.tmp 1) = (.string k) := ha 1 _ rfl
 clear ha
 refine V.seq (fun K1 hK2 => ?_)
 refine V.region (by kernel_rfl) ?_
 refine V.go (V.asg evc ?_)
 refine V.nil ?_
 refine V.then_n (hK2 _ _ ?_)
 refine V.seq (fun K3 hK4 => ?_)
 refine V.region (by kernel_rfl) ?_
 refine V.go (V.mv (o1 rfl s0) ?_)
 refine V.go (V.call 49 #[] #[.pointer (some ⟨t, 0, none⟩)] evf (args1 (at_same hz.p1 rfl _)) (Go.Proofs.enters_of Try.func49 (by kernel_rfl) rfl) (rstep_any w (H) (av) t (T) hT hm) ?_)
 rintro _ w7 ⟨rfl, hT5, hfp6⟩
 refine ⟨_, rfl, ?_⟩
 have hsw7 := hfp6.size
 have hFP_8 := hFP.trP hfp6 (fun k hk => .inl hk)
 have hT5q := hT5.grm (w := w) (by omega)
 rw [← hT1] at hT5q
 refine V.nil ?_
 refine V.then_n (hK4 _ _ ?_)
 refine V.seq (fun K9 hK10 => ?_)
 refine V.region (by kernel_rfl) ?_
 refine V.go (V.mv (o2 rfl (o1 rfl s0)) ?_)
 refine V.go (V.mv (o4 rfl s1) ?_)
 have hok1 := hT5q.1
 rcases findT_cases hok1 k with hf | ⟨j, hf, hj⟩ | ⟨hbn, j, hf, hj⟩
 ·
  rcases hT5q.2 with ⟨hb0, gA, vsA, hN⟩ | ⟨hb0, gA, gB, vsA, vsB, hN⟩
  ·
   have hb1 : T1.b.length = 0 := by rw [hb0]; rfl
   obtain ⟨hB, hRA, hlA, hK, hne, hpt, hpg⟩ := hN
   replace hK := hK.toH
   have hltt := hB.lt
   have hltg := hRA.lt
   have hE : FrP (gp (gr H w w7) av) w7 w7 := FrP.refl _ _
   have hK0 : ∀ k ∈ av, k < w7.heap.size := fun k hk => hK.avl k (by simp [hk])
   obtain ⟨hsd, hpa, hla, hlb, hmv, hmz, hnn, hcn, hks⟩ := (show T1.Ok from hok1)
   have hbl := hok1.bl
   have hFPE := hFP_8
   refine V.go (V.call 71 #[] #[.pointer (some ⟨t, 0, none⟩), .string k] evf (args2 (o1 rfl (at_same hz.p2.p1 rfl _)) (at_same hz.p4 rfl _)) (Go.Proofs.enters_of Try.func71 (by kernel_rfl) rfl) (by have h := rfind_any w7 (gr H w w7) (av) t T1 hT5q k hkz; rw [rfT_no hf] at h; exact h) ?_)
   rintro _ w12 ⟨rfl, hF11⟩
   refine ⟨_, rfl, ?_⟩
   have hsw12 := hF11.size
   have hB_13 := hB.fr0 hF11
   have hRA_14 := hRA.fr0 hF11
   have hK_15 := hK.fr0 hF11
   have hE_16 := hE.tr0 hF11
   refine V.go (V.mv (at_same hz.p4.p1 rfl _) ?_)
   refine V.go (V.pv [(10, .tuple #[.int .i64 (-1), .int .i64 0, .int .i64 0])] ⟨(at_same hz.p4.p2 rfl _), trivial⟩ (by kernel_rfl) (.int .i64 (-1)) (by kernel_rfl) ?_)
   refine V.go (V.pv [(10, .tuple #[.int .i64 (-1), .int .i64 0, .int .i64 0])] ⟨(o1 rfl (at_same hz.p4.p2 rfl _)), trivial⟩ (by kernel_rfl) (.int .i64 0) (by kernel_rfl) ?_)
   refine V.go (V.pv [(10, .tuple #[.int .i64 (-1), .int .i64 0, .int .i64 0])] ⟨(o2 rfl (at_same hz.p4.p2 rfl _)), trivial⟩ (by kernel_rfl) (.int .i64 0) (by kernel_rfl) ?_)
   refine V.go (V.asg (o2 rfl (at_same hz.p4.p2.p1 rfl _)) ?_)
   refine V.go (V.asg (o2 rfl (at_same hz.p8 rfl _)) ?_)
   refine V.go (V.asg (o2 rfl (at_same hz.p8.p1 rfl _)) ?_)
   refine V.nil ?_
   refine V.then_n (hK10 _ _ ?_)
   refine V.flushW hz.p8.p4.p1 (fun a17 hz18 up19 => ?_)
   have s0_20 := up19 0 _ (o8 rfl (o4 rfl (o1 rfl s0)))
   have s5_21 := up19 5 _ (o2 rfl (at_same hz.p8.p2 rfl _))
   have s6_22 := up19 6 _ (o1 rfl (at_same hz.p8.p2.p1 rfl _))
   have s7_23 := up19 7 _ (at_same hz.p8.p4 rfl _)
   clear up19
   refine V.seq (fun K24 hK25 => ?_)
   refine V.seq (fun K26 hK27 => ?_)
   refine V.region (by kernel_rfl) ?_
   refine V.go (V.mv (s5_21) ?_)
   refine V.go (V.pv [(17, .int .i64 (-1))] ⟨(at_same hz18 rfl _), trivial⟩ (by kernel_rfl) (.bool true) (by kernel_rfl) ?_)
   refine V.nil ?_
   refine V.then_n (hK27 _ _ ?_)
   refine V.cond_t (at_same hz18.p1 rfl _) ?_
   refine V.seq (fun K28 hK29 => ?_)
   refine V.region (by kernel_rfl) ?_
   refine V.go (V.asg evc ?_)
   refine V.nil ?_
   refine V.then_n (hK29 _ _ ?_)
   refine V.ret ?_
   refine V.then_r ?_
   refine V.ret1 hz18.p2.p1 rfl (at_same hz18.p2 rfl _) ?_
   have hst : delT T k = T1 := by (unfold delT; rw [← hT1]; unfold del1T; rw [hf, if_neg (by simp)])
   rw [hst]
   exact ⟨by rw [hf], (TabN.fin (T := T1) hok1 hb0 hB_13 hRA_14 (by have h := hK_15; rw [List.append_nil, List.append_nil] at h; exact h) (mem3 (l := (t :: gA :: av)) (by simp) (by simp) (by intro k hk; simp [hk])) (by first | assumption | exact Ne.symm (by assumption) | omega) hpt ⟨.inl hpg.1, hpg.2⟩ rfl rfl rfl rfl rfl).gr3 (by omega), (hFPE.gr hE_16)⟩
  ·
   have hb1 : T1.b.length ≠ 0 := fun h => hb0 (List.eq_nil_of_length_eq_zero h)
   obtain ⟨hB, hRA, hRB, hlA, hlB, hK, hne, hne2, hne3, hpt, hpg, hph⟩ := hN
   replace hK := hK.toH
   have hltt := hB.lt
   have hltg := hRA.lt
   have hltg2 := hRB.lt
   have hE : FrP (gp (gr H w w7) av) w7 w7 := FrP.refl _ _
   have hK0 : ∀ k ∈ av, k < w7.heap.size := fun k hk => hK.avl k (by simp [hk])
   obtain ⟨hsd, hpa, hla, hlb, hmv, hmz, hnn, hcn, hks⟩ := (show T1.Ok from hok1)
   have hbl := hok1.bl
   have hFPE := hFP_8
   refine V.go (V.call 71 #[] #[.pointer (some ⟨t, 0, none⟩), .string k] evf (args2 (o1 rfl (at_same hz.p2.p1 rfl _)) (at_same hz.p4 rfl _)) (Go.Proofs.enters_of Try.func71 (by kernel_rfl) rfl) (by have h := rfind_any w7 (gr H w w7) (av) t T1 hT5q k hkz; rw [rfT_no hf] at h; exact h) ?_)
   rintro _ w31 ⟨rfl, hF30⟩
   refine ⟨_, rfl, ?_⟩
   have hsw31 := hF30.size
   have hB_32 := hB.fr0 hF30
   have hRA_33 := hRA.fr0 hF30
   have hRB_34 := hRB.fr0 hF30
   have hK_35 := hK.fr0 hF30
   have hE_36 := hE.tr0 hF30
   refine V.go (V.mv (at_same hz.p4.p1 rfl _) ?_)
   refine V.go (V.pv [(10, .tuple #[.int .i64 (-1), .int .i64 0, .int .i64 0])] ⟨(at_same hz.p4.p2 rfl _), trivial⟩ (by kernel_rfl) (.int .i64 (-1)) (by kernel_rfl) ?_)
   refine V.go (V.pv [(10, .tuple #[.int .i64 (-1), .int .i64 0, .int .i64 0])] ⟨(o1 rfl (at_same hz.p4.p2 rfl _)), trivial⟩ (by kernel_rfl) (.int .i64 0) (by kernel_rfl) ?_)
   refine V.go (V.pv [(10, .tuple #[.int .i64 (-1), .int .i64 0, .int .i64 0])] ⟨(o2 rfl (at_same hz.p4.p2 rfl _)), trivial⟩ (by kernel_rfl) (.int .i64 0) (by kernel_rfl) ?_)
   refine V.go (V.asg (o2 rfl (at_same hz.p4.p2.p1 rfl _)) ?_)
   refine V.go (V.asg (o2 rfl (at_same hz.p8 rfl _)) ?_)
   refine V.go (V.asg (o2 rfl (at_same hz.p8.p1 rfl _)) ?_)
   refine V.nil ?_
   refine V.then_n (hK10 _ _ ?_)
   refine V.flushW hz.p8.p4.p1 (fun a37 hz38 up39 => ?_)
   have s0_40 := up39 0 _ (o8 rfl (o4 rfl (o1 rfl s0)))
   have s5_41 := up39 5 _ (o2 rfl (at_same hz.p8.p2 rfl _))
   have s6_42 := up39 6 _ (o1 rfl (at_same hz.p8.p2.p1 rfl _))
   have s7_43 := up39 7 _ (at_same hz.p8.p4 rfl _)
   clear up39
   refine V.seq (fun K44 hK45 => ?_)
   refine V.seq (fun K46 hK47 => ?_)
   refine V.region (by kernel_rfl) ?_
   refine V.go (V.mv (s5_41) ?_)
   refine V.go (V.pv [(17, .int .i64 (-1))] ⟨(at_same hz38 rfl _), trivial⟩ (by kernel_rfl) (.bool true) (by kernel_rfl) ?_)
   refine V.nil ?_
   refine V.then_n (hK47 _ _ ?_)
   refine V.cond_t (at_same hz38.p1 rfl _) ?_
   refine V.seq (fun K48 hK49 => ?_)
   refine V.region (by kernel_rfl) ?_
   refine V.go (V.asg evc ?_)
   refine V.nil ?_
   refine V.then_n (hK49 _ _ ?_)
   refine V.ret ?_
   refine V.then_r ?_
   refine V.ret1 hz38.p2.p1 rfl (at_same hz38.p2 rfl _) ?_
   have hst : delT T k = T1 := by (unfold delT; rw [← hT1]; unfold del1T; rw [hf, if_neg (by simp)])
   rw [hst]
   exact ⟨by rw [hf], (TabM.fin (T := T1) hok1 hb0 hB_32 hRA_33 hRB_34 (by first | exact hlA | (simp only [List.length_set]; exact hlA)) hK_35 (mem4 (l := (t :: gA :: gB :: av)) (by simp) (by simp) (by simp) (by intro k hk; simp [hk])) (by first | assumption | omega) (by first | assumption | omega) (by first | assumption | omega) hpt ⟨.inl hpg.1, hpg.2⟩ ⟨.inl hph.1, hph.2⟩ rfl rfl rfl rfl rfl rfl rfl).gr3 (by omega), (hFPE.gr hE_36)⟩
 ·
  rcases hT5q.2 with ⟨hb0, gA, vsA, hN⟩ | ⟨hb0, gA, gB, vsA, vsB, hN⟩
  ·
   have hb1 : T1.b.length = 0 := by rw [hb0]; rfl
   obtain ⟨hB, hRA, hlA, hK, hne, hpt, hpg⟩ := hN
   replace hK := hK.toH
   have hltt := hB.lt
   have hltg := hRA.lt
   have hE : FrP (gp (gr H w w7) av) w7 w7 := FrP.refl _ _
   have hK0 : ∀ k ∈ av, k < w7.heap.size := fun k hk => hK.avl k (by simp [hk])
   obtain ⟨hsd, hpa, hla, hlb, hmv, hmz, hnn, hcn, hks⟩ := (show T1.Ok from hok1)
   have hbl := hok1.bl
   have hFPE := hFP_8
   refine V.go (V.call 71 #[] #[.pointer (some ⟨t, 0, none⟩), .string k] evf (args2 (o1 rfl (at_same hz.p2.p1 rfl _)) (at_same hz.p4 rfl _)) (Go.Proofs.enters_of Try.func71 (by kernel_rfl) rfl) (by have h := rfind_any w7 (gr H w w7) (av) t T1 hT5q k hkz; rw [rfT_yes hf] at h; exact h) ?_)
   rintro _ w51 ⟨rfl, hF50⟩
   refine ⟨_, rfl, ?_⟩
   have hsw51 := hF50.size
   have hB_52 := hB.fr0 hF50
   have hRA_53 := hRA.fr0 hF50
   have hK_54 := hK.fr0 hF50
   have hE_55 := hE.tr0 hF50
   have hbkl := bkt_lt T1.seed k (n := T1.a.length) (by omega)
   have hbq := hbl (bkt T1.seed T1.a.length k)
   refine V.go (V.mv (at_same hz.p4.p1 rfl _) ?_)
   refine V.go (V.pv [(10, .tuple #[.int .i64 0, .int .i64 ((bkt T1.seed T1.a.length k : Nat) : Int), .int .i64 (j : Int)])] ⟨(at_same hz.p4.p2 rfl _), trivial⟩ (by kernel_rfl) (.int .i64 0) (by kernel_rfl) ?_)
   refine V.go (V.pv [(10, .tuple #[.int .i64 0, .int .i64 ((bkt T1.seed T1.a.length k : Nat) : Int), .int .i64 (j : Int)])] ⟨(o1 rfl (at_same hz.p4.p2 rfl _)), trivial⟩ (by kernel_rfl) (.int .i64 ((bkt T1.seed T1.a.length k : Nat) : Int)) (by kernel_rfl) ?_)
   refine V.go (V.pv [(10, .tuple #[.int .i64 0, .int .i64 ((bkt T1.seed T1.a.length k : Nat) : Int), .int .i64 (j : Int)])] ⟨(o2 rfl (at_same hz.p4.p2 rfl _)), trivial⟩ (by kernel_rfl) (.int .i64 (j : Int)) (by kernel_rfl) ?_)
   refine V.go (V.asg (o2 rfl (at_same hz.p4.p2.p1 rfl _)) ?_)
   refine V.go (V.asg (o2 rfl (at_same hz.p8 rfl _)) ?_)
   refine V.go (V.asg (o2 rfl (at_same hz.p8.p1 rfl _)) ?_)
   refine V.nil ?_
   refine V.then_n (hK10 _ _ ?_)
   refine V.flushW hz.p8.p4.p1 (fun a56 hz57 up58 => ?_)
   have s0_59 := up58 0 _ (o8 rfl (o4 rfl (o1 rfl s0)))
   have s5_60 := up58 5 _ (o2 rfl (at_same hz.p8.p2 rfl _))
   have s6_61 := up58 6 _ (o1 rfl (at_same hz.p8.p2.p1 rfl _))
   have s7_62 := up58 7 _ (at_same hz.p8.p4 rfl _)
   clear up58
   refine V.seq (fun K63 hK64 => ?_)
   refine V.seq (fun K65 hK66 => ?_)
   refine V.region (by kernel_rfl) ?_
   refine V.go (V.mv (s5_60) ?_)
   refine V.go (V.pv [(17, .int .i64 0)] ⟨(at_same hz57 rfl _), trivial⟩ (by kernel_rfl) (.bool false) (by kernel_rfl) ?_)
   refine V.nil ?_
   refine V.then_n (hK66 _ _ ?_)
   refine V.cond_f (at_same hz57.p1 rfl _) ?_
   refine V.skip ?_
   refine V.then_n (hK64 _ _ ?_)
   refine V.seq (fun K67 hK68 => ?_)
   refine V.seq (fun K69 hK70 => ?_)
   refine V.region (by kernel_rfl) ?_
   refine V.go (V.mv (o2 rfl s5_60) ?_)
   refine V.go (V.pv [(19, .int .i64 0)] ⟨(at_same hz57.p2 rfl _), trivial⟩ (by kernel_rfl) (.bool true) (by kernel_rfl) ?_)
   refine V.nil ?_
   refine V.then_n (hK70 _ _ ?_)
   refine V.flushW hz57.p4 (fun a71 hz72 up73 => ?_)
   have s0_74 := up73 0 _ (o4 rfl s0_59)
   have s6_75 := up73 6 _ (o4 rfl s6_61)
   have s7_76 := up73 7 _ (o4 rfl s7_62)
   have s20_77 := up73 20 _ (at_same hz57.p2.p1 rfl _)
   clear up73
   refine V.cond_t (s20_77) ?_
   refine V.plan [[], [0], [0, 1], [0, 1, 2], [], [], [5], [5, 6], [5, 6, 7], [], [5, 6, 7, 8, 9], [5, 6, 7, 8, 9, 10], [], [5, 6, 7, 8, 9, 10, 11, 12], [0, 1, 2, 3, 4, 5, 6, 7, 8, 9, 10, 11, 12, 13], [0, 1, 2, 3, 4, 5, 6, 7, 8, 9, 10, 11, 12, 13, 14]] [([0, 1, 2, 3, 4, 5, 6, 7, 8, 9, 10, 11, 12], some (13, [3])), ([14], some (15, [])), ([], none)] (by kernel_rfl) (by kernel_rfl) (by exact fun _ _ _ _ h => h) ?_
   simp only [Plan.wpSegs, Plan.pickAll, Plan.nth, V.L_eq]
   obtain ⟨w78, hF79e⟩ : ∃ w1, w1 = w51.drew := ⟨_, rfl⟩
   rw [← hF79e]
   have hF79 : Fr [] w51 w78 := by rw [hF79e]; exact Fr.drew _ _
   have hsw78 : w78.heap.size = w51.heap.size := by rw [hF79e]; rfl
   clear hF79e
   have hB_80 := hB_52.fr0 hF79
   have hRA_81 := hRA_53.fr0 hF79
   have hK_82 := hK_54.fr0 hF79
   have hE_83 := hE_55.tr0 hF79
   refine V.go (V.mv (s0_74) ?_)
   refine V.go (V.pv [(21, .pointer (some ⟨t, 0, none⟩))] ⟨(at_same hz72 rfl _), trivial⟩ (by kernel_rfl) (.pointer (some ⟨t, 0, none⟩)) (by kernel_rfl) ?_)
   refine V.go (V.pv [(22, .pointer (some ⟨t, 0, none⟩))] ⟨(at_same hz72.p1 rfl _), trivial⟩ (by kernel_rfl) (.pointer (some ⟨t, 1, none⟩)) (by kernel_rfl) ?_)
   refine V.go (V.ld ⟨t, 1, none⟩ (.slice (some ⟨gA, 0, none⟩) T1.a.length T1.a.length) (at_same hz72.p2 rfl _) (by kernel_rfl) (hB_80.at 1 rfl) ?_)
   refine V.go (V.mv (o4 rfl s6_75) ?_)
   refine V.go (V.mv (o4 rfl (o1 rfl s0_74)) ?_)
   refine V.go (V.pv [(26, .pointer (some ⟨t, 0, none⟩))] ⟨(at_same hz72.p4.p1 rfl _), trivial⟩ (by kernel_rfl) (.pointer (some ⟨t, 0, none⟩)) (by kernel_rfl) ?_)
   refine V.go (V.pv [(27, .pointer (some ⟨t, 0, none⟩))] ⟨(at_same hz72.p4.p2 rfl _), trivial⟩ (by kernel_rfl) (.pointer (some ⟨t, 1, none⟩)) (by kernel_rfl) ?_)
   refine V.go (V.ld ⟨t, 1, none⟩ (.slice (some ⟨gA, 0, none⟩) T1.a.length T1.a.length) (at_same hz72.p4.p2.p1 rfl _) (by kernel_rfl) (hB_80.at 1 rfl) ?_)
   refine V.go (V.mv (o8 rfl (o1 rfl s6_75)) ?_)
   refine V.go (V.ixa gA 0 T1.a.length T1.a.length .i64 ((bkt T1.seed T1.a.length k : Nat) : Int) 1 (o1 rfl (at_same hz72.p8 rfl _)) (at_same hz72.p8.p1 rfl _) (by omega) (by omega) (by kernel_rfl) ?_)
   obtain ⟨A84, c85, hv86⟩ := hK_82.getA hlA (i := (bkt T1.seed T1.a.length k)) (by omega) nilS
   refine V.go (V.ld ⟨gA, 0 + ((bkt T1.seed T1.a.length k : Nat) : Int).toNat * 1, none⟩ (.slice A84 ((T1.a.getD (bkt T1.seed T1.a.length k) []).length) c85) (at_same hz72.p8.p2 rfl _) (by kernel_rfl) ((hRA_81.at (bkt T1.seed T1.a.length k) nilS (by omega)).trans (congrArg some hv86)) ?_)
   have hS87 := hK_82.slA hlA (i := (bkt T1.seed T1.a.length k)) (by omega) hv86
   refine V.go (V.mv (o8 rfl (o4 rfl s7_76)) ?_)
   refine V.nil ?_
   refine ⟨chk [(21, .pointer (some ⟨t, 0, none⟩)), (26, .pointer (some ⟨t, 0, none⟩))] ⟨(o8 rfl (o4 rfl (at_same hz72 rfl _))), (o4 rfl (o2 rfl (o1 rfl (at_same hz72.p4.p1 rfl _)))), trivial⟩ (by kernel_rfl), ?_⟩
   obtain ⟨g95, o96, hAe, _, _⟩ := hS87.addr (by omega)
   have hSz93 := hS87.zone (Z' := fun b => b < w78.heap.size) (fun b hb _ => hb)
   rw [hAe] at hSz93
   have hA94 := hS87.cap
   refine V.go (V.call 73 #[] #[.slice A84 ((T1.a.getD (bkt T1.seed T1.a.length k) []).length) c85, .int .i64 (j : Int)] evf (args2 (o1 rfl (at_same hz72.p8.p2.p1 rfl _)) (at_same hz72.p8.p4 rfl _)) (Go.Proofs.enters_of Try.func73 (by kernel_rfl) rfl) (by (rw [hAe]; exact rwithout_any w78 g95 o96 c85 j (T1.a.getD (bkt T1.seed T1.a.length k) []) hSz93 (by omega) hA94 (by omega))) ?_)
   rintro _ w97 ⟨A90, c91, rfl, hOr88, hF89⟩
   refine ⟨_, rfl, ?_⟩
   have hsw97 := hF89.size
   have hB_98 := hB_80.fr0 hF89
   have hRA_99 := hRA_81.fr0 hF89
   have hE_100 := hE_83.tr0 hF89
   have hS87_101 := hS87.fr0 hF89
   have hK92 := hK_82.newA hlA (i := (bkt T1.seed T1.a.length k)) (by omega) hF89 hOr88 (fun k hk => .inr (by omega))
   refine V.nil ?_
   refine ⟨(fun _ => held_blk (n := 1) (hx := (o8 rfl (o2 rfl (at_same hz72.p2 rfl _)))) hB_80 hB_98 (by kernel_rfl) rfl (by simp only [List.length]; omega)), ?_⟩
   refine V.go (V.ixa gA 0 T1.a.length T1.a.length .i64 ((bkt T1.seed T1.a.length k : Nat) : Int) 1 (o8 rfl (o2 rfl (at_same hz72.p2.p1 rfl _))) (o8 rfl (o1 rfl (at_same hz72.p4 rfl _))) (by omega) (by omega) (by kernel_rfl) ?_)
   refine V.nil ?_
   refine ⟨chk [] trivial (by kernel_rfl), ?_⟩
   refine V.go (V.strow (enc := idV) gA (((bkt T1.seed T1.a.length k : Nat) : Int).toNat) (.slice A90 ((T1.a.getD (bkt T1.seed T1.a.length k) []).length - 1) c91) (at_same hz72.p8.p4.p2 rfl _) (o1 rfl (at_same hz72.p8.p4.p1 rfl _)) rfl rfl (by kernel_rfl) hRA_99 (by first | omega | (simp only [List.length_set, List.length_replicate]; omega)) ?_)
   intro w102 hR103 hF104 hsw102
   have hB_105 := hB_98.fr1 hF104 (by omega)
   have hE_106 := hE_100.tr hF104 (by intro k hk; simp only [List.mem_singleton] at hk; subst hk; first | exact .inl (by assumption) | exact .inr (by omega) | exact .inl (.inl rfl))
   have hK92_107 := hK92.fr hF104 (by simp)
   refine V.nil ?_
   refine ⟨trivial, ?_⟩
   refine V.nil ?_
   refine ⟨chk [] trivial (by kernel_rfl), ?_⟩
   refine V.then_n (hK68 _ _ ?_)
   refine V.flushW hz72.p8.p4.p2.p1 (fun a108 hz109 up110 => ?_)
   have s0_111 := up110 0 _ (o8 rfl (o4 rfl (o2 rfl (o1 rfl s0_74))))
   clear up110
   refine V.seq (fun K112 hK113 => ?_)
   refine V.region (by kernel_rfl) ?_
   refine V.go (V.mv (s0_111) ?_)
   refine V.go (V.pv [(51, .pointer (some ⟨t, 0, none⟩))] ⟨(at_same hz109 rfl _), trivial⟩ (by kernel_rfl) (.pointer (some ⟨t, 0, none⟩)) (by kernel_rfl) ?_)
   refine V.go (V.pv [(52, .pointer (some ⟨t, 0, none⟩))] ⟨(at_same hz109.p1 rfl _), trivial⟩ (by kernel_rfl) (.pointer (some ⟨t, 4, none⟩)) (by kernel_rfl) ?_)
   refine V.go (V.ld ⟨t, 4, none⟩ (.int .i64 (T1.n : Int)) (at_same hz109.p2 rfl _) (by kernel_rfl) (hB_105.at 4 rfl) ?_)
   refine V.go (V.pvw [(54, .int .i64 (T1.n : Int))] ⟨(at_same hz109.p2.p1 rfl _), trivial⟩ (by kernel_rfl) (.int .i64 (IntKind.i64.wrap ((T1.n : Int) - 1))) (.int .i64 ((T1.n : Int) - 1)) (by kernel_rfl) (V.w_i64 (by omega) (by omega)) ?_)
   refine V.go (V.pv [(51, .pointer (some ⟨t, 0, none⟩))] ⟨(o4 rfl (at_same hz109 rfl _)), trivial⟩ (by kernel_rfl) (.pointer (some ⟨t, 0, none⟩)) (by kernel_rfl) ?_)
   refine V.go (V.pv [(56, .pointer (some ⟨t, 0, none⟩))] ⟨(at_same hz109.p4.p1 rfl _), trivial⟩ (by kernel_rfl) (.pointer (some ⟨t, 4, none⟩)) (by kernel_rfl) ?_)
   refine V.go (V.stn t 4 (.int .i64 ((T1.n : Int) - 1)) [.int .i64 ((T1.n : Int) - 1)] (at_same hz109.p4.p2 rfl _) (o2 rfl (at_same hz109.p4 rfl _)) rfl rfl (by kernel_rfl) hB_105 (by simp) [.int .u64 (T1.seed : Int), .slice (some ⟨gA, 0, none⟩) T1.a.length T1.a.length, .slice none 0 0, .int .i64 (T1.moved : Int), .int .i64 ((T1.n : Int) - 1)] rfl ?_)
   intro w114 hB115 hF116 hsw114
   have hE_117 := hE_106.tr hF116 (by intro k hk; simp only [List.mem_singleton] at hk; subst hk; first | exact .inl (by assumption) | exact .inr (by omega) | exact .inl (.inl rfl))
   have hK92_118 := hK92_107.fr hF116 (by simp)
   have hR103_119 := hR103.fr1 hF116 (by omega)
   refine V.nil ?_
   refine V.then_n (hK113 _ _ ?_)
   refine V.flushW hz109.p4.p2.p1 (fun a120 hz121 up122 => ?_)
   have s0_123 := up122 0 _ (o4 rfl (o2 rfl (o1 rfl s0_111)))
   clear up122
   refine V.seq (fun K124 hK125 => ?_)
   refine V.seq (fun K126 hK127 => ?_)
   refine V.plan [[], [0], [0, 1], [0, 1, 2], [0, 1, 2, 3], [0, 1, 2, 3, 4], [0, 1, 2, 3, 4, 5], [0, 1, 2, 3, 4, 5, 6], [0, 1, 2, 3, 4, 5, 6, 7], [0, 1, 2, 3, 4, 5, 6, 7, 8], [0, 1, 2, 3, 4, 5, 6, 7, 8, 9], [0, 1, 2, 3, 4, 5, 6, 7, 8, 9, 10], [0, 1, 2, 3, 4, 5, 6, 7, 8, 9, 10, 11], [0, 1, 2, 3, 4, 5, 6, 7, 8, 9, 10, 11, 12], [0, 1, 2, 3, 4, 5, 6, 7, 8, 9, 10, 11, 12, 13], [0, 1, 2, 3, 4, 5, 6, 7, 8, 9, 10, 11, 12, 13, 14], [0, 1, 2, 3, 4, 5, 6, 7, 8, 9, 10, 11, 12, 13, 14, 15], [0, 1, 2, 3, 4, 5, 6, 7, 8, 9, 10, 11, 12, 13, 14, 15, 16], [0, 1, 2, 3, 4, 5, 6, 7, 8, 9, 10, 11, 12, 13, 14, 15, 16, 17], [0, 1, 2, 3, 4, 5, 6, 7, 8, 9, 10, 11, 12, 13, 14, 15, 16, 17, 18], [0, 1, 2, 3, 4, 5, 6, 7, 8, 9, 10, 11, 12, 13, 14], [0, 1, 2, 3, 4, 5, 6, 7, 8, 9, 10, 11, 12, 13, 14, 20], [0, 1, 2, 3, 4, 5, 6, 7, 8, 9, 10, 11, 12, 13, 14, 20, 21], [0, 1, 2, 3, 4, 5, 6, 7, 8, 9, 10, 11, 12, 13, 14, 20, 21, 22], [0, 1, 2, 3, 4, 5, 6, 7, 8, 9, 10, 11, 12, 13, 14, 20, 21, 22, 23], [0, 1, 2, 3, 4, 5, 6, 7, 8, 9, 10, 11, 12, 13, 14, 15, 16, 17, 18, 19, 20, 21, 22, 23, 24], [0, 1, 2, 3, 4, 5, 6, 7, 8, 9, 10, 11, 12, 13, 14, 15, 16, 17, 18, 19, 20, 21, 22, 23, 24, 25]] [([0, 1, 2, 3, 4, 5, 6, 7, 8, 9, 10, 11, 12, 13, 14, 15, 16, 17, 18, 19, 20, 21, 22, 23, 24, 25, 26], none)] (by kernel_rfl) (by kernel_rfl) (by exact fun _ _ _ _ h => h) ?_
   simp only [Plan.wpSegs, Plan.pickAll, Plan.nth, V.L_eq]
   obtain ⟨w128, hF129e⟩ : ∃ w1, w1 = w114.drew := ⟨_, rfl⟩
   rw [← hF129e]
   have hF129 : Fr [] w114 w128 := by rw [hF129e]; exact Fr.drew _ _
   have hsw128 : w128.heap.size = w114.heap.size := by rw [hF129e]; rfl
   clear hF129e
   have hE_130 := hE_117.tr0 hF129
   have hK92_131 := hK92_118.fr0 hF129
   have hR103_132 := hR103_119.fr0 hF129
   have hB115_133 := hB115.fr0 hF129
   refine V.go (V.mv (s0_123) ?_)
   refine V.go (V.pv [(58, .pointer (some ⟨t, 0, none⟩))] ⟨(at_same hz121 rfl _), trivial⟩ (by kernel_rfl) (.pointer (some ⟨t, 0, none⟩)) (by kernel_rfl) ?_)
   refine V.go (V.pv [(59, .pointer (some ⟨t, 0, none⟩))] ⟨(at_same hz121.p1 rfl _), trivial⟩ (by kernel_rfl) (.pointer (some ⟨t, 2, none⟩)) (by kernel_rfl) ?_)
   refine V.go (V.ld ⟨t, 2, none⟩ (.slice none 0 0) (at_same hz121.p2 rfl _) (by kernel_rfl) (hB115_133.at 2 rfl) ?_)
   refine V.go (V.pv [(61, .slice none 0 0)] ⟨(at_same hz121.p2.p1 rfl _), trivial⟩ (by kernel_rfl) (.int .i64 0) (by kernel_rfl) ?_)
   refine V.go (V.pv [(62, .int .i64 0)] ⟨(at_same hz121.p4 rfl _), trivial⟩ (by kernel_rfl) (.bool true) (by kernel_rfl) ?_)
   refine V.go (V.mv (at_same hz121.p4.p1 rfl _) ?_)
   refine V.go_on 64 (by kernel_rfl) (at_same hz121.p4.p2 rfl _) (V.mv (o4 rfl (o2 rfl (o1 rfl s0_123))) ?_)
   refine V.go_on 64 (by kernel_rfl) (o1 rfl (at_same hz121.p4.p2 rfl _)) (V.pv [(65, .pointer (some ⟨t, 0, none⟩))] ⟨(at_same hz121.p4.p2.p1 rfl _), trivial⟩ (by kernel_rfl) (.pointer (some ⟨t, 0, none⟩)) (by kernel_rfl) ?_)
   refine V.go_on 64 (by kernel_rfl) (o2 rfl (at_same hz121.p4.p2 rfl _)) (V.pv [(66, .pointer (some ⟨t, 0, none⟩))] ⟨(at_same hz121.p8 rfl _), trivial⟩ (by kernel_rfl) (.pointer (some ⟨t, 1, none⟩)) (by kernel_rfl) ?_)
   refine V.go_on 64 (by kernel_rfl) (o2 rfl (o1 rfl (at_same hz121.p4.p2 rfl _))) (V.ld ⟨t, 1, none⟩ (.slice (some ⟨gA, 0, none⟩) T1.a.length T1.a.length) (at_same hz121.p8.p1 rfl _) (by kernel_rfl) (hB115_133.at 1 rfl) ?_)
   refine V.go_on 64 (by kernel_rfl) (o4 rfl (at_same hz121.p4.p2 rfl _)) (V.pv [(68, .slice (some ⟨gA, 0, none⟩) T1.a.length T1.a.length)] ⟨(at_same hz121.p8.p2 rfl _), trivial⟩ (by kernel_rfl) (.int .i64 ((T1.a.length : Nat) : Int)) (by kernel_rfl) ?_)
   refine V.go_on 64 (by kernel_rfl) (o4 rfl (o1 rfl (at_same hz121.p4.p2 rfl _))) (V.pv [(69, .int .i64 ((T1.a.length : Nat) : Int))] ⟨(at_same hz121.p8.p2.p1 rfl _), trivial⟩ (by kernel_rfl) (.bool (decide (((T1.a.length : Nat) : Int) > 4))) (by kernel_rfl) ?_)
   refine V.go (V.pk_t (o4 rfl (o2 rfl (at_same hz121.p4.p2 rfl _))) (v := (.bool (decide (((T1.a.length : Nat) : Int) > 4)))) (at_same hz121.p8.p4 rfl _) ?_)
   refine V.go (V.mv (at_same hz121.p8.p4.p1 rfl _) ?_)
   by_cases hg134 : ((T1.a.length : Nat) : Int) > 4
   ·
    refine V.go_on 72 (by kernel_rfl) (((at_same hz121.p8.p4.p2 rfl _ : Act.eval _ _ = (.bool (decide (((T1.a.length : Nat) : Int) > 4))))).trans (dt hg134)) (V.mv (o8 rfl (o4 rfl (o2 rfl (o1 rfl s0_123)))) ?_)
    refine V.go_on 72 (by kernel_rfl) (((o1 rfl (at_same hz121.p8.p4.p2 rfl _) : Act.eval _ _ = (.bool (decide (((T1.a.length : Nat) : Int) > 4))))).trans (dt hg134)) (V.pv [(73, .pointer (some ⟨t, 0, none⟩))] ⟨(at_same hz121.p8.p4.p2.p1 rfl _), trivial⟩ (by kernel_rfl) (.pointer (some ⟨t, 0, none⟩)) (by kernel_rfl) ?_)
    refine V.go_on 72 (by kernel_rfl) (((o2 rfl (at_same hz121.p8.p4.p2 rfl _) : Act.eval _ _ = (.bool (decide (((T1.a.length : Nat) : Int) > 4))))).trans (dt hg134)) (V.pv [(74, .pointer (some ⟨t, 0, none⟩))] ⟨(at_same hz121.p16 rfl _), trivial⟩ (by kernel_rfl) (.pointer (some ⟨t, 4, none⟩)) (by kernel_rfl) ?_)
    refine V.go_on 72 (by kernel_rfl) (((o2 rfl (o1 rfl (at_same hz121.p8.p4.p2 rfl _)) : Act.eval _ _ = (.bool (decide (((T1.a.length : Nat) : Int) > 4))))).trans (dt hg134)) (V.ld ⟨t, 4, none⟩ (.int .i64 ((T1.n : Int) - 1)) (at_same hz121.p16.p1 rfl _) (by kernel_rfl) (hB115_133.at 4 rfl) ?_)
    refine V.go_on 72 (by kernel_rfl) (((o4 rfl (at_same hz121.p8.p4.p2 rfl _) : Act.eval _ _ = (.bool (decide (((T1.a.length : Nat) : Int) > 4))))).trans (dt hg134)) (V.pvw [(76, .int .i64 ((T1.n : Int) - 1))] ⟨(at_same hz121.p16.p2 rfl _), trivial⟩ (by kernel_rfl) (.int .i64 (IntKind.i64.wrap (((T1.n : Int) - 1) * 8))) (.int .i64 (((T1.n : Int) - 1) * 8)) (by kernel_rfl) (V.w_i64 (by omega) (by omega)) ?_)
    refine V.go_on 72 (by kernel_rfl) (((o4 rfl (o1 rfl (at_same hz121.p8.p4.p2 rfl _)) : Act.eval _ _ = (.bool (decide (((T1.a.length : Nat) : Int) > 4))))).trans (dt hg134)) (V.mv (o16 rfl (o4 rfl s0_123)) ?_)
    refine V.go_on 72 (by kernel_rfl) (((o4 rfl (o2 rfl (at_same hz121.p8.p4.p2 rfl _)) : Act.eval _ _ = (.bool (decide (((T1.a.length : Nat) : Int) > 4))))).trans (dt hg134)) (V.pv [(78, .pointer (some ⟨t, 0, none⟩))] ⟨(at_same hz121.p16.p4 rfl _), trivial⟩ (by kernel_rfl) (.pointer (some ⟨t, 0, none⟩)) (by kernel_rfl) ?_)
    refine V.go_on 72 (by kernel_rfl) (((o4 rfl (o2 rfl (o1 rfl (at_same hz121.p8.p4.p2 rfl _))) : Act.eval _ _ = (.bool (decide (((T1.a.length : Nat) : Int) > 4))))).trans (dt hg134)) (V.pv [(79, .pointer (some ⟨t, 0, none⟩))] ⟨(at_same hz121.p16.p4.p1 rfl _), trivial⟩ (by kernel_rfl) (.pointer (some ⟨t, 1, none⟩)) (by kernel_rfl) ?_)
    refine V.go_on 72 (by kernel_rfl) (((o8 rfl (at_same hz121.p8.p4.p2 rfl _) : Act.eval _ _ = (.bool (decide (((T1.a.length : Nat) : Int) > 4))))).trans (dt hg134)) (V.ld ⟨t, 1, none⟩ (.slice (some ⟨gA, 0, none⟩) T1.a.length T1.a.length) (at_same hz121.p16.p4.p2 rfl _) (by kernel_rfl) (hB115_133.at 1 rfl) ?_)
    refine V.go_on 72 (by kernel_rfl) (((o8 rfl (o1 rfl (at_same hz121.p8.p4.p2 rfl _)) : Act.eval _ _ = (.bool (decide (((T1.a.length : Nat) : Int) > 4))))).trans (dt hg134)) (V.pv [(81, .slice (some ⟨gA, 0, none⟩) T1.a.length T1.a.length)] ⟨(at_same hz121.p16.p4.p2.p1 rfl _), trivial⟩ (by kernel_rfl) (.int .i64 ((T1.a.length : Nat) : Int)) (by kernel_rfl) ?_)
    refine V.flushL hz121.p16.p8.p1 (fun a135 hz136 up137 => ?_)
    have s0_138 := up137 0 _ (o16 rfl (o8 rfl (o1 rfl s0_123)))
    have s58_139 := up137 58 _ (o16 rfl (o8 rfl (at_same hz121 rfl _)))
    have s59_140 := up137 59 _ (o16 rfl (o4 rfl (o2 rfl (o1 rfl (at_same hz121.p1 rfl _)))))
    have s60_141 := up137 60 _ (o16 rfl (o4 rfl (o2 rfl (at_same hz121.p2 rfl _))))
    have s61_142 := up137 61 _ (o16 rfl (o4 rfl (o1 rfl (at_same hz121.p2.p1 rfl _))))
    have s62_143 := up137 62 _ (o16 rfl (o4 rfl (at_same hz121.p4 rfl _)))
    have s63_144 := up137 63 _ (o16 rfl (o2 rfl (o1 rfl (at_same hz121.p4.p1 rfl _))))
    have s64_145 := up137 64 _ (o16 rfl (o2 rfl (at_same hz121.p4.p2 rfl _)))
    have s65_146 := up137 65 _ (o16 rfl (o1 rfl (at_same hz121.p4.p2.p1 rfl _)))
    have s66_147 := up137 66 _ (o16 rfl (at_same hz121.p8 rfl _))
    have s67_148 := up137 67 _ (o8 rfl (o4 rfl (o2 rfl (o1 rfl (at_same hz121.p8.p1 rfl _)))))
    have s68_149 := up137 68 _ (o8 rfl (o4 rfl (o2 rfl (at_same hz121.p8.p2 rfl _))))
    have s69_150 := up137 69 _ (o8 rfl (o4 rfl (o1 rfl (at_same hz121.p8.p2.p1 rfl _))))
    have s70_151 := up137 70 _ (o8 rfl (o4 rfl (at_same hz121.p8.p4 rfl _)))
    have s71_152 := up137 71 _ (o8 rfl (o2 rfl (o1 rfl (at_same hz121.p8.p4.p1 rfl _))))
    have s72_153 := up137 72 _ (o8 rfl (o2 rfl (at_same hz121.p8.p4.p2 rfl _)))
    have s73_154 := up137 73 _ (o8 rfl (o1 rfl (at_same hz121.p8.p4.p2.p1 rfl _)))
    have s74_155 := up137 74 _ (o8 rfl (at_same hz121.p16 rfl _))
    have s75_156 := up137 75 _ (o4 rfl (o2 rfl (o1 rfl (at_same hz121.p16.p1 rfl _))))
    have s76_157 := up137 76 _ (o4 rfl (o2 rfl (at_same hz121.p16.p2 rfl _)))
    have s77_158 := up137 77 _ (o4 rfl (o1 rfl (at_same hz121.p16.p2.p1 rfl _)))
    have s78_159 := up137 78 _ (o4 rfl (at_same hz121.p16.p4 rfl _))
    have s79_160 := up137 79 _ (o2 rfl (o1 rfl (at_same hz121.p16.p4.p1 rfl _)))
    have s80_161 := up137 80 _ (o2 rfl (at_same hz121.p16.p4.p2 rfl _))
    have s81_162 := up137 81 _ (o1 rfl (at_same hz121.p16.p4.p2.p1 rfl _))
    have s82_163 := up137 82 _ (at_same hz121.p16.p8 rfl _)
    clear up137
    refine V.go_on 72 (by kernel_rfl) ((s72_153).trans (dt hg134)) (V.pv [(77, .int .i64 (((T1.n : Int) - 1) * 8)), (82, .int .i64 ((T1.a.length : Nat) : Int))] ⟨(s77_158), (s82_163), trivial⟩ (by kernel_rfl) (.bool (decide ((((T1.n : Int) - 1) * 8) < ((T1.a.length : Nat) : Int)))) (by kernel_rfl) ?_)
    refine V.go (V.pk_t (((o1 rfl s72_153 : Act.eval _ _ = (.bool (decide (((T1.a.length : Nat) : Int) > 4))))).trans (dt hg134)) (v := (.bool (decide ((((T1.n : Int) - 1) * 8) < ((T1.a.length : Nat) : Int))))) (at_same hz136 rfl _) ?_)
    refine V.nil ?_
    refine ⟨chk [(58, .pointer (some ⟨t, 0, none⟩)), (61, .slice none 0 0), (62, .int .i64 0), (65, .pointer (some ⟨t, 0, none⟩)), (68, .slice (some ⟨gA, 0, none⟩) T1.a.length T1.a.length), (69, .int .i64 ((T1.a.length : Nat) : Int)), (73, .pointer (some ⟨t, 0, none⟩)), (76, .int .i64 ((T1.n : Int) - 1)), (78, .pointer (some ⟨t, 0, none⟩)), (81, .slice (some ⟨gA, 0, none⟩) T1.a.length T1.a.length), (77, .int .i64 (((T1.n : Int) - 1) * 8)), (82, .int .i64 ((T1.a.length : Nat) : Int)), (64, .bool true), (72, .bool true)] ⟨(o2 rfl s58_139), (o2 rfl s61_142), (o2 rfl s62_143), (o2 rfl s65_146), (o2 rfl s68_149), (o2 rfl s69_150), (o2 rfl s73_154), (o2 rfl s76_157), (o2 rfl s78_159), (o2 rfl s81_162), (o2 rfl s77_158), (o2 rfl s82_163), (o2 rfl s64_145), (((o2 rfl s72_153 : Act.eval _ _ = (.bool (decide (((T1.a.length : Nat) : Int) > 4))))).trans (dt hg134)), trivial⟩ (by kernel_rfl), ?_⟩
    refine V.then_n (hK127 _ _ ?_)
    refine V.condP (p := (((T1.n : Int) - 1) * 8) < ((T1.a.length : Nat) : Int)) (at_same hz136.p1 rfl _) (fun ht164 => ?_) (fun ht164 => ?_)
    ·
     refine V.region (by kernel_rfl) ?_
     refine V.go (V.mv (o2 rfl s0_138) ?_)
     refine V.go (V.mv (o2 rfl (o1 rfl s0_138)) ?_)
     refine V.go (V.pv [(86, .pointer (some ⟨t, 0, none⟩))] ⟨(at_same hz136.p2.p1 rfl _), trivial⟩ (by kernel_rfl) (.pointer (some ⟨t, 0, none⟩)) (by kernel_rfl) ?_)
     refine V.go (V.pv [(87, .pointer (some ⟨t, 0, none⟩))] ⟨(at_same hz136.p4 rfl _), trivial⟩ (by kernel_rfl) (.pointer (some ⟨t, 1, none⟩)) (by kernel_rfl) ?_)
     refine V.go (V.ld ⟨t, 1, none⟩ (.slice (some ⟨gA, 0, none⟩) T1.a.length T1.a.length) (at_same hz136.p4.p1 rfl _) (by kernel_rfl) (hB115_133.at 1 rfl) ?_)
     refine V.go (V.pv [(89, .slice (some ⟨gA, 0, none⟩) T1.a.length T1.a.length)] ⟨(at_same hz136.p4.p2 rfl _), trivial⟩ (by kernel_rfl) (.int .i64 ((T1.a.length : Nat) : Int)) (by kernel_rfl) ?_)
     refine V.go (V.quoN T1.a.length 2 (at_same hz136.p4.p2.p1 rfl _) evc (by omega) (by omega) ?_)
     refine V.go (V.mks (enc := idV) (T1.a.length / 2) (.slice none 0 0) nilS 24 ((at_same hz136.p8 rfl _).trans (V.int_eq (by omega))) ((at_same hz136.p8 rfl _).trans (V.int_eq (by omega))) (by kernel_rfl) info42 rfl rfl (by omega) (by omega) ?_)
     intro w166 b165 heb165 hR167 hF168
     have hsb165 := hR167.lt
     have hE_169 := hE_130.tr0 hF168
     have hK92_170 := hK92_131.alloc hF168 heb165 (by omega)
     have hR103_171 := hR103_132.fr0 hF168
     have hB115_172 := hB115_133.fr0 hF168
     refine V.go (V.pv [(85, .pointer (some ⟨t, 0, none⟩))] ⟨(o4 rfl (o2 rfl (o1 rfl (at_same hz136.p2 rfl _)))), trivial⟩ (by kernel_rfl) (.pointer (some ⟨t, 0, none⟩)) (by kernel_rfl) ?_)
     refine V.go (V.pv [(93, .pointer (some ⟨t, 0, none⟩))] ⟨(at_same hz136.p8.p2 rfl _), trivial⟩ (by kernel_rfl) (.pointer (some ⟨t, 2, none⟩)) (by kernel_rfl) ?_)
     refine V.go (V.stn t 2 (.slice (some ⟨b165, 0, none⟩) (T1.a.length / 2) (T1.a.length / 2)) [.slice (some ⟨b165, 0, none⟩) (T1.a.length / 2) (T1.a.length / 2)] (at_same hz136.p8.p2.p1 rfl _) (o2 rfl (at_same hz136.p8.p1 rfl _)) rfl rfl (by kernel_rfl) hB115_172 (by simp) [.int .u64 (T1.seed : Int), .slice (some ⟨gA, 0, none⟩) T1.a.length T1.a.length, .slice (some ⟨b165, 0, none⟩) (T1.a.length / 2) (T1.a.length / 2), .int .i64 (T1.moved : Int), .int .i64 ((T1.n : Int) - 1)] rfl ?_)
     intro w173 hB174 hF175 hsw173
     have hE_176 := hE_169.tr hF175 (by intro k hk; simp only [List.mem_singleton] at hk; subst hk; first | exact .inl (by assumption) | exact .inr (by omega) | exact .inl (.inl rfl))
     have hK92_177 := hK92_170.fr hF175 (by simp)
     have hR103_178 := hR103_171.fr1 hF175 (by omega)
     have hR167_179 := hR167.fr1 hF175 (by omega)
     refine V.nil ?_
     refine V.then_n (hK125 _ _ ?_)
     refine V.flushW hz136.p8.p4 (fun a180 hz181 up182 => ?_)
     clear up182
     refine V.seq (fun K183 hK184 => ?_)
     refine V.region (by kernel_rfl) ?_
     refine V.go (V.asg evc ?_)
     refine V.nil ?_
     refine V.then_n (hK184 _ _ ?_)
     refine V.ret ?_
     refine V.ret1 hz181.p1 rfl (at_same hz181 rfl _) ?_
     have hst : delT T k = shrT (rm1T T1 k) := by (unfold delT; rw [← hT1]; unfold del1T; rw [hf, if_pos rfl])
     have hu2 : rm1T T1 k = ({ T1 with a := rmV T1.a (bkt T1.seed T1.a.length k) j, n := T1.n - 1 } : Tb Int) := by (unfold rm1T; rw [hf]; simp)
     have hup := (rm1T_ok hok1 hm1 k (by rw [hf])).1
     rw [hu2] at hup
     rw [hst, hu2]
     have hsh : shrT ({ T1 with a := rmV T1.a (bkt T1.seed T1.a.length k) j, n := T1.n - 1 } : Tb Int) = startT ({ T1 with a := rmV T1.a (bkt T1.seed T1.a.length k) j, n := T1.n - 1 } : Tb Int) (T1.a.length / 2) := by (unfold shrT; rw [if_pos ⟨hb1, by show 4 < (rmV T1.a (bkt T1.seed T1.a.length k) j).length; rw [rmV_length]; omega, by show T1.n - 1 < (rmV T1.a (bkt T1.seed T1.a.length k) j).length / 8; rw [rmV_length]; have := hp8 (by omega); omega⟩]; show startT _ ((rmV T1.a (bkt T1.seed T1.a.length k) j).length / 2) = _; rw [rmV_length])
     rw [hsh]
     have hsk := (shrT_ok (T := ({ T1 with a := rmV T1.a (bkt T1.seed T1.a.length k) j, n := T1.n - 1 } : Tb Int)) hup (by have := (rm1T_ok hok1 hm1 k (by rw [hf])).2; rwa [hu2] at this)).1
     rw [hsh] at hsk
     have hKa185 := hK92_177.addNil (T1.a.length / 2)
     simp only [List.append_nil] at hKa185
     exact ⟨by rw [hf], (TabM.fin (T := (startT ({ T1 with a := rmV T1.a (bkt T1.seed T1.a.length k) j, n := T1.n - 1 } : Tb Int) (T1.a.length / 2))) hsk (by simp only [startT]; intro h; have := congrArg List.length h; simp at this; omega) hB174 hR103_178 hR167_179 (by rw [List.length_set, List.length_set]; exact hlA) hKa185 (mem4 (l := (b165 :: t :: gA :: av)) (by simp) (by simp) (by simp) (by intro k hk; simp [hk])) (by first | assumption | omega) (by first | assumption | omega) (by first | assumption | omega) hpt ⟨.inl hpg.1, hpg.2⟩ ⟨.inr (by omega), fun hm => by have := hK0 _ hm; omega⟩ rfl (rmV_length _ _ _).symm (by have h := hmz hb1; show ((T1.moved : Nat) : Int) = ((0 : Nat) : Int); omega) (by show ((T1.n : Int) - 1) = ((T1.n - 1 : Nat) : Int); omega) rfl rfl (by simp [startT])).gr3 (by omega), (hFPE.gr hE_176)⟩
    ·
     refine V.skip ?_
     refine V.then_n (hK125 _ _ ?_)
     refine V.seq (fun K186 hK187 => ?_)
     refine V.region (by kernel_rfl) ?_
     refine V.go (V.asg evc ?_)
     refine V.nil ?_
     refine V.then_n (hK187 _ _ ?_)
     refine V.ret ?_
     refine V.ret1 hz136.p2.p1 rfl (at_same hz136.p2 rfl _) ?_
     have hst : delT T k = shrT (rm1T T1 k) := by (unfold delT; rw [← hT1]; unfold del1T; rw [hf, if_pos rfl])
     have hu2 : rm1T T1 k = ({ T1 with a := rmV T1.a (bkt T1.seed T1.a.length k) j, n := T1.n - 1 } : Tb Int) := by (unfold rm1T; rw [hf]; simp)
     have hup := (rm1T_ok hok1 hm1 k (by rw [hf])).1
     rw [hu2] at hup
     rw [hst, hu2]
     have hsh : shrT ({ T1 with a := rmV T1.a (bkt T1.seed T1.a.length k) j, n := T1.n - 1 } : Tb Int) = ({ T1 with a := rmV T1.a (bkt T1.seed T1.a.length k) j, n := T1.n - 1 } : Tb Int) := by (unfold shrT; rw [if_neg]; rintro ⟨_, h1, h2⟩; (have h3 : 4 < (rmV T1.a (bkt T1.seed T1.a.length k) j).length := h1); (have h4 : T1.n - 1 < (rmV T1.a (bkt T1.seed T1.a.length k) j).length / 8 := h2); rw [rmV_length] at h3 h4; have := hp8 h3; omega)
     rw [hsh]
     exact ⟨by rw [hf], (TabN.fin (T := ({ T1 with a := rmV T1.a (bkt T1.seed T1.a.length k) j, n := T1.n - 1 } : Tb Int)) hup hb0 hB115_133 hR103_132 (by have h := hK92_131; rw [List.append_nil, List.append_nil] at h; exact h) (mem3 (l := (t :: gA :: av)) (by simp) (by simp) (by intro k hk; simp [hk])) (by first | assumption | exact Ne.symm (by assumption) | omega) hpt ⟨.inl hpg.1, hpg.2⟩ rfl (rmV_length _ _ _).symm rfl (by show ((T1.n : Int) - 1) = ((T1.n - 1 : Nat) : Int); omega) rfl).gr3 (by omega), (hFPE.gr hE_130)⟩
   ·
    refine V.go_off 72 (by kernel_rfl) (((at_same hz121.p8.p4.p2 rfl _ : Act.eval _ _ = (.bool (decide (((T1.a.length : Nat) : Int) > 4))))).trans (df hg134)) (by kernel_rfl) ?_
    refine V.go_off 72 (by kernel_rfl) (((o1 rfl (at_same hz121.p8.p4.p2 rfl _) : Act.eval _ _ = (.bool (decide (((T1.a.length : Nat) : Int) > 4))))).trans (df hg134)) (by kernel_rfl) ?_
    refine V.go_off 72 (by kernel_rfl) (((o2 rfl (at_same hz121.p8.p4.p2 rfl _) : Act.eval _ _ = (.bool (decide (((T1.a.length : Nat) : Int) > 4))))).trans (df hg134)) (by kernel_rfl) ?_
    refine V.go_off 72 (by kernel_rfl) (((o2 rfl (o1 rfl (at_same hz121.p8.p4.p2 rfl _)) : Act.eval _ _ = (.bool (decide (((T1.a.length : Nat) : Int) > 4))))).trans (df hg134)) (by kernel_rfl) ?_
    refine V.go_off 72 (by kernel_rfl) (((o4 rfl (at_same hz121.p8.p4.p2 rfl _) : Act.eval _ _ = (.bool (decide (((T1.a.length : Nat) : Int) > 4))))).trans (df hg134)) (by kernel_rfl) ?_
    refine V.go_off 72 (by kernel_rfl) (((o4 rfl (o1 rfl (at_same hz121.p8.p4.p2 rfl _)) : Act.eval _ _ = (.bool (decide (((T1.a.length : Nat) : Int) > 4))))).trans (df hg134)) (by kernel_rfl) ?_
    refine V.go_off 72 (by kernel_rfl) (((o4 rfl (o2 rfl (at_same hz121.p8.p4.p2 rfl _)) : Act.eval _ _ = (.bool (decide (((T1.a.length : Nat) : Int) > 4))))).trans (df hg134)) (by kernel_rfl) ?_
    refine V.go_off 72 (by kernel_rfl) (((o4 rfl (o2 rfl (o1 rfl (at_same hz121.p8.p4.p2 rfl _))) : Act.eval _ _ = (.bool (decide (((T1.a.length : Nat) : Int) > 4))))).trans (df hg134)) (by kernel_rfl) ?_
    refine V.go_off 72 (by kernel_rfl) (((o8 rfl (at_same hz121.p8.p4.p2 rfl _) : Act.eval _ _ = (.bool (decide (((T1.a.length : Nat) : Int) > 4))))).trans (df hg134)) (by kernel_rfl) ?_
    refine V.go_off 72 (by kernel_rfl) (((o8 rfl (o1 rfl (at_same hz121.p8.p4.p2 rfl _)) : Act.eval _ _ = (.bool (decide (((T1.a.length : Nat) : Int) > 4))))).trans (df hg134)) (by kernel_rfl) ?_
    refine V.flushL hz121.p16.p8.p1 (fun a188 hz189 up190 => ?_)
    have s0_191 := up190 0 _ (o16 rfl (o8 rfl (o1 rfl s0_123)))
    have s58_192 := up190 58 _ (o16 rfl (o8 rfl (at_same hz121 rfl _)))
    have s59_193 := up190 59 _ (o16 rfl (o4 rfl (o2 rfl (o1 rfl (at_same hz121.p1 rfl _)))))
    have s60_194 := up190 60 _ (o16 rfl (o4 rfl (o2 rfl (at_same hz121.p2 rfl _))))
    have s61_195 := up190 61 _ (o16 rfl (o4 rfl (o1 rfl (at_same hz121.p2.p1 rfl _))))
    have s62_196 := up190 62 _ (o16 rfl (o4 rfl (at_same hz121.p4 rfl _)))
    have s63_197 := up190 63 _ (o16 rfl (o2 rfl (o1 rfl (at_same hz121.p4.p1 rfl _))))
    have s64_198 := up190 64 _ (o16 rfl (o2 rfl (at_same hz121.p4.p2 rfl _)))
    have s65_199 := up190 65 _ (o16 rfl (o1 rfl (at_same hz121.p4.p2.p1 rfl _)))
    have s66_200 := up190 66 _ (o16 rfl (at_same hz121.p8 rfl _))
    have s67_201 := up190 67 _ (o8 rfl (o4 rfl (o2 rfl (o1 rfl (at_same hz121.p8.p1 rfl _)))))
    have s68_202 := up190 68 _ (o8 rfl (o4 rfl (o2 rfl (at_same hz121.p8.p2 rfl _))))
    have s69_203 := up190 69 _ (o8 rfl (o4 rfl (o1 rfl (at_same hz121.p8.p2.p1 rfl _))))
    have s70_204 := up190 70 _ (o8 rfl (o4 rfl (at_same hz121.p8.p4 rfl _)))
    have s71_205 := up190 71 _ (o8 rfl (o2 rfl (o1 rfl (at_same hz121.p8.p4.p1 rfl _))))
    have s72_206 := up190 72 _ (o8 rfl (o2 rfl (at_same hz121.p8.p4.p2 rfl _)))
    have s73_207 := up190 73 _ (o8 rfl (o1 rfl (at_same hz121.p8.p4.p2.p1 rfl _)))
    have s74_208 := up190 74 _ (o8 rfl (at_same hz121.p16 rfl _))
    have s75_209 := up190 75 _ (o4 rfl (o2 rfl (o1 rfl (at_same hz121.p16.p1 rfl _))))
    have s76_210 := up190 76 _ (o4 rfl (o2 rfl (at_same hz121.p16.p2 rfl _)))
    have s77_211 := up190 77 _ (o4 rfl (o1 rfl (at_same hz121.p16.p2.p1 rfl _)))
    have s78_212 := up190 78 _ (o4 rfl (at_same hz121.p16.p4 rfl _))
    have s79_213 := up190 79 _ (o2 rfl (o1 rfl (at_same hz121.p16.p4.p1 rfl _)))
    have s80_214 := up190 80 _ (o2 rfl (at_same hz121.p16.p4.p2 rfl _))
    have s81_215 := up190 81 _ (o1 rfl (at_same hz121.p16.p4.p2.p1 rfl _))
    have s82_216 := up190 82 _ (at_same hz121.p16.p8 rfl _)
    clear up190
    refine V.go_off 72 (by kernel_rfl) ((s72_206).trans (df hg134)) (by kernel_rfl) ?_
    refine V.go (V.pk_f (((o1 rfl s72_206 : Act.eval _ _ = (.bool (decide (((T1.a.length : Nat) : Int) > 4))))).trans (df hg134)) (v := (.bool false)) evc ?_)
    refine V.nil ?_
    refine ⟨chk [(58, .pointer (some ⟨t, 0, none⟩)), (61, .slice none 0 0), (62, .int .i64 0), (65, .pointer (some ⟨t, 0, none⟩)), (68, .slice (some ⟨gA, 0, none⟩) T1.a.length T1.a.length), (69, .int .i64 ((T1.a.length : Nat) : Int)), (73, undef), (76, undef), (78, undef), (81, undef), (77, undef), (82, undef), (64, .bool true), (72, .bool false)] ⟨(o2 rfl s58_192), (o2 rfl s61_195), (o2 rfl s62_196), (o2 rfl s65_199), (o2 rfl s68_202), (o2 rfl s69_203), (o2 rfl s73_207), (o2 rfl s76_210), (o2 rfl s78_212), (o2 rfl s81_215), (o2 rfl s77_211), (o2 rfl s82_216), (o2 rfl s64_198), (((o2 rfl s72_206 : Act.eval _ _ = (.bool (decide (((T1.a.length : Nat) : Int) > 4))))).trans (df hg134)), trivial⟩ (by kernel_rfl), ?_⟩
    refine V.then_n (hK127 _ _ ?_)
    refine V.cond_f (at_same hz189.p1 rfl _) ?_
    refine V.skip ?_
    refine V.then_n (hK125 _ _ ?_)
    refine V.seq (fun K217 hK218 => ?_)
    refine V.region (by kernel_rfl) ?_
    refine V.go (V.asg evc ?_)
    refine V.nil ?_
    refine V.then_n (hK218 _ _ ?_)
    refine V.ret ?_
    refine V.ret1 hz189.p2.p1 rfl (at_same hz189.p2 rfl _) ?_
    have hst : delT T k = shrT (rm1T T1 k) := by (unfold delT; rw [← hT1]; unfold del1T; rw [hf, if_pos rfl])
    have hu2 : rm1T T1 k = ({ T1 with a := rmV T1.a (bkt T1.seed T1.a.length k) j, n := T1.n - 1 } : Tb Int) := by (unfold rm1T; rw [hf]; simp)
    have hup := (rm1T_ok hok1 hm1 k (by rw [hf])).1
    rw [hu2] at hup
    rw [hst, hu2]
    have hsh : shrT ({ T1 with a := rmV T1.a (bkt T1.seed T1.a.length k) j, n := T1.n - 1 } : Tb Int) = ({ T1 with a := rmV T1.a (bkt T1.seed T1.a.length k) j, n := T1.n - 1 } : Tb Int) := by (unfold shrT; rw [if_neg]; rintro ⟨_, h1, h2⟩; (have h3 : 4 < (rmV T1.a (bkt T1.seed T1.a.length k) j).length := h1); (have h4 : T1.n - 1 < (rmV T1.a (bkt T1.seed T1.a.length k) j).length / 8 := h2); rw [rmV_length] at h3 h4; have := hp8 h3; omega)
    rw [hsh]
    exact ⟨by rw [hf], (TabN.fin (T := ({ T1 with a := rmV T1.a (bkt T1.seed T1.a.length k) j, n := T1.n - 1 } : Tb Int)) hup hb0 hB115_133 hR103_132 (by have h := hK92_131; rw [List.append_nil, List.append_nil] at h; exact h) (mem3 (l := (t :: gA :: av)) (by simp) (by simp) (by intro k hk; simp [hk])) (by first | assumption | exact Ne.symm (by assumption) | omega) hpt ⟨.inl hpg.1, hpg.2⟩ rfl (rmV_length _ _ _).symm rfl (by show ((T1.n : Int) - 1) = ((T1.n - 1 : Nat) : Int); omega) rfl).gr3 (by omega), (hFPE.gr hE_130)⟩
  ·
   have hb1 : T1.b.length ≠ 0 := fun h => hb0 (List.eq_nil_of_length_eq_zero h)
   obtain ⟨hB, hRA, hRB, hlA, hlB, hK, hne, hne2, hne3, hpt, hpg, hph⟩ := hN
   replace hK := hK.toH
   have hltt := hB.lt
   have hltg := hRA.lt
   have hltg2 := hRB.lt
   have hE : FrP (gp (gr H w w7) av) w7 w7 := FrP.refl _ _
   have hK0 : ∀ k ∈ av, k < w7.heap.size := fun k hk => hK.avl k (by simp [hk])
   obtain ⟨hsd, hpa, hla, hlb, hmv, hmz, hnn, hcn, hks⟩ := (show T1.Ok from hok1)
   have hbl := hok1.bl
   have hFPE := hFP_8
   refine V.go (V.call 71 #[] #[.pointer (some ⟨t, 0, none⟩), .string k] evf (args2 (o1 rfl (at_same hz.p2.p1 rfl _)) (at_same hz.p4 rfl _)) (Go.Proofs.enters_of Try.func71 (by kernel_rfl) rfl) (by have h := rfind_any w7 (gr H w w7) (av) t T1 hT5q k hkz; rw [rfT_yes hf] at h; exact h) ?_)
   rintro _ w220 ⟨rfl, hF219⟩
   refine ⟨_, rfl, ?_⟩
   have hsw220 := hF219.size
   have hB_221 := hB.fr0 hF219
   have hRA_222 := hRA.fr0 hF219
   have hRB_223 := hRB.fr0 hF219
   have hK_224 := hK.fr0 hF219
   have hE_225 := hE.tr0 hF219
   have hbkl := bkt_lt T1.seed k (n := T1.a.length) (by omega)
   have hbq := hbl (bkt T1.seed T1.a.length k)
   refine V.go (V.mv (at_same hz.p4.p1 rfl _) ?_)
   refine V.go (V.pv [(10, .tuple #[.int .i64 0, .int .i64 ((bkt T1.seed T1.a.length k : Nat) : Int), .int .i64 (j : Int)])] ⟨(at_same hz.p4.p2 rfl _), trivial⟩ (by kernel_rfl) (.int .i64 0) (by kernel_rfl) ?_)
   refine V.go (V.pv [(10, .tuple #[.int .i64 0, .int .i64 ((bkt T1.seed T1.a.length k : Nat) : Int), .int .i64 (j : Int)])] ⟨(o1 rfl (at_same hz.p4.p2 rfl _)), trivial⟩ (by kernel_rfl) (.int .i64 ((bkt T1.seed T1.a.length k : Nat) : Int)) (by kernel_rfl) ?_)
   refine V.go (V.pv [(10, .tuple #[.int .i64 0, .int .i64 ((bkt T1.seed T1.a.length k : Nat) : Int), .int .i64 (j : Int)])] ⟨(o2 rfl (at_same hz.p4.p2 rfl _)), trivial⟩ (by kernel_rfl) (.int .i64 (j : Int)) (by kernel_rfl) ?_)
   refine V.go (V.asg (o2 rfl (at_same hz.p4.p2.p1 rfl _)) ?_)
   refine V.go (V.asg (o2 rfl (at_same hz.p8 rfl _)) ?_)
   refine V.go (V.asg (o2 rfl (at_same hz.p8.p1 rfl _)) ?_)
   refine V.nil ?_
   refine V.then_n (hK10 _ _ ?_)
   refine V.flushW hz.p8.p4.p1 (fun a226 hz227 up228 => ?_)
   have s0_229 := up228 0 _ (o8 rfl (o4 rfl (o1 rfl s0)))
   have s5_230 := up228 5 _ (o2 rfl (at_same hz.p8.p2 rfl _))
   have s6_231 := up228 6 _ (o1 rfl (at_same hz.p8.p2.p1 rfl _))
   have s7_232 := up228 7 _ (at_same hz.p8.p4 rfl _)
   clear up228
   refine V.seq (fun K233 hK234 => ?_)
   refine V.seq (fun K235 hK236 => ?_)
   refine V.region (by kernel_rfl) ?_
   refine V.go (V.mv (s5_230) ?_)
   refine V.go (V.pv [(17, .int .i64 0)] ⟨(at_same hz227 rfl _), trivial⟩ (by kernel_rfl) (.bool false) (by kernel_rfl) ?_)
   refine V.nil ?_
   refine V.then_n (hK236 _ _ ?_)
   refine V.cond_f (at_same hz227.p1 rfl _) ?_
   refine V.skip ?_
   refine V.then_n (hK234 _ _ ?_)
   refine V.seq (fun K237 hK238 => ?_)
   refine V.seq (fun K239 hK240 => ?_)
   refine V.region (by kernel_rfl) ?_
   refine V.go (V.mv (o2 rfl s5_230) ?_)
   refine V.go (V.pv [(19, .int .i64 0)] ⟨(at_same hz227.p2 rfl _), trivial⟩ (by kernel_rfl) (.bool true) (by kernel_rfl) ?_)
   refine V.nil ?_
   refine V.then_n (hK240 _ _ ?_)
   refine V.flushW hz227.p4 (fun a241 hz242 up243 => ?_)
   have s0_244 := up243 0 _ (o4 rfl s0_229)
   have s6_245 := up243 6 _ (o4 rfl s6_231)
   have s7_246 := up243 7 _ (o4 rfl s7_232)
   have s20_247 := up243 20 _ (at_same hz227.p2.p1 rfl _)
   clear up243
   refine V.cond_t (s20_247) ?_
   refine V.plan [[], [0], [0, 1], [0, 1, 2], [], [], [5], [5, 6], [5, 6, 7], [], [5, 6, 7, 8, 9], [5, 6, 7, 8, 9, 10], [], [5, 6, 7, 8, 9, 10, 11, 12], [0, 1, 2, 3, 4, 5, 6, 7, 8, 9, 10, 11, 12, 13], [0, 1, 2, 3, 4, 5, 6, 7, 8, 9, 10, 11, 12, 13, 14]] [([0, 1, 2, 3, 4, 5, 6, 7, 8, 9, 10, 11, 12], some (13, [3])), ([14], some (15, [])), ([], none)] (by kernel_rfl) (by kernel_rfl) (by exact fun _ _ _ _ h => h) ?_
   simp only [Plan.wpSegs, Plan.pickAll, Plan.nth, V.L_eq]
   obtain ⟨w248, hF249e⟩ : ∃ w1, w1 = w220.drew := ⟨_, rfl⟩
   rw [← hF249e]
   have hF249 : Fr [] w220 w248 := by rw [hF249e]; exact Fr.drew _ _
   have hsw248 : w248.heap.size = w220.heap.size := by rw [hF249e]; rfl
   clear hF249e
   have hB_250 := hB_221.fr0 hF249
   have hRA_251 := hRA_222.fr0 hF249
   have hRB_252 := hRB_223.fr0 hF249
   have hK_253 := hK_224.fr0 hF249
   have hE_254 := hE_225.tr0 hF249
   refine V.go (V.mv (s0_244) ?_)
   refine V.go (V.pv [(21, .pointer (some ⟨t, 0, none⟩))] ⟨(at_same hz242 rfl _), trivial⟩ (by kernel_rfl) (.pointer (some ⟨t, 0, none⟩)) (by kernel_rfl) ?_)
   refine V.go (V.pv [(22, .pointer (some ⟨t, 0, none⟩))] ⟨(at_same hz242.p1 rfl _), trivial⟩ (by kernel_rfl) (.pointer (some ⟨t, 1, none⟩)) (by kernel_rfl) ?_)
   refine V.go (V.ld ⟨t, 1, none⟩ (.slice (some ⟨gA, 0, none⟩) T1.a.length T1.a.length) (at_same hz242.p2 rfl _) (by kernel_rfl) (hB_250.at 1 rfl) ?_)
   refine V.go (V.mv (o4 rfl s6_245) ?_)
   refine V.go (V.mv (o4 rfl (o1 rfl s0_244)) ?_)
   refine V.go (V.pv [(26, .pointer (some ⟨t, 0, none⟩))] ⟨(at_same hz242.p4.p1 rfl _), trivial⟩ (by kernel_rfl) (.pointer (some ⟨t, 0, none⟩)) (by kernel_rfl) ?_)
   refine V.go (V.pv [(27, .pointer (some ⟨t, 0, none⟩))] ⟨(at_same hz242.p4.p2 rfl _), trivial⟩ (by kernel_rfl) (.pointer (some ⟨t, 1, none⟩)) (by kernel_rfl) ?_)
   refine V.go (V.ld ⟨t, 1, none⟩ (.slice (some ⟨gA, 0, none⟩) T1.a.length T1.a.length) (at_same hz242.p4.p2.p1 rfl _) (by kernel_rfl) (hB_250.at 1 rfl) ?_)
   refine V.go (V.mv (o8 rfl (o1 rfl s6_245)) ?_)
   refine V.go (V.ixa gA 0 T1.a.length T1.a.length .i64 ((bkt T1.seed T1.a.length k : Nat) : Int) 1 (o1 rfl (at_same hz242.p8 rfl _)) (at_same hz242.p8.p1 rfl _) (by omega) (by omega) (by kernel_rfl) ?_)
   obtain ⟨A255, c256, hv257⟩ := hK_253.getA hlA (i := (bkt T1.seed T1.a.length k)) (by omega) nilS
   refine V.go (V.ld ⟨gA, 0 + ((bkt T1.seed T1.a.length k : Nat) : Int).toNat * 1, none⟩ (.slice A255 ((T1.a.getD (bkt T1.seed T1.a.length k) []).length) c256) (at_same hz242.p8.p2 rfl _) (by kernel_rfl) ((hRA_251.at (bkt T1.seed T1.a.length k) nilS (by omega)).trans (congrArg some hv257)) ?_)
   have hS258 := hK_253.slA hlA (i := (bkt T1.seed T1.a.length k)) (by omega) hv257
   refine V.go (V.mv (o8 rfl (o4 rfl s7_246)) ?_)
   refine V.nil ?_
   refine ⟨chk [(21, .pointer (some ⟨t, 0, none⟩)), (26, .pointer (some ⟨t, 0, none⟩))] ⟨(o8 rfl (o4 rfl (at_same hz242 rfl _))), (o4 rfl (o2 rfl (o1 rfl (at_same hz242.p4.p1 rfl _)))), trivial⟩ (by kernel_rfl), ?_⟩
   obtain ⟨g266, o267, hAe, _, _⟩ := hS258.addr (by omega)
   have hSz264 := hS258.zone (Z' := fun b => b < w248.heap.size) (fun b hb _ => hb)
   rw [hAe] at hSz264
   have hA265 := hS258.cap
   refine V.go (V.call 73 #[] #[.slice A255 ((T1.a.getD (bkt T1.seed T1.a.length k) []).length) c256, .int .i64 (j : Int)] evf (args2 (o1 rfl (at_same hz242.p8.p2.p1 rfl _)) (at_same hz242.p8.p4 rfl _)) (Go.Proofs.enters_of Try.func73 (by kernel_rfl) rfl) (by (rw [hAe]; exact rwithout_any w248 g266 o267 c256 j (T1.a.getD (bkt T1.seed T1.a.length k) []) hSz264 (by omega) hA265 (by omega))) ?_)
   rintro _ w268 ⟨A261, c262, rfl, hOr259, hF260⟩
   refine ⟨_, rfl, ?_⟩
   have hsw268 := hF260.size
   have hB_269 := hB_250.fr0 hF260
   have hRA_270 := hRA_251.fr0 hF260
   have hRB_271 := hRB_252.fr0 hF260
   have hE_272 := hE_254.tr0 hF260
   have hS258_273 := hS258.fr0 hF260
   have hK263 := hK_253.newA hlA (i := (bkt T1.seed T1.a.length k)) (by omega) hF260 hOr259 (fun k hk => .inr (by omega))
   refine V.nil ?_
   refine ⟨(fun _ => held_blk (n := 1) (hx := (o8 rfl (o2 rfl (at_same hz242.p2 rfl _)))) hB_250 hB_269 (by kernel_rfl) rfl (by simp only [List.length]; omega)), ?_⟩
   refine V.go (V.ixa gA 0 T1.a.length T1.a.length .i64 ((bkt T1.seed T1.a.length k : Nat) : Int) 1 (o8 rfl (o2 rfl (at_same hz242.p2.p1 rfl _))) (o8 rfl (o1 rfl (at_same hz242.p4 rfl _))) (by omega) (by omega) (by kernel_rfl) ?_)
   refine V.nil ?_
   refine ⟨chk [] trivial (by kernel_rfl), ?_⟩
   refine V.go (V.strow (enc := idV) gA (((bkt T1.seed T1.a.length k : Nat) : Int).toNat) (.slice A261 ((T1.a.getD (bkt T1.seed T1.a.length k) []).length - 1) c262) (at_same hz242.p8.p4.p2 rfl _) (o1 rfl (at_same hz242.p8.p4.p1 rfl _)) rfl rfl (by kernel_rfl) hRA_270 (by first | omega | (simp only [List.length_set, List.length_replicate]; omega)) ?_)
   intro w274 hR275 hF276 hsw274
   have hB_277 := hB_269.fr1 hF276 (by omega)
   have hRB_278 := hRB_271.fr1 hF276 (by omega)
   have hE_279 := hE_272.tr hF276 (by intro k hk; simp only [List.mem_singleton] at hk; subst hk; first | exact .inl (by assumption) | exact .inr (by omega) | exact .inl (.inl rfl))
   have hK263_280 := hK263.fr hF276 (by simp)
   refine V.nil ?_
   refine ⟨trivial, ?_⟩
   refine V.nil ?_
   refine ⟨chk [] trivial (by kernel_rfl), ?_⟩
   refine V.then_n (hK238 _ _ ?_)
   refine V.flushW hz242.p8.p4.p2.p1 (fun a281 hz282 up283 => ?_)
   have s0_284 := up283 0 _ (o8 rfl (o4 rfl (o2 rfl (o1 rfl s0_244))))
   clear up283
   refine V.seq (fun K285 hK286 => ?_)
   refine V.region (by kernel_rfl) ?_
   refine V.go (V.mv (s0_284) ?_)
   refine V.go (V.pv [(51, .pointer (some ⟨t, 0, none⟩))] ⟨(at_same hz282 rfl _), trivial⟩ (by kernel_rfl) (.pointer (some ⟨t, 0, none⟩)) (by kernel_rfl) ?_)
   refine V.go (V.pv [(52, .pointer (some ⟨t, 0, none⟩))] ⟨(at_same hz282.p1 rfl _), trivial⟩ (by kernel_rfl) (.pointer (some ⟨t, 4, none⟩)) (by kernel_rfl) ?_)
   refine V.go (V.ld ⟨t, 4, none⟩ (.int .i64 (T1.n : Int)) (at_same hz282.p2 rfl _) (by kernel_rfl) (hB_277.at 4 rfl) ?_)
   refine V.go (V.pvw [(54, .int .i64 (T1.n : Int))] ⟨(at_same hz282.p2.p1 rfl _), trivial⟩ (by kernel_rfl) (.int .i64 (IntKind.i64.wrap ((T1.n : Int) - 1))) (.int .i64 ((T1.n : Int) - 1)) (by kernel_rfl) (V.w_i64 (by omega) (by omega)) ?_)
   refine V.go (V.pv [(51, .pointer (some ⟨t, 0, none⟩))] ⟨(o4 rfl (at_same hz282 rfl _)), trivial⟩ (by kernel_rfl) (.pointer (some ⟨t, 0, none⟩)) (by kernel_rfl) ?_)
   refine V.go (V.pv [(56, .pointer (some ⟨t, 0, none⟩))] ⟨(at_same hz282.p4.p1 rfl _), trivial⟩ (by kernel_rfl) (.pointer (some ⟨t, 4, none⟩)) (by kernel_rfl) ?_)
   refine V.go (V.stn t 4 (.int .i64 ((T1.n : Int) - 1)) [.int .i64 ((T1.n : Int) - 1)] (at_same hz282.p4.p2 rfl _) (o2 rfl (at_same hz282.p4 rfl _)) rfl rfl (by kernel_rfl) hB_277 (by simp) [.int .u64 (T1.seed : Int), .slice (some ⟨gA, 0, none⟩) T1.a.length T1.a.length, .slice (some ⟨gB, 0, none⟩) T1.b.length T1.b.length, .int .i64 (T1.moved : Int), .int .i64 ((T1.n : Int) - 1)] rfl ?_)
   intro w287 hB288 hF289 hsw287
   have hRB_290 := hRB_278.fr1 hF289 (by omega)
   have hE_291 := hE_279.tr hF289 (by intro k hk; simp only [List.mem_singleton] at hk; subst hk; first | exact .inl (by assumption) | exact .inr (by omega) | exact .inl (.inl rfl))
   have hK263_292 := hK263_280.fr hF289 (by simp)
   have hR275_293 := hR275.fr1 hF289 (by omega)
   refine V.nil ?_
   refine V.then_n (hK286 _ _ ?_)
   refine V.flushW hz282.p4.p2.p1 (fun a294 hz295 up296 => ?_)
   have s0_297 := up296 0 _ (o4 rfl (o2 rfl (o1 rfl s0_284)))
   clear up296
   refine V.seq (fun K298 hK299 => ?_)
   refine V.seq (fun K300 hK301 => ?_)
   refine V.plan [[], [0], [0, 1], [0, 1, 2], [0, 1, 2, 3], [0, 1, 2, 3, 4], [0, 1, 2, 3, 4, 5], [0, 1, 2, 3, 4, 5, 6], [0, 1, 2, 3, 4, 5, 6, 7], [0, 1, 2, 3, 4, 5, 6, 7, 8], [0, 1, 2, 3, 4, 5, 6, 7, 8, 9], [0, 1, 2, 3, 4, 5, 6, 7, 8, 9, 10], [0, 1, 2, 3, 4, 5, 6, 7, 8, 9, 10, 11], [0, 1, 2, 3, 4, 5, 6, 7, 8, 9, 10, 11, 12], [0, 1, 2, 3, 4, 5, 6, 7, 8, 9, 10, 11, 12, 13], [0, 1, 2, 3, 4, 5, 6, 7, 8, 9, 10, 11, 12, 13, 14], [0, 1, 2, 3, 4, 5, 6, 7, 8, 9, 10, 11, 12, 13, 14, 15], [0, 1, 2, 3, 4, 5, 6, 7, 8, 9, 10, 11, 12, 13, 14, 15, 16], [0, 1, 2, 3, 4, 5, 6, 7, 8, 9, 10, 11, 12, 13, 14, 15, 16, 17], [0, 1, 2, 3, 4, 5, 6, 7, 8, 9, 10, 11, 12, 13, 14, 15, 16, 17, 18], [0, 1, 2, 3, 4, 5, 6, 7, 8, 9, 10, 11, 12, 13, 14], [0, 1, 2, 3, 4, 5, 6, 7, 8, 9, 10, 11, 12, 13, 14, 20], [0, 1, 2, 3, 4, 5, 6, 7, 8, 9, 10, 11, 12, 13, 14, 20, 21], [0, 1, 2, 3, 4, 5, 6, 7, 8, 9, 10, 11, 12, 13, 14, 20, 21, 22], [0, 1, 2, 3, 4, 5, 6, 7, 8, 9, 10, 11, 12, 13, 14, 20, 21, 22, 23], [0, 1, 2, 3, 4, 5, 6, 7, 8, 9, 10, 11, 12, 13, 14, 15, 16, 17, 18, 19, 20, 21, 22, 23, 24], [0, 1, 2, 3, 4, 5, 6, 7, 8, 9, 10, 11, 12, 13, 14, 15, 16, 17, 18, 19, 20, 21, 22, 23, 24, 25]] [([0, 1, 2, 3, 4, 5, 6, 7, 8, 9, 10, 11, 12, 13, 14, 15, 16, 17, 18, 19, 20, 21, 22, 23, 24, 25, 26], none)] (by kernel_rfl) (by kernel_rfl) (by exact fun _ _ _ _ h => h) ?_
   simp only [Plan.wpSegs, Plan.pickAll, Plan.nth, V.L_eq]
   obtain ⟨w302, hF303e⟩ : ∃ w1, w1 = w287.drew := ⟨_, rfl⟩
   rw [← hF303e]
   have hF303 : Fr [] w287 w302 := by rw [hF303e]; exact Fr.drew _ _
   have hsw302 : w302.heap.size = w287.heap.size := by rw [hF303e]; rfl
   clear hF303e
   have hRB_304 := hRB_290.fr0 hF303
   have hE_305 := hE_291.tr0 hF303
   have hK263_306 := hK263_292.fr0 hF303
   have hR275_307 := hR275_293.fr0 hF303
   have hB288_308 := hB288.fr0 hF303
   refine V.go (V.mv (s0_297) ?_)
   refine V.go (V.pv [(58, .pointer (some ⟨t, 0, none⟩))] ⟨(at_same hz295 rfl _), trivial⟩ (by kernel_rfl) (.pointer (some ⟨t, 0, none⟩)) (by kernel_rfl) ?_)
   refine V.go (V.pv [(59, .pointer (some ⟨t, 0, none⟩))] ⟨(at_same hz295.p1 rfl _), trivial⟩ (by kernel_rfl) (.pointer (some ⟨t, 2, none⟩)) (by kernel_rfl) ?_)
   refine V.go (V.ld ⟨t, 2, none⟩ (.slice (some ⟨gB, 0, none⟩) T1.b.length T1.b.length) (at_same hz295.p2 rfl _) (by kernel_rfl) (hB288_308.at 2 rfl) ?_)
   refine V.go (V.pv [(61, .slice (some ⟨gB, 0, none⟩) T1.b.length T1.b.length)] ⟨(at_same hz295.p2.p1 rfl _), trivial⟩ (by kernel_rfl) (.int .i64 ((T1.b.length : Nat) : Int)) (by kernel_rfl) ?_)
   refine V.go (V.pvw [(62, .int .i64 ((T1.b.length : Nat) : Int))] ⟨(at_same hz295.p4 rfl _), trivial⟩ (by kernel_rfl) (.bool (((T1.b.length : Nat) : Int) == 0)) (.bool (decide (((T1.b.length : Nat) : Int) = 0))) (by kernel_rfl) V.t_eql ?_)
   refine V.go (V.mv (at_same hz295.p4.p1 rfl _) ?_)
   by_cases hg309 : ((T1.b.length : Nat) : Int) = 0
   ·
    refine V.go_on 64 (by kernel_rfl) (((at_same hz295.p4.p2 rfl _ : Act.eval _ _ = (.bool (decide (((T1.b.length : Nat) : Int) = 0))))).trans (dt hg309)) (V.mv (o4 rfl (o2 rfl (o1 rfl s0_297))) ?_)
    refine V.go_on 64 (by kernel_rfl) (((o1 rfl (at_same hz295.p4.p2 rfl _) : Act.eval _ _ = (.bool (decide (((T1.b.length : Nat) : Int) = 0))))).trans (dt hg309)) (V.pv [(65, .pointer (some ⟨t, 0, none⟩))] ⟨(at_same hz295.p4.p2.p1 rfl _), trivial⟩ (by kernel_rfl) (.pointer (some ⟨t, 0, none⟩)) (by kernel_rfl) ?_)
    refine V.go_on 64 (by kernel_rfl) (((o2 rfl (at_same hz295.p4.p2 rfl _) : Act.eval _ _ = (.bool (decide (((T1.b.length : Nat) : Int) = 0))))).trans (dt hg309)) (V.pv [(66, .pointer (some ⟨t, 0, none⟩))] ⟨(at_same hz295.p8 rfl _), trivial⟩ (by kernel_rfl) (.pointer (some ⟨t, 1, none⟩)) (by kernel_rfl) ?_)
    refine V.go_on 64 (by kernel_rfl) (((o2 rfl (o1 rfl (at_same hz295.p4.p2 rfl _)) : Act.eval _ _ = (.bool (decide (((T1.b.length : Nat) : Int) = 0))))).trans (dt hg309)) (V.ld ⟨t, 1, none⟩ (.slice (some ⟨gA, 0, none⟩) T1.a.length T1.a.length) (at_same hz295.p8.p1 rfl _) (by kernel_rfl) (hB288_308.at 1 rfl) ?_)
    refine V.go_on 64 (by kernel_rfl) (((o4 rfl (at_same hz295.p4.p2 rfl _) : Act.eval _ _ = (.bool (decide (((T1.b.length : Nat) : Int) = 0))))).trans (dt hg309)) (V.pv [(68, .slice (some ⟨gA, 0, none⟩) T1.a.length T1.a.length)] ⟨(at_same hz295.p8.p2 rfl _), trivial⟩ (by kernel_rfl) (.int .i64 ((T1.a.length : Nat) : Int)) (by kernel_rfl) ?_)
    refine V.go_on 64 (by kernel_rfl) (((o4 rfl (o1 rfl (at_same hz295.p4.p2 rfl _)) : Act.eval _ _ = (.bool (decide (((T1.b.length : Nat) : Int) = 0))))).trans (dt hg309)) (V.pv [(69, .int .i64 ((T1.a.length : Nat) : Int))] ⟨(at_same hz295.p8.p2.p1 rfl _), trivial⟩ (by kernel_rfl) (.bool (decide (((T1.a.length : Nat) : Int) > 4))) (by kernel_rfl) ?_)
    refine V.go (V.pk_t (((o4 rfl (o2 rfl (at_same hz295.p4.p2 rfl _)) : Act.eval _ _ = (.bool (decide (((T1.b.length : Nat) : Int) = 0))))).trans (dt hg309)) (v := (.bool (decide (((T1.a.length : Nat) : Int) > 4)))) (at_same hz295.p8.p4 rfl _) ?_)
    refine V.go (V.mv (at_same hz295.p8.p4.p1 rfl _) ?_)
    by_cases hg310 : ((T1.a.length : Nat) : Int) > 4
    ·
     refine V.go_on 72 (by kernel_rfl) (((at_same hz295.p8.p4.p2 rfl _ : Act.eval _ _ = (.bool (decide (((T1.a.length : Nat) : Int) > 4))))).trans (dt hg310)) (V.mv (o8 rfl (o4 rfl (o2 rfl (o1 rfl s0_297)))) ?_)
     refine V.go_on 72 (by kernel_rfl) (((o1 rfl (at_same hz295.p8.p4.p2 rfl _) : Act.eval _ _ = (.bool (decide (((T1.a.length : Nat) : Int) > 4))))).trans (dt hg310)) (V.pv [(73, .pointer (some ⟨t, 0, none⟩))] ⟨(at_same hz295.p8.p4.p2.p1 rfl _), trivial⟩ (by kernel_rfl) (.pointer (some ⟨t, 0, none⟩)) (by kernel_rfl) ?_)
     refine V.go_on 72 (by kernel_rfl) (((o2 rfl (at_same hz295.p8.p4.p2 rfl _) : Act.eval _ _ = (.bool (decide (((T1.a.length : Nat) : Int) > 4))))).trans (dt hg310)) (V.pv [(74, .pointer (some ⟨t, 0, none⟩))] ⟨(at_same hz295.p16 rfl _), trivial⟩ (by kernel_rfl) (.pointer (some ⟨t, 4, none⟩)) (by kernel_rfl) ?_)
     refine V.go_on 72 (by kernel_rfl) (((o2 rfl (o1 rfl (at_same hz295.p8.p4.p2 rfl _)) : Act.eval _ _ = (.bool (decide (((T1.a.length : Nat) : Int) > 4))))).trans (dt hg310)) (V.ld ⟨t, 4, none⟩ (.int .i64 ((T1.n : Int) - 1)) (at_same hz295.p16.p1 rfl _) (by kernel_rfl) (hB288_308.at 4 rfl) ?_)
     refine V.go_on 72 (by kernel_rfl) (((o4 rfl (at_same hz295.p8.p4.p2 rfl _) : Act.eval _ _ = (.bool (decide (((T1.a.length : Nat) : Int) > 4))))).trans (dt hg310)) (V.pvw [(76, .int .i64 ((T1.n : Int) - 1))] ⟨(at_same hz295.p16.p2 rfl _), trivial⟩ (by kernel_rfl) (.int .i64 (IntKind.i64.wrap (((T1.n : Int) - 1) * 8))) (.int .i64 (((T1.n : Int) - 1) * 8)) (by kernel_rfl) (V.w_i64 (by omega) (by omega)) ?_)
     refine V.go_on 72 (by kernel_rfl) (((o4 rfl (o1 rfl (at_same hz295.p8.p4.p2 rfl _)) : Act.eval _ _ = (.bool (decide (((T1.a.length : Nat) : Int) > 4))))).trans (dt hg310)) (V.mv (o16 rfl (o4 rfl s0_297)) ?_)
     refine V.go_on 72 (by kernel_rfl) (((o4 rfl (o2 rfl (at_same hz295.p8.p4.p2 rfl _)) : Act.eval _ _ = (.bool (decide (((T1.a.length : Nat) : Int) > 4))))).trans (dt hg310)) (V.pv [(78, .pointer (some ⟨t, 0, none⟩))] ⟨(at_same hz295.p16.p4 rfl _), trivial⟩ (by kernel_rfl) (.pointer (some ⟨t, 0, none⟩)) (by kernel_rfl) ?_)
     refine V.go_on 72 (by kernel_rfl) (((o4 rfl (o2 rfl (o1 rfl (at_same hz295.p8.p4.p2 rfl _))) : Act.eval _ _ = (.bool (decide (((T1.a.length : Nat) : Int) > 4))))).trans (dt hg310)) (V.pv [(79, .pointer (some ⟨t, 0, none⟩))] ⟨(at_same hz295.p16.p4.p1 rfl _), trivial⟩ (by kernel_rfl) (.pointer (some ⟨t, 1, none⟩)) (by kernel_rfl) ?_)
     refine V.go_on 72 (by kernel_rfl) (((o8 rfl (at_same hz295.p8.p4.p2 rfl _) : Act.eval _ _ = (.bool (decide (((T1.a.length : Nat) : Int) > 4))))).trans (dt hg310)) (V.ld ⟨t, 1, none⟩ (.slice (some ⟨gA, 0, none⟩) T1.a.length T1.a.length) (at_same hz295.p16.p4.p2 rfl _) (by kernel_rfl) (hB288_308.at 1 rfl) ?_)
     refine V.go_on 72 (by kernel_rfl) (((o8 rfl (o1 rfl (at_same hz295.p8.p4.p2 rfl _)) : Act.eval _ _ = (.bool (decide (((T1.a.length : Nat) : Int) > 4))))).trans (dt hg310)) (V.pv [(81, .slice (some ⟨gA, 0, none⟩) T1.a.length T1.a.length)] ⟨(at_same hz295.p16.p4.p2.p1 rfl _), trivial⟩ (by kernel_rfl) (.int .i64 ((T1.a.length : Nat) : Int)) (by kernel_rfl) ?_)
     refine V.flushL hz295.p16.p8.p1 (fun a311 hz312 up313 => ?_)
     have s0_314 := up313 0 _ (o16 rfl (o8 rfl (o1 rfl s0_297)))
     have s58_315 := up313 58 _ (o16 rfl (o8 rfl (at_same hz295 rfl _)))
     have s59_316 := up313 59 _ (o16 rfl (o4 rfl (o2 rfl (o1 rfl (at_same hz295.p1 rfl _)))))
     have s60_317 := up313 60 _ (o16 rfl (o4 rfl (o2 rfl (at_same hz295.p2 rfl _))))
     have s61_318 := up313 61 _ (o16 rfl (o4 rfl (o1 rfl (at_same hz295.p2.p1 rfl _))))
     have s62_319 := up313 62 _ (o16 rfl (o4 rfl (at_same hz295.p4 rfl _)))
     have s63_320 := up313 63 _ (o16 rfl (o2 rfl (o1 rfl (at_same hz295.p4.p1 rfl _))))
     have s64_321 := up313 64 _ (o16 rfl (o2 rfl (at_same hz295.p4.p2 rfl _)))
     have s65_322 := up313 65 _ (o16 rfl (o1 rfl (at_same hz295.p4.p2.p1 rfl _)))
     have s66_323 := up313 66 _ (o16 rfl (at_same hz295.p8 rfl _))
     have s67_324 := up313 67 _ (o8 rfl (o4 rfl (o2 rfl (o1 rfl (at_same hz295.p8.p1 rfl _)))))
     have s68_325 := up313 68 _ (o8 rfl (o4 rfl (o2 rfl (at_same hz295.p8.p2 rfl _))))
     have s69_326 := up313 69 _ (o8 rfl (o4 rfl (o1 rfl (at_same hz295.p8.p2.p1 rfl _))))
     have s70_327 := up313 70 _ (o8 rfl (o4 rfl (at_same hz295.p8.p4 rfl _)))
     have s71_328 := up313 71 _ (o8 rfl (o2 rfl (o1 rfl (at_same hz295.p8.p4.p1 rfl _))))
     have s72_329 := up313 72 _ (o8 rfl (o2 rfl (at_same hz295.p8.p4.p2 rfl _)))
     have s73_330 := up313 73 _ (o8 rfl (o1 rfl (at_same hz295.p8.p4.p2.p1 rfl _)))
     have s74_331 := up313 74 _ (o8 rfl (at_same hz295.p16 rfl _))
     have s75_332 := up313 75 _ (o4 rfl (o2 rfl (o1 rfl (at_same hz295.p16.p1 rfl _))))
     have s76_333 := up313 76 _ (o4 rfl (o2 rfl (at_same hz295.p16.p2 rfl _)))
     have s77_334 := up313 77 _ (o4 rfl (o1 rfl (at_same hz295.p16.p2.p1 rfl _)))
     have s78_335 := up313 78 _ (o4 rfl (at_same hz295.p16.p4 rfl _))
     have s79_336 := up313 79 _ (o2 rfl (o1 rfl (at_same hz295.p16.p4.p1 rfl _)))
     have s80_337 := up313 80 _ (o2 rfl (at_same hz295.p16.p4.p2 rfl _))
     have s81_338 := up313 81 _ (o1 rfl (at_same hz295.p16.p4.p2.p1 rfl _))
     have s82_339 := up313 82 _ (at_same hz295.p16.p8 rfl _)
     clear up313
     refine V.go_on 72 (by kernel_rfl) ((s72_329).trans (dt hg310)) (V.pv [(77, .int .i64 (((T1.n : Int) - 1) * 8)), (82, .int .i64 ((T1.a.length : Nat) : Int))] ⟨(s77_334), (s82_339), trivial⟩ (by kernel_rfl) (.bool (decide ((((T1.n : Int) - 1) * 8) < ((T1.a.length : Nat) : Int)))) (by kernel_rfl) ?_)
     refine V.go (V.pk_t (((o1 rfl s72_329 : Act.eval _ _ = (.bool (decide (((T1.a.length : Nat) : Int) > 4))))).trans (dt hg310)) (v := (.bool (decide ((((T1.n : Int) - 1) * 8) < ((T1.a.length : Nat) : Int))))) (at_same hz312 rfl _) ?_)
     refine V.nil ?_
     refine ⟨chk [(58, .pointer (some ⟨t, 0, none⟩)), (61, .slice (some ⟨gB, 0, none⟩) T1.b.length T1.b.length), (62, .int .i64 ((T1.b.length : Nat) : Int)), (65, .pointer (some ⟨t, 0, none⟩)), (68, .slice (some ⟨gA, 0, none⟩) T1.a.length T1.a.length), (69, .int .i64 ((T1.a.length : Nat) : Int)), (73, .pointer (some ⟨t, 0, none⟩)), (76, .int .i64 ((T1.n : Int) - 1)), (78, .pointer (some ⟨t, 0, none⟩)), (81, .slice (some ⟨gA, 0, none⟩) T1.a.length T1.a.length), (77, .int .i64 (((T1.n : Int) - 1) * 8)), (82, .int .i64 ((T1.a.length : Nat) : Int)), (64, .bool true), (72, .bool true)] ⟨(o2 rfl s58_315), (o2 rfl s61_318), (o2 rfl s62_319), (o2 rfl s65_322), (o2 rfl s68_325), (o2 rfl s69_326), (o2 rfl s73_330), (o2 rfl s76_333), (o2 rfl s78_335), (o2 rfl s81_338), (o2 rfl s77_334), (o2 rfl s82_339), (((o2 rfl s64_321 : Act.eval _ _ = (.bool (decide (((T1.b.length : Nat) : Int) = 0))))).trans (dt hg309)), (((o2 rfl s72_329 : Act.eval _ _ = (.bool (decide (((T1.a.length : Nat) : Int) > 4))))).trans (dt hg310)), trivial⟩ (by kernel_rfl), ?_⟩
     refine V.then_n (hK301 _ _ ?_)
     refine V.condP (p := (((T1.n : Int) - 1) * 8) < ((T1.a.length : Nat) : Int)) (at_same hz312.p1 rfl _) (fun ht340 => ?_) (fun ht340 => ?_)
     ·
      refine V.region (by kernel_rfl) ?_
      refine V.go (V.mv (o2 rfl s0_314) ?_)
      refine V.go (V.mv (o2 rfl (o1 rfl s0_314)) ?_)
      refine V.go (V.pv [(86, .pointer (some ⟨t, 0, none⟩))] ⟨(at_same hz312.p2.p1 rfl _), trivial⟩ (by kernel_rfl) (.pointer (some ⟨t, 0, none⟩)) (by kernel_rfl) ?_)
      refine V.go (V.pv [(87, .pointer (some ⟨t, 0, none⟩))] ⟨(at_same hz312.p4 rfl _), trivial⟩ (by kernel_rfl) (.pointer (some ⟨t, 1, none⟩)) (by kernel_rfl) ?_)
      refine V.go (V.ld ⟨t, 1, none⟩ (.slice (some ⟨gA, 0, none⟩) T1.a.length T1.a.length) (at_same hz312.p4.p1 rfl _) (by kernel_rfl) (hB288_308.at 1 rfl) ?_)
      refine V.go (V.pv [(89, .slice (some ⟨gA, 0, none⟩) T1.a.length T1.a.length)] ⟨(at_same hz312.p4.p2 rfl _), trivial⟩ (by kernel_rfl) (.int .i64 ((T1.a.length : Nat) : Int)) (by kernel_rfl) ?_)
      refine V.go (V.quoN T1.a.length 2 (at_same hz312.p4.p2.p1 rfl _) evc (by omega) (by omega) ?_)
      refine V.go (V.mks (enc := idV) (T1.a.length / 2) (.slice none 0 0) nilS 24 ((at_same hz312.p8 rfl _).trans (V.int_eq (by omega))) ((at_same hz312.p8 rfl _).trans (V.int_eq (by omega))) (by kernel_rfl) info42 rfl rfl (by omega) (by omega) ?_)
      intro w342 b341 heb341 hR343 hF344
      have hsb341 := hR343.lt
      have hRB_345 := hRB_304.fr0 hF344
      have hE_346 := hE_305.tr0 hF344
      have hK263_347 := hK263_306.alloc hF344 heb341 (by omega)
      have hR275_348 := hR275_307.fr0 hF344
      have hB288_349 := hB288_308.fr0 hF344
      refine V.go (V.pv [(85, .pointer (some ⟨t, 0, none⟩))] ⟨(o4 rfl (o2 rfl (o1 rfl (at_same hz312.p2 rfl _)))), trivial⟩ (by kernel_rfl) (.pointer (some ⟨t, 0, none⟩)) (by kernel_rfl) ?_)
      refine V.go (V.pv [(93, .pointer (some ⟨t, 0, none⟩))] ⟨(at_same hz312.p8.p2 rfl _), trivial⟩ (by kernel_rfl) (.pointer (some ⟨t, 2, none⟩)) (by kernel_rfl) ?_)
      refine V.go (V.stn t 2 (.slice (some ⟨b341, 0, none⟩) (T1.a.length / 2) (T1.a.length / 2)) [.slice (some ⟨b341, 0, none⟩) (T1.a.length / 2) (T1.a.length / 2)] (at_same hz312.p8.p2.p1 rfl _) (o2 rfl (at_same hz312.p8.p1 rfl _)) rfl rfl (by kernel_rfl) hB288_349 (by simp) [.int .u64 (T1.seed : Int), .slice (some ⟨gA, 0, none⟩) T1.a.length T1.a.length, .slice (some ⟨b341, 0, none⟩) (T1.a.length / 2) (T1.a.length / 2), .int .i64 (T1.moved : Int), .int .i64 ((T1.n : Int) - 1)] rfl ?_)
      intro w350 hB351 hF352 hsw350
      have hRB_353 := hRB_345.fr1 hF352 (by omega)
      have hE_354 := hE_346.tr hF352 (by intro k hk; simp only [List.mem_singleton] at hk; subst hk; first | exact .inl (by assumption) | exact .inr (by omega) | exact .inl (.inl rfl))
      have hK263_355 := hK263_347.fr hF352 (by simp)
      have hR275_356 := hR275_348.fr1 hF352 (by omega)
      have hR343_357 := hR343.fr1 hF352 (by omega)
      refine V.nil ?_
      refine V.then_n (hK299 _ _ ?_)
      refine V.flushW hz312.p8.p4 (fun a358 hz359 up360 => ?_)
      clear up360
      refine V.seq (fun K361 hK362 => ?_)
      refine V.region (by kernel_rfl) ?_
      refine V.go (V.asg evc ?_)
      refine V.nil ?_
      refine V.then_n (hK362 _ _ ?_)
      refine V.ret ?_
      refine V.ret1 hz359.p1 rfl (at_same hz359 rfl _) ?_
      exact absurd hg309 (by omega)
     ·
      refine V.skip ?_
      refine V.then_n (hK299 _ _ ?_)
      refine V.seq (fun K363 hK364 => ?_)
      refine V.region (by kernel_rfl) ?_
      refine V.go (V.asg evc ?_)
      refine V.nil ?_
      refine V.then_n (hK364 _ _ ?_)
      refine V.ret ?_
      refine V.ret1 hz312.p2.p1 rfl (at_same hz312.p2 rfl _) ?_
      exact absurd hg309 (by omega)
    ·
     refine V.go_off 72 (by kernel_rfl) (((at_same hz295.p8.p4.p2 rfl _ : Act.eval _ _ = (.bool (decide (((T1.a.length : Nat) : Int) > 4))))).trans (df hg310)) (by kernel_rfl) ?_
     refine V.go_off 72 (by kernel_rfl) (((o1 rfl (at_same hz295.p8.p4.p2 rfl _) : Act.eval _ _ = (.bool (decide (((T1.a.length : Nat) : Int) > 4))))).trans (df hg310)) (by kernel_rfl) ?_
     refine V.go_off 72 (by kernel_rfl) (((o2 rfl (at_same hz295.p8.p4.p2 rfl _) : Act.eval _ _ = (.bool (decide (((T1.a.length : Nat) : Int) > 4))))).trans (df hg310)) (by kernel_rfl) ?_
     refine V.go_off 72 (by kernel_rfl) (((o2 rfl (o1 rfl (at_same hz295.p8.p4.p2 rfl _)) : Act.eval _ _ = (.bool (decide (((T1.a.length : Nat) : Int) > 4))))).trans (df hg310)) (by kernel_rfl) ?_
     refine V.go_off 72 (by kernel_rfl) (((o4 rfl (at_same hz295.p8.p4.p2 rfl _) : Act.eval _ _ = (.bool (decide (((T1.a.length : Nat) : Int) > 4))))).trans (df hg310)) (by kernel_rfl) ?_
     refine V.go_off 72 (by kernel_rfl) (((o4 rfl (o1 rfl (at_same hz295.p8.p4.p2 rfl _)) : Act.eval _ _ = (.bool (decide (((T1.a.length : Nat) : Int) > 4))))).trans (df hg310)) (by kernel_rfl) ?_
     refine V.go_off 72 (by kernel_rfl) (((o4 rfl (o2 rfl (at_same hz295.p8.p4.p2 rfl _)) : Act.eval _ _ = (.bool (decide (((T1.a.length : Nat) : Int) > 4))))).trans (df hg310)) (by kernel_rfl) ?_
     refine V.go_off 72 (by kernel_rfl) (((o4 rfl (o2 rfl (o1 rfl (at_same hz295.p8.p4.p2 rfl _))) : Act.eval _ _ = (.bool (decide (((T1.a.length : Nat) : Int) > 4))))).trans (df hg310)) (by kernel_rfl) ?_
     refine V.go_off 72 (by kernel_rfl) (((o8 rfl (at_same hz295.p8.p4.p2 rfl _) : Act.eval _ _ = (.bool (decide (((T1.a.length : Nat) : Int) > 4))))).trans (df hg310)) (by kernel_rfl) ?_
     refine V.go_off 72 (by kernel_rfl) (((o8 rfl (o1 rfl (at_same hz295.p8.p4.p2 rfl _)) : Act.eval _ _ = (.bool (decide (((T1.a.length : Nat) : Int) > 4))))).trans (df hg310)) (by kernel_rfl) ?_
     refine V.flushL hz295.p16.p8.p1 (fun a365 hz366 up367 => ?_)
     have s0_368 := up367 0 _ (o16 rfl (o8 rfl (o1 rfl s0_297)))
     have s58_369 := up367 58 _ (o16 rfl (o8 rfl (at_same hz295 rfl _)))
     have s59_370 := up367 59 _ (o16 rfl (o4 rfl (o2 rfl (o1 rfl (at_same hz295.p1 rfl _)))))
     have s60_371 := up367 60 _ (o16 rfl (o4 rfl (o2 rfl (at_same hz295.p2 rfl _))))
     have s61_372 := up367 61 _ (o16 rfl (o4 rfl (o1 rfl (at_same hz295.p2.p1 rfl _))))
     have s62_373 := up367 62 _ (o16 rfl (o4 rfl (at_same hz295.p4 rfl _)))
     have s63_374 := up367 63 _ (o16 rfl (o2 rfl (o1 rfl (at_same hz295.p4.p1 rfl _))))
     have s64_375 := up367 64 _ (o16 rfl (o2 rfl (at_same hz295.p4.p2 rfl _)))
     have s65_376 := up367 65 _ (o16 rfl (o1 rfl (at_same hz295.p4.p2.p1 rfl _)))
     have s66_377 := up367 66 _ (o16 rfl (at_same hz295.p8 rfl _))
     have s67_378 := up367 67 _ (o8 rfl (o4 rfl (o2 rfl (o1 rfl (at_same hz295.p8.p1 rfl _)))))
     have s68_379 := up367 68 _ (o8 rfl (o4 rfl (o2 rfl (at_same hz295.p8.p2 rfl _))))
     have s69_380 := up367 69 _ (o8 rfl (o4 rfl (o1 rfl (at_same hz295.p8.p2.p1 rfl _))))
     have s70_381 := up367 70 _ (o8 rfl (o4 rfl (at_same hz295.p8.p4 rfl _)))
     have s71_382 := up367 71 _ (o8 rfl (o2 rfl (o1 rfl (at_same hz295.p8.p4.p1 rfl _))))
     have s72_383 := up367 72 _ (o8 rfl (o2 rfl (at_same hz295.p8.p4.p2 rfl _)))
     have s73_384 := up367 73 _ (o8 rfl (o1 rfl (at_same hz295.p8.p4.p2.p1 rfl _)))
     have s74_385 := up367 74 _ (o8 rfl (at_same hz295.p16 rfl _))
     have s75_386 := up367 75 _ (o4 rfl (o2 rfl (o1 rfl (at_same hz295.p16.p1 rfl _))))
     have s76_387 := up367 76 _ (o4 rfl (o2 rfl (at_same hz295.p16.p2 rfl _)))
     have s77_388 := up367 77 _ (o4 rfl (o1 rfl (at_same hz295.p16.p2.p1 rfl _)))
     have s78_389 := up367 78 _ (o4 rfl (at_same hz295.p16.p4 rfl _))
     have s79_390 := up367 79 _ (o2 rfl (o1 rfl (at_same hz295.p16.p4.p1 rfl _)))
     have s80_391 := up367 80 _ (o2 rfl (at_same hz295.p16.p4.p2 rfl _))
     have s81_392 := up367 81 _ (o1 rfl (at_same hz295.p16.p4.p2.p1 rfl _))
     have s82_393 := up367 82 _ (at_same hz295.p16.p8 rfl _)
     clear up367
     refine V.go_off 72 (by kernel_rfl) ((s72_383).trans (df hg310)) (by kernel_rfl) ?_
     refine V.go (V.pk_f (((o1 rfl s72_383 : Act.eval _ _ = (.bool (decide (((T1.a.length : Nat) : Int) > 4))))).trans (df hg310)) (v := (.bool false)) evc ?_)
     refine V.nil ?_
     refine ⟨chk [(58, .pointer (some ⟨t, 0, none⟩)), (61, .slice (some ⟨gB, 0, none⟩) T1.b.length T1.b.length), (62, .int .i64 ((T1.b.length : Nat) : Int)), (65, .pointer (some ⟨t, 0, none⟩)), (68, .slice (some ⟨gA, 0, none⟩) T1.a.length T1.a.length), (69, .int .i64 ((T1.a.length : Nat) : Int)), (73, undef), (76, undef), (78, undef), (81, undef), (77, undef), (82, undef), (64, .bool true), (72, .bool false)] ⟨(o2 rfl s58_369), (o2 rfl s61_372), (o2 rfl s62_373), (o2 rfl s65_376), (o2 rfl s68_379), (o2 rfl s69_380), (o2 rfl s73_384), (o2 rfl s76_387), (o2 rfl s78_389), (o2 rfl s81_392), (o2 rfl s77_388), (o2 rfl s82_393), (((o2 rfl s64_375 : Act.eval _ _ = (.bool (decide (((T1.b.length : Nat) : Int) = 0))))).trans (dt hg309)), (((o2 rfl s72_383 : Act.eval _ _ = (.bool (decide (((T1.a.length : Nat) : Int) > 4))))).trans (df hg310)), trivial⟩ (by kernel_rfl), ?_⟩
     refine V.then_n (hK301 _ _ ?_)
     refine V.cond_f (at_same hz366.p1 rfl _) ?_
     refine V.skip ?_
     refine V.then_n (hK299 _ _ ?_)
     refine V.seq (fun K394 hK395 => ?_)
     refine V.region (by kernel_rfl) ?_
     refine V.go (V.asg evc ?_)
     refine V.nil ?_
     refine V.then_n (hK395 _ _ ?_)
     refine V.ret ?_
     refine V.ret1 hz366.p2.p1 rfl (at_same hz366.p2 rfl _) ?_
     exact absurd hg309 (by omega)
   ·
    refine V.go_off 64 (by kernel_rfl) (((at_same hz295.p4.p2 rfl _ : Act.eval _ _ = (.bool (decide (((T1.b.length : Nat) : Int) = 0))))).trans (df hg309)) (by kernel_rfl) ?_
    refine V.go_off 64 (by kernel_rfl) (((o1 rfl (at_same hz295.p4.p2 rfl _) : Act.eval _ _ = (.bool (decide (((T1.b.length : Nat) : Int) = 0))))).trans (df hg309)) (by kernel_rfl) ?_
    refine V.go_off 64 (by kernel_rfl) (((o2 rfl (at_same hz295.p4.p2 rfl _) : Act.eval _ _ = (.bool (decide (((T1.b.length : Nat) : Int) = 0))))).trans (df hg309)) (by kernel_rfl) ?_
    refine V.go_off 64 (by kernel_rfl) (((o2 rfl (o1 rfl (at_same hz295.p4.p2 rfl _)) : Act.eval _ _ = (.bool (decide (((T1.b.length : Nat) : Int) = 0))))).trans (df hg309)) (by kernel_rfl) ?_
    refine V.go_off 64 (by kernel_rfl) (((o4 rfl (at_same hz295.p4.p2 rfl _) : Act.eval _ _ = (.bool (decide (((T1.b.length : Nat) : Int) = 0))))).trans (df hg309)) (by kernel_rfl) ?_
    refine V.go_off 64 (by kernel_rfl) (((o4 rfl (o1 rfl (at_same hz295.p4.p2 rfl _)) : Act.eval _ _ = (.bool (decide (((T1.b.length : Nat) : Int) = 0))))).trans (df hg309)) (by kernel_rfl) ?_
    refine V.go (V.pk_f (((o4 rfl (o2 rfl (at_same hz295.p4.p2 rfl _)) : Act.eval _ _ = (.bool (decide (((T1.b.length : Nat) : Int) = 0))))).trans (df hg309)) (v := (.bool false)) evc ?_)
    refine V.go (V.mv (at_same hz295.p8.p4.p1 rfl _) ?_)
    refine V.go_off 72 (by kernel_rfl) (at_same hz295.p8.p4.p2 rfl _) (by kernel_rfl) ?_
    refine V.go_off 72 (by kernel_rfl) (o1 rfl (at_same hz295.p8.p4.p2 rfl _)) (by kernel_rfl) ?_
    refine V.go_off 72 (by kernel_rfl) (o2 rfl (at_same hz295.p8.p4.p2 rfl _)) (by kernel_rfl) ?_
    refine V.go_off 72 (by kernel_rfl) (o2 rfl (o1 rfl (at_same hz295.p8.p4.p2 rfl _))) (by kernel_rfl) ?_
    refine V.go_off 72 (by kernel_rfl) (o4 rfl (at_same hz295.p8.p4.p2 rfl _)) (by kernel_rfl) ?_
    refine V.go_off 72 (by kernel_rfl) (o4 rfl (o1 rfl (at_same hz295.p8.p4.p2 rfl _))) (by kernel_rfl) ?_
    refine V.go_off 72 (by kernel_rfl) (o4 rfl (o2 rfl (at_same hz295.p8.p4.p2 rfl _))) (by kernel_rfl) ?_
    refine V.go_off 72 (by kernel_rfl) (o4 rfl (o2 rfl (o1 rfl (at_same hz295.p8.p4.p2 rfl _)))) (by kernel_rfl) ?_
    refine V.go_off 72 (by kernel_rfl) (o8 rfl (at_same hz295.p8.p4.p2 rfl _)) (by kernel_rfl) ?_
    refine V.go_off 72 (by kernel_rfl) (o8 rfl (o1 rfl (at_same hz295.p8.p4.p2 rfl _))) (by kernel_rfl) ?_
    refine V.flushL hz295.p16.p8.p1 (fun a396 hz397 up398 => ?_)
    have s0_399 := up398 0 _ (o16 rfl (o8 rfl (o1 rfl s0_297)))
    have s58_400 := up398 58 _ (o16 rfl (o8 rfl (at_same hz295 rfl _)))
    have s59_401 := up398 59 _ (o16 rfl (o4 rfl (o2 rfl (o1 rfl (at_same hz295.p1 rfl _)))))
    have s60_402 := up398 60 _ (o16 rfl (o4 rfl (o2 rfl (at_same hz295.p2 rfl _))))
    have s61_403 := up398 61 _ (o16 rfl (o4 rfl (o1 rfl (at_same hz295.p2.p1 rfl _))))
    have s62_404 := up398 62 _ (o16 rfl (o4 rfl (at_same hz295.p4 rfl _)))
    have s63_405 := up398 63 _ (o16 rfl (o2 rfl (o1 rfl (at_same hz295.p4.p1 rfl _))))
    have s64_406 := up398 64 _ (o16 rfl (o2 rfl (at_same hz295.p4.p2 rfl _)))
    have s65_407 := up398 65 _ (o16 rfl (o1 rfl (at_same hz295.p4.p2.p1 rfl _)))
    have s66_408 := up398 66 _ (o16 rfl (at_same hz295.p8 rfl _))
    have s67_409 := up398 67 _ (o8 rfl (o4 rfl (o2 rfl (o1 rfl (at_same hz295.p8.p1 rfl _)))))
    have s68_410 := up398 68 _ (o8 rfl (o4 rfl (o2 rfl (at_same hz295.p8.p2 rfl _))))
    have s69_411 := up398 69 _ (o8 rfl (o4 rfl (o1 rfl (at_same hz295.p8.p2.p1 rfl _))))
    have s70_412 := up398 70 _ (o8 rfl (o4 rfl (at_same hz295.p8.p4 rfl _)))
    have s71_413 := up398 71 _ (o8 rfl (o2 rfl (o1 rfl (at_same hz295.p8.p4.p1 rfl _))))
    have s72_414 := up398 72 _ (o8 rfl (o2 rfl (at_same hz295.p8.p4.p2 rfl _)))
    have s73_415 := up398 73 _ (o8 rfl (o1 rfl (at_same hz295.p8.p4.p2.p1 rfl _)))
    have s74_416 := up398 74 _ (o8 rfl (at_same hz295.p16 rfl _))
    have s75_417 := up398 75 _ (o4 rfl (o2 rfl (o1 rfl (at_same hz295.p16.p1 rfl _))))
    have s76_418 := up398 76 _ (o4 rfl (o2 rfl (at_same hz295.p16.p2 rfl _)))
    have s77_419 := up398 77 _ (o4 rfl (o1 rfl (at_same hz295.p16.p2.p1 rfl _)))
    have s78_420 := up398 78 _ (o4 rfl (at_same hz295.p16.p4 rfl _))
    have s79_421 := up398 79 _ (o2 rfl (o1 rfl (at_same hz295.p16.p4.p1 rfl _)))
    have s80_422 := up398 80 _ (o2 rfl (at_same hz295.p16.p4.p2 rfl _))
    have s81_423 := up398 81 _ (o1 rfl (at_same hz295.p16.p4.p2.p1 rfl _))
    have s82_424 := up398 82 _ (at_same hz295.p16.p8 rfl _)
    clear up398
    refine V.go_off 72 (by kernel_rfl) (s72_414) (by kernel_rfl) ?_
    refine V.go (V.pk_f (o1 rfl s72_414) (v := (.bool false)) evc ?_)
    refine V.nil ?_
    refine ⟨chk [(58, .pointer (some ⟨t, 0, none⟩)), (61, .slice (some ⟨gB, 0, none⟩) T1.b.length T1.b.length), (62, .int .i64 ((T1.b.length : Nat) : Int)), (65, undef), (68, undef), (69, undef), (73, undef), (76, undef), (78, undef), (81, undef), (77, undef), (82, undef), (64, .bool false), (72, .bool false)] ⟨(o2 rfl s58_400), (o2 rfl s61_403), (o2 rfl s62_404), (o2 rfl s65_407), (o2 rfl s68_410), (o2 rfl s69_411), (o2 rfl s73_415), (o2 rfl s76_418), (o2 rfl s78_420), (o2 rfl s81_423), (o2 rfl s77_419), (o2 rfl s82_424), (((o2 rfl s64_406 : Act.eval _ _ = (.bool (decide (((T1.b.length : Nat) : Int) = 0))))).trans (df hg309)), (o2 rfl s72_414), trivial⟩ (by kernel_rfl), ?_⟩
    refine V.then_n (hK301 _ _ ?_)
    refine V.cond_f (at_same hz397.p1 rfl _) ?_
    refine V.skip ?_
    refine V.then_n (hK299 _ _ ?_)
    refine V.seq (fun K425 hK426 => ?_)
    refine V.region (by kernel_rfl) ?_
    refine V.go (V.asg evc ?_)
    refine V.nil ?_
    refine V.then_n (hK426 _ _ ?_)
    refine V.ret ?_
    refine V.ret1 hz397.p2.p1 rfl (at_same hz397.p2 rfl _) ?_
    have hst : delT T k = shrT (rm1T T1 k) := by (unfold delT; rw [← hT1]; unfold del1T; rw [hf, if_pos rfl])
    have hu2 : rm1T T1 k = ({ T1 with a := rmV T1.a (bkt T1.seed T1.a.length k) j, n := T1.n - 1 } : Tb Int) := by (unfold rm1T; rw [hf]; simp)
    have hup := (rm1T_ok hok1 hm1 k (by rw [hf])).1
    rw [hu2] at hup
    rw [hst, hu2]
    have hsh : shrT ({ T1 with a := rmV T1.a (bkt T1.seed T1.a.length k) j, n := T1.n - 1 } : Tb Int) = ({ T1 with a := rmV T1.a (bkt T1.seed T1.a.length k) j, n := T1.n - 1 } : Tb Int) := by (unfold shrT; rw [if_neg]; rintro ⟨h0, _⟩; exact hb1 (by first | exact h0 | (have h1 : (rmV T1.b (bkt T1.seed T1.b.length k) j).length = 0 := h0; rwa [rmV_length] at h1)))
    rw [hsh]
    exact ⟨by rw [hf], (TabM.fin (T := ({ T1 with a := rmV T1.a (bkt T1.seed T1.a.length k) j, n := T1.n - 1 } : Tb Int)) hup hb0 hB288_308 hR275_307 hRB_304 (by first | exact hlA | (simp only [List.length_set]; exact hlA)) hK263_306 (mem4 (l := (t :: gA :: gB :: av)) (by simp) (by simp) (by simp) (by intro k hk; simp [hk])) (by first | assumption | omega) (by first | assumption | omega) (by first | assumption | omega) hpt ⟨.inl hpg.1, hpg.2⟩ ⟨.inl hph.1, hph.2⟩ rfl (rmV_length _ _ _).symm rfl (by show ((T1.n : Int) - 1) = ((T1.n - 1 : Nat) : Int); omega) rfl rfl rfl).gr3 (by omega), (hFPE.gr hE_305)⟩
 ·
  rcases hT5q.2 with ⟨hb0, gA, vsA, hN⟩ | ⟨hb0, gA, gB, vsA, vsB, hN⟩
  ·
   exact absurd (by rw [hb0]; rfl) hbn
  ·
   have hb1 : T1.b.length ≠ 0 := fun h => hb0 (List.eq_nil_of_length_eq_zero h)
   obtain ⟨hB, hRA, hRB, hlA, hlB, hK, hne, hne2, hne3, hpt, hpg, hph⟩ := hN
   replace hK := hK.toH
   have hltt := hB.lt
   have hltg := hRA.lt
   have hltg2 := hRB.lt
   have hE : FrP (gp (gr H w w7) av) w7 w7 := FrP.refl _ _
   have hK0 : ∀ k ∈ av, k < w7.heap.size := fun k hk => hK.avl k (by simp [hk])
   obtain ⟨hsd, hpa, hla, hlb, hmv, hmz, hnn, hcn, hks⟩ := (show T1.Ok from hok1)
   have hbl := hok1.bl
   have hFPE := hFP_8
   refine V.go (V.call 71 #[] #[.pointer (some ⟨t, 0, none⟩), .string k] evf (args2 (o1 rfl (at_same hz.p2.p1 rfl _)) (at_same hz.p4 rfl _)) (Go.Proofs.enters_of Try.func71 (by kernel_rfl) rfl) (by have h := rfind_any w7 (gr H w w7) (av) t T1 hT5q k hkz; rw [rfT_yes hf] at h; exact h) ?_)
   rintro _ w428 ⟨rfl, hF427⟩
   refine ⟨_, rfl, ?_⟩
   have hsw428 := hF427.size
   have hB_429 := hB.fr0 hF427
   have hRA_430 := hRA.fr0 hF427
   have hRB_431 := hRB.fr0 hF427
   have hK_432 := hK.fr0 hF427
   have hE_433 := hE.tr0 hF427
   have hbkl := bkt_lt T1.seed k (n := T1.b.length) (by omega)
   have hbq := hbl (bkt T1.seed T1.b.length k)
   refine V.go (V.mv (at_same hz.p4.p1 rfl _) ?_)
   refine V.go (V.pv [(10, .tuple #[.int .i64 1, .int .i64 ((bkt T1.seed T1.b.length k : Nat) : Int), .int .i64 (j : Int)])] ⟨(at_same hz.p4.p2 rfl _), trivial⟩ (by kernel_rfl) (.int .i64 1) (by kernel_rfl) ?_)
   refine V.go (V.pv [(10, .tuple #[.int .i64 1, .int .i64 ((bkt T1.seed T1.b.length k : Nat) : Int), .int .i64 (j : Int)])] ⟨(o1 rfl (at_same hz.p4.p2 rfl _)), trivial⟩ (by kernel_rfl) (.int .i64 ((bkt T1.seed T1.b.length k : Nat) : Int)) (by kernel_rfl) ?_)
   refine V.go (V.pv [(10, .tuple #[.int .i64 1, .int .i64 ((bkt T1.seed T1.b.length k : Nat) : Int), .int .i64 (j : Int)])] ⟨(o2 rfl (at_same hz.p4.p2 rfl _)), trivial⟩ (by kernel_rfl) (.int .i64 (j : Int)) (by kernel_rfl) ?_)
   refine V.go (V.asg (o2 rfl (at_same hz.p4.p2.p1 rfl _)) ?_)
   refine V.go (V.asg (o2 rfl (at_same hz.p8 rfl _)) ?_)
   refine V.go (V.asg (o2 rfl (at_same hz.p8.p1 rfl _)) ?_)
   refine V.nil ?_
   refine V.then_n (hK10 _ _ ?_)
   refine V.flushW hz.p8.p4.p1 (fun a434 hz435 up436 => ?_)
   have s0_437 := up436 0 _ (o8 rfl (o4 rfl (o1 rfl s0)))
   have s5_438 := up436 5 _ (o2 rfl (at_same hz.p8.p2 rfl _))
   have s6_439 := up436 6 _ (o1 rfl (at_same hz.p8.p2.p1 rfl _))
   have s7_440 := up436 7 _ (at_same hz.p8.p4 rfl _)
   clear up436
   refine V.seq (fun K441 hK442 => ?_)
   refine V.seq (fun K443 hK444 => ?_)
   refine V.region (by kernel_rfl) ?_
   refine V.go (V.mv (s5_438) ?_)
   refine V.go (V.pv [(17, .int .i64 1)] ⟨(at_same hz435 rfl _), trivial⟩ (by kernel_rfl) (.bool false) (by kernel_rfl) ?_)
   refine V.nil ?_
   refine V.then_n (hK444 _ _ ?_)
   refine V.cond_f (at_same hz435.p1 rfl _) ?_
   refine V.skip ?_
   refine V.then_n (hK442 _ _ ?_)
   refine V.seq (fun K445 hK446 => ?_)
   refine V.seq (fun K447 hK448 => ?_)
   refine V.region (by kernel_rfl) ?_
   refine V.go (V.mv (o2 rfl s5_438) ?_)
   refine V.go (V.pv [(19, .int .i64 1)] ⟨(at_same hz435.p2 rfl _), trivial⟩ (by kernel_rfl) (.bool false) (by kernel_rfl) ?_)
   refine V.nil ?_
   refine V.then_n (hK448 _ _ ?_)
   refine V.flushW hz435.p4 (fun a449 hz450 up451 => ?_)
   have s0_452 := up451 0 _ (o4 rfl s0_437)
   have s6_453 := up451 6 _ (o4 rfl s6_439)
   have s7_454 := up451 7 _ (o4 rfl s7_440)
   have s20_455 := up451 20 _ (at_same hz435.p2.p1 rfl _)
   clear up451
   refine V.cond_f (s20_455) ?_
   refine V.plan [[], [0], [0, 1], [0, 1, 2], [], [], [5], [5, 6], [5, 6, 7], [], [5, 6, 7, 8, 9], [5, 6, 7, 8, 9, 10], [], [5, 6, 7, 8, 9, 10, 11, 12], [0, 1, 2, 3, 4, 5, 6, 7, 8, 9, 10, 11, 12, 13], [0, 1, 2, 3, 4, 5, 6, 7, 8, 9, 10, 11, 12, 13, 14]] [([0, 1, 2, 3, 4, 5, 6, 7, 8, 9, 10, 11, 12], some (13, [3])), ([14], some (15, [])), ([], none)] (by kernel_rfl) (by kernel_rfl) (by exact fun _ _ _ _ h => h) ?_
   simp only [Plan.wpSegs, Plan.pickAll, Plan.nth, V.L_eq]
   obtain ⟨w456, hF457e⟩ : ∃ w1, w1 = w428.drew := ⟨_, rfl⟩
   rw [← hF457e]
   have hF457 : Fr [] w428 w456 := by rw [hF457e]; exact Fr.drew _ _
   have hsw456 : w456.heap.size = w428.heap.size := by rw [hF457e]; rfl
   clear hF457e
   have hB_458 := hB_429.fr0 hF457
   have hRA_459 := hRA_430.fr0 hF457
   have hRB_460 := hRB_431.fr0 hF457
   have hK_461 := hK_432.fr0 hF457
   have hE_462 := hE_433.tr0 hF457
   refine V.go (V.mv (s0_452) ?_)
   refine V.go (V.pv [(36, .pointer (some ⟨t, 0, none⟩))] ⟨(at_same hz450 rfl _), trivial⟩ (by kernel_rfl) (.pointer (some ⟨t, 0, none⟩)) (by kernel_rfl) ?_)
   refine V.go (V.pv [(37, .pointer (some ⟨t, 0, none⟩))] ⟨(at_same hz450.p1 rfl _), trivial⟩ (by kernel_rfl) (.pointer (some ⟨t, 2, none⟩)) (by kernel_rfl) ?_)
   refine V.go (V.ld ⟨t, 2, none⟩ (.slice (some ⟨gB, 0, none⟩) T1.b.length T1.b.length) (at_same hz450.p2 rfl _) (by kernel_rfl) (hB_458.at 2 rfl) ?_)
   refine V.go (V.mv (o4 rfl s6_453) ?_)
   refine V.go (V.mv (o4 rfl (o1 rfl s0_452)) ?_)
   refine V.go (V.pv [(41, .pointer (some ⟨t, 0, none⟩))] ⟨(at_same hz450.p4.p1 rfl _), trivial⟩ (by kernel_rfl) (.pointer (some ⟨t, 0, none⟩)) (by kernel_rfl) ?_)
   refine V.go (V.pv [(42, .pointer (some ⟨t, 0, none⟩))] ⟨(at_same hz450.p4.p2 rfl _), trivial⟩ (by kernel_rfl) (.pointer (some ⟨t, 2, none⟩)) (by kernel_rfl) ?_)
   refine V.go (V.ld ⟨t, 2, none⟩ (.slice (some ⟨gB, 0, none⟩) T1.b.length T1.b.length) (at_same hz450.p4.p2.p1 rfl _) (by kernel_rfl) (hB_458.at 2 rfl) ?_)
   refine V.go (V.mv (o8 rfl (o1 rfl s6_453)) ?_)
   refine V.go (V.ixa gB 0 T1.b.length T1.b.length .i64 ((bkt T1.seed T1.b.length k : Nat) : Int) 1 (o1 rfl (at_same hz450.p8 rfl _)) (at_same hz450.p8.p1 rfl _) (by omega) (by omega) (by kernel_rfl) ?_)
   obtain ⟨A463, c464, hv465⟩ := hK_461.getB hlA (i := (bkt T1.seed T1.b.length k)) (by omega) nilS
   refine V.go (V.ld ⟨gB, 0 + ((bkt T1.seed T1.b.length k : Nat) : Int).toNat * 1, none⟩ (.slice A463 ((T1.b.getD (bkt T1.seed T1.b.length k) []).length) c464) (at_same hz450.p8.p2 rfl _) (by kernel_rfl) ((hRB_460.at (bkt T1.seed T1.b.length k) nilS (by omega)).trans (congrArg some hv465)) ?_)
   have hS466 := hK_461.slB hlA (i := (bkt T1.seed T1.b.length k)) (by omega) hv465
   refine V.go (V.mv (o8 rfl (o4 rfl s7_454)) ?_)
   refine V.nil ?_
   refine ⟨chk [(36, .pointer (some ⟨t, 0, none⟩)), (41, .pointer (some ⟨t, 0, none⟩))] ⟨(o8 rfl (o4 rfl (at_same hz450 rfl _))), (o4 rfl (o2 rfl (o1 rfl (at_same hz450.p4.p1 rfl _)))), trivial⟩ (by kernel_rfl), ?_⟩
   obtain ⟨g474, o475, hAe, _, _⟩ := hS466.addr (by omega)
   have hSz472 := hS466.zone (Z' := fun b => b < w456.heap.size) (fun b hb _ => hb)
   rw [hAe] at hSz472
   have hA473 := hS466.cap
   refine V.go (V.call 73 #[] #[.slice A463 ((T1.b.getD (bkt T1.seed T1.b.length k) []).length) c464, .int .i64 (j : Int)] evf (args2 (o1 rfl (at_same hz450.p8.p2.p1 rfl _)) (at_same hz450.p8.p4 rfl _)) (Go.Proofs.enters_of Try.func73 (by kernel_rfl) rfl) (by (rw [hAe]; exact rwithout_any w456 g474 o475 c464 j (T1.b.getD (bkt T1.seed T1.b.length k) []) hSz472 (by omega) hA473 (by omega))) ?_)
   rintro _ w476 ⟨A469, c470, rfl, hOr467, hF468⟩
   refine ⟨_, rfl, ?_⟩
   have hsw476 := hF468.size
   have hB_477 := hB_458.fr0 hF468
   have hRA_478 := hRA_459.fr0 hF468
   have hRB_479 := hRB_460.fr0 hF468
   have hE_480 := hE_462.tr0 hF468
   have hS466_481 := hS466.fr0 hF468
   have hK471 := hK_461.newB hlA (i := (bkt T1.seed T1.b.length k)) (by omega) hF468 hOr467 (fun k hk => .inr (by omega))
   refine V.nil ?_
   refine ⟨(fun _ => held_blk (n := 1) (hx := (o8 rfl (o2 rfl (at_same hz450.p2 rfl _)))) hB_458 hB_477 (by kernel_rfl) rfl (by simp only [List.length]; omega)), ?_⟩
   refine V.go (V.ixa gB 0 T1.b.length T1.b.length .i64 ((bkt T1.seed T1.b.length k : Nat) : Int) 1 (o8 rfl (o2 rfl (at_same hz450.p2.p1 rfl _))) (o8 rfl (o1 rfl (at_same hz450.p4 rfl _))) (by omega) (by omega) (by kernel_rfl) ?_)
   refine V.nil ?_
   refine ⟨chk [] trivial (by kernel_rfl), ?_⟩
   refine V.go (V.strow (enc := idV) gB (((bkt T1.seed T1.b.length k : Nat) : Int).toNat) (.slice A469 ((T1.b.getD (bkt T1.seed T1.b.length k) []).length - 1) c470) (at_same hz450.p8.p4.p2 rfl _) (o1 rfl (at_same hz450.p8.p4.p1 rfl _)) rfl rfl (by kernel_rfl) hRB_479 (by first | omega | (simp only [List.length_set, List.length_replicate]; omega)) ?_)
   intro w482 hR483 hF484 hsw482
   have hB_485 := hB_477.fr1 hF484 (by omega)
   have hRA_486 := hRA_478.fr1 hF484 (by omega)
   have hE_487 := hE_480.tr hF484 (by intro k hk; simp only [List.mem_singleton] at hk; subst hk; first | exact .inl (by assumption) | exact .inr (by omega) | exact .inl (.inl rfl))
   have hK471_488 := hK471.fr hF484 (by simp)
   refine V.nil ?_
   refine ⟨trivial, ?_⟩
   refine V.nil ?_
   refine ⟨chk [] trivial (by kernel_rfl), ?_⟩
   refine V.then_n (hK446 _ _ ?_)
   refine V.flushW hz450.p8.p4.p2.p1 (fun a489 hz490 up491 => ?_)
   have s0_492 := up491 0 _ (o8 rfl (o4 rfl (o2 rfl (o1 rfl s0_452))))
   clear up491
   refine V.seq (fun K493 hK494 => ?_)
   refine V.region (by kernel_rfl) ?_
   refine V.go (V.mv (s0_492) ?_)
   refine V.go (V.pv [(51, .pointer (some ⟨t, 0, none⟩))] ⟨(at_same hz490 rfl _), trivial⟩ (by kernel_rfl) (.pointer (some ⟨t, 0, none⟩)) (by kernel_rfl) ?_)
   refine V.go (V.pv [(52, .pointer (some ⟨t, 0, none⟩))] ⟨(at_same hz490.p1 rfl _), trivial⟩ (by kernel_rfl) (.pointer (some ⟨t, 4, none⟩)) (by kernel_rfl) ?_)
   refine V.go (V.ld ⟨t, 4, none⟩ (.int .i64 (T1.n : Int)) (at_same hz490.p2 rfl _) (by kernel_rfl) (hB_485.at 4 rfl) ?_)
   refine V.go (V.pvw [(54, .int .i64 (T1.n : Int))] ⟨(at_same hz490.p2.p1 rfl _), trivial⟩ (by kernel_rfl) (.int .i64 (IntKind.i64.wrap ((T1.n : Int) - 1))) (.int .i64 ((T1.n : Int) - 1)) (by kernel_rfl) (V.w_i64 (by omega) (by omega)) ?_)
   refine V.go (V.pv [(51, .pointer (some ⟨t, 0, none⟩))] ⟨(o4 rfl (at_same hz490 rfl _)), trivial⟩ (by kernel_rfl) (.pointer (some ⟨t, 0, none⟩)) (by kernel_rfl) ?_)
   refine V.go (V.pv [(56, .pointer (some ⟨t, 0, none⟩))] ⟨(at_same hz490.p4.p1 rfl _), trivial⟩ (by kernel_rfl) (.pointer (some ⟨t, 4, none⟩)) (by kernel_rfl) ?_)
   refine V.go (V.stn t 4 (.int .i64 ((T1.n : Int) - 1)) [.int .i64 ((T1.n : Int) - 1)] (at_same hz490.p4.p2 rfl _) (o2 rfl (at_same hz490.p4 rfl _)) rfl rfl (by kernel_rfl) hB_485 (by simp) [.int .u64 (T1.seed : Int), .slice (some ⟨gA, 0, none⟩) T1.a.length T1.a.length, .slice (some ⟨gB, 0, none⟩) T1.b.length T1.b.length, .int .i64 (T1.moved : Int), .int .i64 ((T1.n : Int) - 1)] rfl ?_)
   intro w495 hB496 hF497 hsw495
   have hRA_498 := hRA_486.fr1 hF497 (by omega)
   have hE_499 := hE_487.tr hF497 (by intro k hk; simp only [List.mem_singleton] at hk; subst hk; first | exact .inl (by assumption) | exact .inr (by omega) | exact .inl (.inl rfl))
   have hK471_500 := hK471_488.fr hF497 (by simp)
   have hR483_501 := hR483.fr1 hF497 (by omega)
   refine V.nil ?_
   refine V.then_n (hK494 _ _ ?_)
   refine V.flushW hz490.p4.p2.p1 (fun a502 hz503 up504 => ?_)
   have s0_505 := up504 0 _ (o4 rfl (o2 rfl (o1 rfl s0_492)))
   clear up504
   refine V.seq (fun K506 hK507 => ?_)
   refine V.seq (fun K508 hK509 => ?_)
   refine V.plan [[], [0], [0, 1], [0, 1, 2], [0, 1, 2, 3], [0, 1, 2, 3, 4], [0, 1, 2, 3, 4, 5], [0, 1, 2, 3, 4, 5, 6], [0, 1, 2, 3, 4, 5, 6, 7], [0, 1, 2, 3, 4, 5, 6, 7, 8], [0, 1, 2, 3, 4, 5, 6, 7, 8, 9], [0, 1, 2, 3, 4, 5, 6, 7, 8, 9, 10], [0, 1, 2, 3, 4, 5, 6, 7, 8, 9, 10, 11], [0, 1, 2, 3, 4, 5, 6, 7, 8, 9, 10, 11, 12], [0, 1, 2, 3, 4, 5, 6, 7, 8, 9, 10, 11, 12, 13], [0, 1, 2, 3, 4, 5, 6, 7, 8, 9, 10, 11, 12, 13, 14], [0, 1, 2, 3, 4, 5, 6, 7, 8, 9, 10, 11, 12, 13, 14, 15], [0, 1, 2, 3, 4, 5, 6, 7, 8, 9, 10, 11, 12, 13, 14, 15, 16], [0, 1, 2, 3, 4, 5, 6, 7, 8, 9, 10, 11, 12, 13, 14, 15, 16, 17], [0, 1, 2, 3, 4, 5, 6, 7, 8, 9, 10, 11, 12, 13, 14, 15, 16, 17, 18], [0, 1, 2, 3, 4, 5, 6, 7, 8, 9, 10, 11, 12, 13, 14], [0, 1, 2, 3, 4, 5, 6, 7, 8, 9, 10, 11, 12, 13, 14, 20], [0, 1, 2, 3, 4, 5, 6, 7, 8, 9, 10, 11, 12, 13, 14, 20, 21], [0, 1, 2, 3, 4, 5, 6, 7, 8, 9, 10, 11, 12, 13, 14, 20, 21, 22], [0, 1, 2, 3, 4, 5, 6, 7, 8, 9, 10, 11, 12, 13, 14, 20, 21, 22, 23], [0, 1, 2, 3, 4, 5, 6, 7, 8, 9, 10, 11, 12, 13, 14, 15, 16, 17, 18, 19, 20, 21, 22, 23, 24], [0, 1, 2, 3, 4, 5, 6, 7, 8, 9, 10, 11, 12, 13, 14, 15, 16, 17, 18, 19, 20, 21, 22, 23, 24, 25]] [([0, 1, 2, 3, 4, 5, 6, 7, 8, 9, 10, 11, 12, 13, 14, 15, 16, 17, 18, 19, 20, 21, 22, 23, 24, 25, 26], none)] (by kernel_rfl) (by kernel_rfl) (by exact fun _ _ _ _ h => h) ?_
   simp only [Plan.wpSegs, Plan.pickAll, Plan.nth, V.L_eq]
   obtain ⟨w510, hF511e⟩ : ∃ w1, w1 = w495.drew := ⟨_, rfl⟩
   rw [← hF511e]
   have hF511 : Fr [] w495 w510 := by rw [hF511e]; exact Fr.drew _ _
   have hsw510 : w510.heap.size = w495.heap.size := by rw [hF511e]; rfl
   clear hF511e
   have hRA_512 := hRA_498.fr0 hF511
   have hE_513 := hE_499.tr0 hF511
   have hK471_514 := hK471_500.fr0 hF511
   have hR483_515 := hR483_501.fr0 hF511
   have hB496_516 := hB496.fr0 hF511
   refine V.go (V.mv (s0_505) ?_)
   refine V.go (V.pv [(58, .pointer (some ⟨t, 0, none⟩))] ⟨(at_same hz503 rfl _), trivial⟩ (by kernel_rfl) (.pointer (some ⟨t, 0, none⟩)) (by kernel_rfl) ?_)
   refine V.go (V.pv [(59, .pointer (some ⟨t, 0, none⟩))] ⟨(at_same hz503.p1 rfl _), trivial⟩ (by kernel_rfl) (.pointer (some ⟨t, 2, none⟩)) (by kernel_rfl) ?_)
   refine V.go (V.ld ⟨t, 2, none⟩ (.slice (some ⟨gB, 0, none⟩) T1.b.length T1.b.length) (at_same hz503.p2 rfl _) (by kernel_rfl) (hB496_516.at 2 rfl) ?_)
   refine V.go (V.pv [(61, .slice (some ⟨gB, 0, none⟩) T1.b.length T1.b.length)] ⟨(at_same hz503.p2.p1 rfl _), trivial⟩ (by kernel_rfl) (.int .i64 ((T1.b.length : Nat) : Int)) (by kernel_rfl) ?_)
   refine V.go (V.pvw [(62, .int .i64 ((T1.b.length : Nat) : Int))] ⟨(at_same hz503.p4 rfl _), trivial⟩ (by kernel_rfl) (.bool (((T1.b.length : Nat) : Int) == 0)) (.bool (decide (((T1.b.length : Nat) : Int) = 0))) (by kernel_rfl) V.t_eql ?_)
   refine V.go (V.mv (at_same hz503.p4.p1 rfl _) ?_)
   by_cases hg517 : ((T1.b.length : Nat) : Int) = 0
   ·
    refine V.go_on 64 (by kernel_rfl) (((at_same hz503.p4.p2 rfl _ : Act.eval _ _ = (.bool (decide (((T1.b.length : Nat) : Int) = 0))))).trans (dt hg517)) (V.mv (o4 rfl (o2 rfl (o1 rfl s0_505))) ?_)
    refine V.go_on 64 (by kernel_rfl) (((o1 rfl (at_same hz503.p4.p2 rfl _) : Act.eval _ _ = (.bool (decide (((T1.b.length : Nat) : Int) = 0))))).trans (dt hg517)) (V.pv [(65, .pointer (some ⟨t, 0, none⟩))] ⟨(at_same hz503.p4.p2.p1 rfl _), trivial⟩ (by kernel_rfl) (.pointer (some ⟨t, 0, none⟩)) (by kernel_rfl) ?_)
    refine V.go_on 64 (by kernel_rfl) (((o2 rfl (at_same hz503.p4.p2 rfl _) : Act.eval _ _ = (.bool (decide (((T1.b.length : Nat) : Int) = 0))))).trans (dt hg517)) (V.pv [(66, .pointer (some ⟨t, 0, none⟩))] ⟨(at_same hz503.p8 rfl _), trivial⟩ (by kernel_rfl) (.pointer (some ⟨t, 1, none⟩)) (by kernel_rfl) ?_)
    refine V.go_on 64 (by kernel_rfl) (((o2 rfl (o1 rfl (at_same hz503.p4.p2 rfl _)) : Act.eval _ _ = (.bool (decide (((T1.b.length : Nat) : Int) = 0))))).trans (dt hg517)) (V.ld ⟨t, 1, none⟩ (.slice (some ⟨gA, 0, none⟩) T1.a.length T1.a.length) (at_same hz503.p8.p1 rfl _) (by kernel_rfl) (hB496_516.at 1 rfl) ?_)
    refine V.go_on 64 (by kernel_rfl) (((o4 rfl (at_same hz503.p4.p2 rfl _) : Act.eval _ _ = (.bool (decide (((T1.b.length : Nat) : Int) = 0))))).trans (dt hg517)) (V.pv [(68, .slice (some ⟨gA, 0, none⟩) T1.a.length T1.a.length)] ⟨(at_same hz503.p8.p2 rfl _), trivial⟩ (by kernel_rfl) (.int .i64 ((T1.a.length : Nat) : Int)) (by kernel_rfl) ?_)
    refine V.go_on 64 (by kernel_rfl) (((o4 rfl (o1 rfl (at_same hz503.p4.p2 rfl _)) : Act.eval _ _ = (.bool (decide (((T1.b.length : Nat) : Int) = 0))))).trans (dt hg517)) (V.pv [(69, .int .i64 ((T1.a.length : Nat) : Int))] ⟨(at_same hz503.p8.p2.p1 rfl _), trivial⟩ (by kernel_rfl) (.bool (decide (((T1.a.length : Nat) : Int) > 4))) (by kernel_rfl) ?_)
    refine V.go (V.pk_t (((o4 rfl (o2 rfl (at_same hz503.p4.p2 rfl _)) : Act.eval _ _ = (.bool (decide (((T1.b.length : Nat) : Int) = 0))))).trans (dt hg517)) (v := (.bool (decide (((T1.a.length : Nat) : Int) > 4)))) (at_same hz503.p8.p4 rfl _) ?_)
    refine V.go (V.mv (at_same hz503.p8.p4.p1 rfl _) ?_)
    by_cases hg518 : ((T1.a.length : Nat) : Int) > 4
    ·
     refine V.go_on 72 (by kernel_rfl) (((at_same hz503.p8.p4.p2 rfl _ : Act.eval _ _ = (.bool (decide (((T1.a.length : Nat) : Int) > 4))))).trans (dt hg518)) (V.mv (o8 rfl (o4 rfl (o2 rfl (o1 rfl s0_505)))) ?_)
     refine V.go_on 72 (by kernel_rfl) (((o1 rfl (at_same hz503.p8.p4.p2 rfl _) : Act.eval _ _ = (.bool (decide (((T1.a.length : Nat) : Int) > 4))))).trans (dt hg518)) (V.pv [(73, .pointer (some ⟨t, 0, none⟩))] ⟨(at_same hz503.p8.p4.p2.p1 rfl _), trivial⟩ (by kernel_rfl) (.pointer (some ⟨t, 0, none⟩)) (by kernel_rfl) ?_)
     refine V.go_on 72 (by kernel_rfl) (((o2 rfl (at_same hz503.p8.p4.p2 rfl _) : Act.eval _ _ = (.bool (decide (((T1.a.length : Nat) : Int) > 4))))).trans (dt hg518)) (V.pv [(74, .pointer (some ⟨t, 0, none⟩))] ⟨(at_same hz503.p16 rfl _), trivial⟩ (by kernel_rfl) (.pointer (some ⟨t, 4, none⟩)) (by kernel_rfl) ?_)
     refine V.go_on 72 (by kernel_rfl) (((o2 rfl (o1 rfl (at_same hz503.p8.p4.p2 rfl _)) : Act.eval _ _ = (.bool (decide (((T1.a.length : Nat) : Int) > 4))))).trans (dt hg518)) (V.ld ⟨t, 4, none⟩ (.int .i64 ((T1.n : Int) - 1)) (at_same hz503.p16.p1 rfl _) (by kernel_rfl) (hB496_516.at 4 rfl) ?_)
     refine V.go_on 72 (by kernel_rfl) (((o4 rfl (at_same hz503.p8.p4.p2 rfl _) : Act.eval _ _ = (.bool (decide (((T1.a.length : Nat) : Int) > 4))))).trans (dt hg518)) (V.pvw [(76, .int .i64 ((T1.n : Int) - 1))] ⟨(at_same hz503.p16.p2 rfl _), trivial⟩ (by kernel_rfl) (.int .i64 (IntKind.i64.wrap (((T1.n : Int) - 1) * 8))) (.int .i64 (((T1.n : Int) - 1) * 8)) (by kernel_rfl) (V.w_i64 (by omega) (by omega)) ?_)
     refine V.go_on 72 (by kernel_rfl) (((o4 rfl (o1 rfl (at_same hz503.p8.p4.p2 rfl _)) : Act.eval _ _ = (.bool (decide (((T1.a.length : Nat) : Int) > 4))))).trans (dt hg518)) (V.mv (o16 rfl (o4 rfl s0_505)) ?_)
     refine V.go_on 72 (by kernel_rfl) (((o4 rfl (o2 rfl (at_same hz503.p8.p4.p2 rfl _)) : Act.eval _ _ = (.bool (decide (((T1.a.length : Nat) : Int) > 4))))).trans (dt hg518)) (V.pv [(78, .pointer (some ⟨t, 0, none⟩))] ⟨(at_same hz503.p16.p4 rfl _), trivial⟩ (by kernel_rfl) (.pointer (some ⟨t, 0, none⟩)) (by kernel_rfl) ?_)
     refine V.go_on 72 (by kernel_rfl) (((o4 rfl (o2 rfl (o1 rfl (at_same hz503.p8.p4.p2 rfl _))) : Act.eval _ _ = (.bool (decide (((T1.a.length : Nat) : Int) > 4))))).trans (dt hg518)) (V.pv [(79, .pointer (some ⟨t, 0, none⟩))] ⟨(at_same hz503.p16.p4.p1 rfl _), trivial⟩ (by kernel_rfl) (.pointer (some ⟨t, 1, none⟩)) (by kernel_rfl) ?_)
     refine V.go_on 72 (by kernel_rfl) (((o8 rfl (at_same hz503.p8.p4.p2 rfl _) : Act.eval _ _ = (.bool (decide (((T1.a.length : Nat) : Int) > 4))))).trans (dt hg518)) (V.ld ⟨t, 1, none⟩ (.slice (some ⟨gA, 0, none⟩) T1.a.length T1.a.length) (at_same hz503.p16.p4.p2 rfl _) (by kernel_rfl) (hB496_516.at 1 rfl) ?_)
     refine V.go_on 72 (by kernel_rfl) (((o8 rfl (o1 rfl (at_same hz503.p8.p4.p2 rfl _)) : Act.eval _ _ = (.bool (decide (((T1.a.length : Nat) : Int) > 4))))).trans (dt hg518)) (V.pv [(81, .slice (some ⟨gA, 0, none⟩) T1.a.length T1.a.length)] ⟨(at_same hz503.p16.p4.p2.p1 rfl _), trivial⟩ (by kernel_rfl) (.int .i64 ((T1.a.length : Nat) : Int)) (by kernel_rfl) ?_)
     refine V.flushL hz503.p16.p8.p1 (fun a519 hz520 up521 => ?_)
     have s0_522 := up521 0 _ (o16 rfl (o8 rfl (o1 rfl s0_505)))
     have s58_523 := up521 58 _ (o16 rfl (o8 rfl (at_same hz503 rfl _)))
     have s59_524 := up521 59 _ (o16 rfl (o4 rfl (o2 rfl (o1 rfl (at_same hz503.p1 rfl _)))))
     have s60_525 := up521 60 _ (o16 rfl (o4 rfl (o2 rfl (at_same hz503.p2 rfl _))))
     have s61_526 := up521 61 _ (o16 rfl (o4 rfl (o1 rfl (at_same hz503.p2.p1 rfl _))))
     have s62_527 := up521 62 _ (o16 rfl (o4 rfl (at_same hz503.p4 rfl _)))
     have s63_528 := up521 63 _ (o16 rfl (o2 rfl (o1 rfl (at_same hz503.p4.p1 rfl _))))
     have s64_529 := up521 64 _ (o16 rfl (o2 rfl (at_same hz503.p4.p2 rfl _)))
     have s65_530 := up521 65 _ (o16 rfl (o1 rfl (at_same hz503.p4.p2.p1 rfl _)))
     have s66_531 := up521 66 _ (o16 rfl (at_same hz503.p8 rfl _))
     have s67_532 := up521 67 _ (o8 rfl (o4 rfl (o2 rfl (o1 rfl (at_same hz503.p8.p1 rfl _)))))
     have s68_533 := up521 68 _ (o8 rfl (o4 rfl (o2 rfl (at_same hz503.p8.p2 rfl _))))
     have s69_534 := up521 69 _ (o8 rfl (o4 rfl (o1 rfl (at_same hz503.p8.p2.p1 rfl _))))
     have s70_535 := up521 70 _ (o8 rfl (o4 rfl (at_same hz503.p8.p4 rfl _)))
     have s71_536 := up521 71 _ (o8 rfl (o2 rfl (o1 rfl (at_same hz503.p8.p4.p1 rfl _))))
     have s72_537 := up521 72 _ (o8 rfl (o2 rfl (at_same hz503.p8.p4.p2 rfl _)))
     have s73_538 := up521 73 _ (o8 rfl (o1 rfl (at_same hz503.p8.p4.p2.p1 rfl _)))
     have s74_539 := up521 74 _ (o8 rfl (at_same hz503.p16 rfl _))
     have s75_540 := up521 75 _ (o4 rfl (o2 rfl (o1 rfl (at_same hz503.p16.p1 rfl _))))
     have s76_541 := up521 76 _ (o4 rfl (o2 rfl (at_same hz503.p16.p2 rfl _)))
     have s77_542 := up521 77 _ (o4 rfl (o1 rfl (at_same hz503.p16.p2.p1 rfl _)))
     have s78_543 := up521 78 _ (o4 rfl (at_same hz503.p16.p4 rfl _))
     have s79_544 := up521 79 _ (o2 rfl (o1 rfl (at_same hz503.p16.p4.p1 rfl _)))
     have s80_545 := up521 80 _ (o2 rfl (at_same hz503.p16.p4.p2 rfl _))
     have s81_546 := up521 81 _ (o1 rfl (at_same hz503.p16.p4.p2.p1 rfl _))
     have s82_547 := up521 82 _ (at_same hz503.p16.p8 rfl _)
     clear up521
     refine V.go_on 72 (by kernel_rfl) ((s72_537).trans (dt hg518)) (V.pv [(77, .int .i64 (((T1.n : Int) - 1) * 8)), (82, .int .i64 ((T1.a.length : Nat) : Int))] ⟨(s77_542), (s82_547), trivial⟩ (by kernel_rfl) (.bool (decide ((((T1.n : Int) - 1) * 8) < ((T1.a.length : Nat) : Int)))) (by kernel_rfl) ?_)
     refine V.go (V.pk_t (((o1 rfl s72_537 : Act.eval _ _ = (.bool (decide (((T1.a.length : Nat) : Int) > 4))))).trans (dt hg518)) (v := (.bool (decide ((((T1.n : Int) - 1) * 8) < ((T1.a.length : Nat) : Int))))) (at_same hz520 rfl _) ?_)
     refine V.nil ?_
     refine ⟨chk [(58, .pointer (some ⟨t, 0, none⟩)), (61, .slice (some ⟨gB, 0, none⟩) T1.b.length T1.b.length), (62, .int .i64 ((T1.b.length : Nat) : Int)), (65, .pointer (some ⟨t, 0, none⟩)), (68, .slice (some ⟨gA, 0, none⟩) T1.a.length T1.a.length), (69, .int .i64 ((T1.a.length : Nat) : Int)), (73, .pointer (some ⟨t, 0, none⟩)), (76, .int .i64 ((T1.n : Int) - 1)), (78, .pointer (some ⟨t, 0, none⟩)), (81, .slice (some ⟨gA, 0, none⟩) T1.a.length T1.a.length), (77, .int .i64 (((T1.n : Int) - 1) * 8)), (82, .int .i64 ((T1.a.length : Nat) : Int)), (64, .bool true), (72, .bool true)] ⟨(o2 rfl s58_523), (o2 rfl s61_526), (o2 rfl s62_527), (o2 rfl s65_530), (o2 rfl s68_533), (o2 rfl s69_534), (o2 rfl s73_538), (o2 rfl s76_541), (o2 rfl s78_543), (o2 rfl s81_546), (o2 rfl s77_542), (o2 rfl s82_547), (((o2 rfl s64_529 : Act.eval _ _ = (.bool (decide (((T1.b.length : Nat) : Int) = 0))))).trans (dt hg517)), (((o2 rfl s72_537 : Act.eval _ _ = (.bool (decide (((T1.a.length : Nat) : Int) > 4))))).trans (dt hg518)), trivial⟩ (by kernel_rfl), ?_⟩
     refine V.then_n (hK509 _ _ ?_)
     refine V.condP (p := (((T1.n : Int) - 1) * 8) < ((T1.a.length : Nat) : Int)) (at_same hz520.p1 rfl _) (fun ht548 => ?_) (fun ht548 => ?_)
     ·
      refine V.region (by kernel_rfl) ?_
      refine V.go (V.mv (o2 rfl s0_522) ?_)
      refine V.go (V.mv (o2 rfl (o1 rfl s0_522)) ?_)
      refine V.go (V.pv [(86, .pointer (some ⟨t, 0, none⟩))] ⟨(at_same hz520.p2.p1 rfl _), trivial⟩ (by kernel_rfl) (.pointer (some ⟨t, 0, none⟩)) (by kernel_rfl) ?_)
      refine V.go (V.pv [(87, .pointer (some ⟨t, 0, none⟩))] ⟨(at_same hz520.p4 rfl _), trivial⟩ (by kernel_rfl) (.pointer (some ⟨t, 1, none⟩)) (by kernel_rfl) ?_)
      refine V.go (V.ld ⟨t, 1, none⟩ (.slice (some ⟨gA, 0, none⟩) T1.a.length T1.a.length) (at_same hz520.p4.p1 rfl _) (by kernel_rfl) (hB496_516.at 1 rfl) ?_)
      refine V.go (V.pv [(89, .slice (some ⟨gA, 0, none⟩) T1.a.length T1.a.length)] ⟨(at_same hz520.p4.p2 rfl _), trivial⟩ (by kernel_rfl) (.int .i64 ((T1.a.length : Nat) : Int)) (by kernel_rfl) ?_)
      refine V.go (V.quoN T1.a.length 2 (at_same hz520.p4.p2.p1 rfl _) evc (by omega) (by omega) ?_)
      refine V.go (V.mks (enc := idV) (T1.a.length / 2) (.slice none 0 0) nilS 24 ((at_same hz520.p8 rfl _).trans (V.int_eq (by omega))) ((at_same hz520.p8 rfl _).trans (V.int_eq (by omega))) (by kernel_rfl) info42 rfl rfl (by omega) (by omega) ?_)
      intro w550 b549 heb549 hR551 hF552
      have hsb549 := hR551.lt
      have hRA_553 := hRA_512.fr0 hF552
      have hE_554 := hE_513.tr0 hF552
      have hK471_555 := hK471_514.alloc hF552 heb549 (by omega)
      have hR483_556 := hR483_515.fr0 hF552
      have hB496_557 := hB496_516.fr0 hF552
      refine V.go (V.pv [(85, .pointer (some ⟨t, 0, none⟩))] ⟨(o4 rfl (o2 rfl (o1 rfl (at_same hz520.p2 rfl _)))), trivial⟩ (by kernel_rfl) (.pointer (some ⟨t, 0, none⟩)) (by kernel_rfl) ?_)
      refine V.go (V.pv [(93, .pointer (some ⟨t, 0, none⟩))] ⟨(at_same hz520.p8.p2 rfl _), trivial⟩ (by kernel_rfl) (.pointer (some ⟨t, 2, none⟩)) (by kernel_rfl) ?_)
      refine V.go (V.stn t 2 (.slice (some ⟨b549, 0, none⟩) (T1.a.length / 2) (T1.a.length / 2)) [.slice (some ⟨b549, 0, none⟩) (T1.a.length / 2) (T1.a.length / 2)] (at_same hz520.p8.p2.p1 rfl _) (o2 rfl (at_same hz520.p8.p1 rfl _)) rfl rfl (by kernel_rfl) hB496_557 (by simp) [.int .u64 (T1.seed : Int), .slice (some ⟨gA, 0, none⟩) T1.a.length T1.a.length, .slice (some ⟨b549, 0, none⟩) (T1.a.length / 2) (T1.a.length / 2), .int .i64 (T1.moved : Int), .int .i64 ((T1.n : Int) - 1)] rfl ?_)
      intro w558 hB559 hF560 hsw558
      have hRA_561 := hRA_553.fr1 hF560 (by omega)
      have hE_562 := hE_554.tr hF560 (by intro k hk; simp only [List.mem_singleton] at hk; subst hk; first | exact .inl (by assumption) | exact .inr (by omega) | exact .inl (.inl rfl))
      have hK471_563 := hK471_555.fr hF560 (by simp)
      have hR483_564 := hR483_556.fr1 hF560 (by omega)
      have hR551_565 := hR551.fr1 hF560 (by omega)
      refine V.nil ?_
      refine V.then_n (hK507 _ _ ?_)
      refine V.flushW hz520.p8.p4 (fun a566 hz567 up568 => ?_)
      clear up568
      refine V.seq (fun K569 hK570 => ?_)
      refine V.region (by kernel_rfl) ?_
      refine V.go (V.asg evc ?_)
      refine V.nil ?_
      refine V.then_n (hK570 _ _ ?_)
      refine V.ret ?_
      refine V.ret1 hz567.p1 rfl (at_same hz567 rfl _) ?_
      exact absurd hg517 (by omega)
     ·
      refine V.skip ?_
      refine V.then_n (hK507 _ _ ?_)
      refine V.seq (fun K571 hK572 => ?_)
      refine V.region (by kernel_rfl) ?_
      refine V.go (V.asg evc ?_)
      refine V.nil ?_
      refine V.then_n (hK572 _ _ ?_)
      refine V.ret ?_
      refine V.ret1 hz520.p2.p1 rfl (at_same hz520.p2 rfl _) ?_
      exact absurd hg517 (by omega)
    ·
     refine V.go_off 72 (by kernel_rfl) (((at_same hz503.p8.p4.p2 rfl _ : Act.eval _ _ = (.bool (decide (((T1.a.length : Nat) : Int) > 4))))).trans (df hg518)) (by kernel_rfl) ?_
     refine V.go_off 72 (by kernel_rfl) (((o1 rfl (at_same hz503.p8.p4.p2 rfl _) : Act.eval _ _ = (.bool (decide (((T1.a.length : Nat) : Int) > 4))))).trans (df hg518)) (by kernel_rfl) ?_
     refine V.go_off 72 (by kernel_rfl) (((o2 rfl (at_same hz503.p8.p4.p2 rfl _) : Act.eval _ _ = (.bool (decide (((T1.a.length : Nat) : Int) > 4))))).trans (df hg518)) (by kernel_rfl) ?_
     refine V.go_off 72 (by kernel_rfl) (((o2 rfl (o1 rfl (at_same hz503.p8.p4.p2 rfl _)) : Act.eval _ _ = (.bool (decide (((T1.a.length : Nat) : Int) > 4))))).trans (df hg518)) (by kernel_rfl) ?_
     refine V.go_off 72 (by kernel_rfl) (((o4 rfl (at_same hz503.p8.p4.p2 rfl _) : Act.eval _ _ = (.bool (decide (((T1.a.length : Nat) : Int) > 4))))).trans (df hg518)) (by kernel_rfl) ?_
     refine V.go_off 72 (by kernel_rfl) (((o4 rfl (o1 rfl (at_same hz503.p8.p4.p2 rfl _)) : Act.eval _ _ = (.bool (decide (((T1.a.length : Nat) : Int) > 4))))).trans (df hg518)) (by kernel_rfl) ?_
     refine V.go_off 72 (by kernel_rfl) (((o4 rfl (o2 rfl (at_same hz503.p8.p4.p2 rfl _)) : Act.eval _ _ = (.bool (decide (((T1.a.length : Nat) : Int) > 4))))).trans (df hg518)) (by kernel_rfl) ?_
     refine V.go_off 72 (by kernel_rfl) (((o4 rfl (o2 rfl (o1 rfl (at_same hz503.p8.p4.p2 rfl _))) : Act.eval _ _ = (.bool (decide (((T1.a.length : Nat) : Int) > 4))))).trans (df hg518)) (by kernel_rfl) ?_
     refine V.go_off 72 (by kernel_rfl) (((o8 rfl (at_same hz503.p8.p4.p2 rfl _) : Act.eval _ _ = (.bool (decide (((T1.a.length : Nat) : Int) > 4))))).trans (df hg518)) (by kernel_rfl) ?_
     refine V.go_off 72 (by kernel_rfl) (((o8 rfl (o1 rfl (at_same hz503.p8.p4.p2 rfl _)) : Act.eval _ _ = (.bool (decide (((T1.a.length : Nat) : Int) > 4))))).trans (df hg518)) (by kernel_rfl) ?_
     refine V.flushL hz503.p16.p8.p1 (fun a573 hz574 up575 => ?_)
     have s0_576 := up575 0 _ (o16 rfl (o8 rfl (o1 rfl s0_505)))
     have s58_577 := up575 58 _ (o16 rfl (o8 rfl (at_same hz503 rfl _)))
     have s59_578 := up575 59 _ (o16 rfl (o4 rfl (o2 rfl (o1 rfl (at_same hz503.p1 rfl _)))))
     have s60_579 := up575 60 _ (o16 rfl (o4 rfl (o2 rfl (at_same hz503.p2 rfl _))))
     have s61_580 := up575 61 _ (o16 rfl (o4 rfl (o1 rfl (at_same hz503.p2.p1 rfl _))))
     have s62_581 := up575 62 _ (o16 rfl (o4 rfl (at_same hz503.p4 rfl _)))
     have s63_582 := up575 63 _ (o16 rfl (o2 rfl (o1 rfl (at_same hz503.p4.p1 rfl _))))
     have s64_583 := up575 64 _ (o16 rfl (o2 rfl (at_same hz503.p4.p2 rfl _)))
     have s65_584 := up575 65 _ (o16 rfl (o1 rfl (at_same hz503.p4.p2.p1 rfl _)))
     have s66_585 := up575 66 _ (o16 rfl (at_same hz503.p8 rfl _))
     have s67_586 := up575 67 _ (o8 rfl (o4 rfl (o2 rfl (o1 rfl (at_same hz503.p8.p1 rfl _)))))
     have s68_587 := up575 68 _ (o8 rfl (o4 rfl (o2 rfl (at_same hz503.p8.p2 rfl _))))
     have s69_588 := up575 69 _ (o8 rfl (o4 rfl (o1 rfl (at_same hz503.p8.p2.p1 rfl _))))
     have s70_589 := up575 70 _ (o8 rfl (o4 rfl (at_same hz503.p8.p4 rfl _)))
     have s71_590 := up575 71 _ (o8 rfl (o2 rfl (o1 rfl (at_same hz503.p8.p4.p1 rfl _))))
     have s72_591 := up575 72 _ (o8 rfl (o2 rfl (at_same hz503.p8.p4.p2 rfl _)))
     have s73_592 := up575 73 _ (o8 rfl (o1 rfl (at_same hz503.p8.p4.p2.p1 rfl _)))
     have s74_593 := up575 74 _ (o8 rfl (at_same hz503.p16 rfl _))
     have s75_594 := up575 75 _ (o4 rfl (o2 rfl (o1 rfl (at_same hz503.p16.p1 rfl _))))
     have s76_595 := up575 76 _ (o4 rfl (o2 rfl (at_same hz503.p16.p2 rfl _)))
     have s77_596 := up575 77 _ (o4 rfl (o1 rfl (at_same hz503.p16.p2.p1 rfl _)))
     have s78_597 := up575 78 _ (o4 rfl (at_same hz503.p16.p4 rfl _))
     have s79_598 := up575 79 _ (o2 rfl (o1 rfl (at_same hz503.p16.p4.p1 rfl _)))
     have s80_599 := up575 80 _ (o2 rfl (at_same hz503.p16.p4.p2 rfl _))
     have s81_600 := up575 81 _ (o1 rfl (at_same hz503.p16.p4.p2.p1 rfl _))
     have s82_601 := up575 82 _ (at_same hz503.p16.p8 rfl _)
     clear up575
     refine V.go_off 72 (by kernel_rfl) ((s72_591).trans (df hg518)) (by kernel_rfl) ?_
     refine V.go (V.pk_f (((o1 rfl s72_591 : Act.eval _ _ = (.bool (decide (((T1.a.length : Nat) : Int) > 4))))).trans (df hg518)) (v := (.bool false)) evc ?_)
     refine V.nil ?_
     refine ⟨chk [(58, .pointer (some ⟨t, 0, none⟩)), (61, .slice (some ⟨gB, 0, none⟩) T1.b.length T1.b.length), (62, .int .i64 ((T1.b.length : Nat) : Int)), (65, .pointer (some ⟨t, 0, none⟩)), (68, .slice (some ⟨gA, 0, none⟩) T1.a.length T1.a.length), (69, .int .i64 ((T1.a.length : Nat) : Int)), (73, undef), (76, undef), (78, undef), (81, undef), (77, undef), (82, undef), (64, .bool true), (72, .bool false)] ⟨(o2 rfl s58_577), (o2 rfl s61_580), (o2 rfl s62_581), (o2 rfl s65_584), (o2 rfl s68_587), (o2 rfl s69_588), (o2 rfl s73_592), (o2 rfl s76_595), (o2 rfl s78_597), (o2 rfl s81_600), (o2 rfl s77_596), (o2 rfl s82_601), (((o2 rfl s64_583 : Act.eval _ _ = (.bool (decide (((T1.b.length : Nat) : Int) = 0))))).trans (dt hg517)), (((o2 rfl s72_591 : Act.eval _ _ = (.bool (decide (((T1.a.length : Nat) : Int) > 4))))).trans (df hg518)), trivial⟩ (by kernel_rfl), ?_⟩
     refine V.then_n (hK509 _ _ ?_)
     refine V.cond_f (at_same hz574.p1 rfl _) ?_
     refine V.skip ?_
     refine V.then_n (hK507 _ _ ?_)
     refine V.seq (fun K602 hK603 => ?_)
     refine V.region (by kernel_rfl) ?_
     refine V.go (V.asg evc ?_)
     refine V.nil ?_
     refine V.then_n (hK603 _ _ ?_)
     refine V.ret ?_
     refine V.ret1 hz574.p2.p1 rfl (at_same hz574.p2 rfl _) ?_
     exact absurd hg517 (by omega)
   ·
    refine V.go_off 64 (by kernel_rfl) (((at_same hz503.p4.p2 rfl _ : Act.eval _ _ = (.bool (decide (((T1.b.length : Nat) : Int) = 0))))).trans (df hg517)) (by kernel_rfl) ?_
    refine V.go_off 64 (by kernel_rfl) (((o1 rfl (at_same hz503.p4.p2 rfl _) : Act.eval _ _ = (.bool (decide (((T1.b.length : Nat) : Int) = 0))))).trans (df hg517)) (by kernel_rfl) ?_
    refine V.go_off 64 (by kernel_rfl) (((o2 rfl (at_same hz503.p4.p2 rfl _) : Act.eval _ _ = (.bool (decide (((T1.b.length : Nat) : Int) = 0))))).trans (df hg517)) (by kernel_rfl) ?_
    refine V.go_off 64 (by kernel_rfl) (((o2 rfl (o1 rfl (at_same hz503.p4.p2 rfl _)) : Act.eval _ _ = (.bool (decide (((T1.b.length : Nat) : Int) = 0))))).trans (df hg517)) (by kernel_rfl) ?_
    refine V.go_off 64 (by kernel_rfl) (((o4 rfl (at_same hz503.p4.p2 rfl _) : Act.eval _ _ = (.bool (decide (((T1.b.length : Nat) : Int) = 0))))).trans (df hg517)) (by kernel_rfl) ?_
    refine V.go_off 64 (by kernel_rfl) (((o4 rfl (o1 rfl (at_same hz503.p4.p2 rfl _)) : Act.eval _ _ = (.bool (decide (((T1.b.length : Nat) : Int) = 0))))).trans (df hg517)) (by kernel_rfl) ?_
    refine V.go (V.pk_f (((o4 rfl (o2 rfl (at_same hz503.p4.p2 rfl _)) : Act.eval _ _ = (.bool (decide (((T1.b.length : Nat) : Int) = 0))))).trans (df hg517)) (v := (.bool false)) evc ?_)
    refine V.go (V.mv (at_same hz503.p8.p4.p1 rfl _) ?_)
    refine V.go_off 72 (by kernel_rfl) (at_same hz503.p8.p4.p2 rfl _) (by kernel_rfl) ?_
    refine V.go_off 72 (by kernel_rfl) (o1 rfl (at_same hz503.p8.p4.p2 rfl _)) (by kernel_rfl) ?_
    refine V.go_off 72 (by kernel_rfl) (o2 rfl (at_same hz503.p8.p4.p2 rfl _)) (by kernel_rfl) ?_
    refine V.go_off 72 (by kernel_rfl) (o2 rfl (o1 rfl (at_same hz503.p8.p4.p2 rfl _))) (by kernel_rfl) ?_
    refine V.go_off 72 (by kernel_rfl) (o4 rfl (at_same hz503.p8.p4.p2 rfl _)) (by kernel_rfl) ?_
    refine V.go_off 72 (by kernel_rfl) (o4 rfl (o1 rfl (at_same hz503.p8.p4.p2 rfl _))) (by kernel_rfl) ?_
    refine V.go_off 72 (by kernel_rfl) (o4 rfl (o2 rfl (at_same hz503.p8.p4.p2 rfl _))) (by kernel_rfl) ?_
    refine V.go_off 72 (by kernel_rfl) (o4 rfl (o2 rfl (o1 rfl (at_same hz503.p8.p4.p2 rfl _)))) (by kernel_rfl) ?_
    refine V.go_off 72 (by kernel_rfl) (o8 rfl (at_same hz503.p8.p4.p2 rfl _)) (by kernel_rfl) ?_
    refine V.go_off 72 (by kernel_rfl) (o8 rfl (o1 rfl (at_same hz503.p8.p4.p2 rfl _))) (by kernel_rfl) ?_
    refine V.flushL hz503.p16.p8.p1 (fun a604 hz605 up606 => ?_)
    have s0_607 := up606 0 _ (o16 rfl (o8 rfl (o1 rfl s0_505)))
    have s58_608 := up606 58 _ (o16 rfl (o8 rfl (at_same hz503 rfl _)))
    have s59_609 := up606 59 _ (o16 rfl (o4 rfl (o2 rfl (o1 rfl (at_same hz503.p1 rfl _)))))
    have s60_610 := up606 60 _ (o16 rfl (o4 rfl (o2 rfl (at_same hz503.p2 rfl _))))
    have s61_611 := up606 61 _ (o16 rfl (o4 rfl (o1 rfl (at_same hz503.p2.p1 rfl _))))
    have s62_612 := up606 62 _ (o16 rfl (o4 rfl (at_same hz503.p4 rfl _)))
    have s63_613 := up606 63 _ (o16 rfl (o2 rfl (o1 rfl (at_same hz503.p4.p1 rfl _))))
    have s64_614 := up606 64 _ (o16 rfl (o2 rfl (at_same hz503.p4.p2 rfl _)))
    have s65_615 := up606 65 _ (o16 rfl (o1 rfl (at_same hz503.p4.p2.p1 rfl _)))
    have s66_616 := up606 66 _ (o16 rfl (at_same hz503.p8 rfl _))
    have s67_617 := up606 67 _ (o8 rfl (o4 rfl (o2 rfl (o1 rfl (at_same hz503.p8.p1 rfl _)))))
    have s68_618 := up606 68 _ (o8 rfl (o4 rfl (o2 rfl (at_same hz503.p8.p2 rfl _))))
    have s69_619 := up606 69 _ (o8 rfl (o4 rfl (o1 rfl (at_same hz503.p8.p2.p1 rfl _))))
    have s70_620 := up606 70 _ (o8 rfl (o4 rfl (at_same hz503.p8.p4 rfl _)))
    have s71_621 := up606 71 _ (o8 rfl (o2 rfl (o1 rfl (at_same hz503.p8.p4.p1 rfl _))))
    have s72_622 := up606 72 _ (o8 rfl (o2 rfl (at_same hz503.p8.p4.p2 rfl _)))
    have s73_623 := up606 73 _ (o8 rfl (o1 rfl (at_same hz503.p8.p4.p2.p1 rfl _)))
    have s74_624 := up606 74 _ (o8 rfl (at_same hz503.p16 rfl _))
    have s75_625 := up606 75 _ (o4 rfl (o2 rfl (o1 rfl (at_same hz503.p16.p1 rfl _))))
    have s76_626 := up606 76 _ (o4 rfl (o2 rfl (at_same hz503.p16.p2 rfl _)))
    have s77_627 := up606 77 _ (o4 rfl (o1 rfl (at_same hz503.p16.p2.p1 rfl _)))
    have s78_628 := up606 78 _ (o4 rfl (at_same hz503.p16.p4 rfl _))
    have s79_629 := up606 79 _ (o2 rfl (o1 rfl (at_same hz503.p16.p4.p1 rfl _)))
    have s80_630 := up606 80 _ (o2 rfl (at_same hz503.p16.p4.p2 rfl _))
    have s81_631 := up606 81 _ (o1 rfl (at_same hz503.p16.p4.p2.p1 rfl _))
    have s82_632 := up606 82 _ (at_same hz503.p16.p8 rfl _)
    clear up606
    refine V.go_off 72 (by kernel_rfl) (s72_622) (by kernel_rfl) ?_
    refine V.go (V.pk_f (o1 rfl s72_622) (v := (.bool false)) evc ?_)
    refine V.nil ?_
    refine ⟨chk [(58, .pointer (some ⟨t, 0, none⟩)), (61, .slice (some ⟨gB, 0, none⟩) T1.b.length T1.b.length), (62, .int .i64 ((T1.b.length : Nat) : Int)), (65, undef), (68, undef), (69, undef), (73, undef), (76, undef), (78, undef), (81, undef), (77, undef), (82, undef), (64, .bool false), (72, .bool false)] ⟨(o2 rfl s58_608), (o2 rfl s61_611), (o2 rfl s62_612), (o2 rfl s65_615), (o2 rfl s68_618), (o2 rfl s69_619), (o2 rfl s73_623), (o2 rfl s76_626), (o2 rfl s78_628), (o2 rfl s81_631), (o2 rfl s77_627), (o2 rfl s82_632), (((o2 rfl s64_614 : Act.eval _ _ = (.bool (decide (((T1.b.length : Nat) : Int) = 0))))).trans (df hg517)), (o2 rfl s72_622), trivial⟩ (by kernel_rfl), ?_⟩
    refine V.then_n (hK509 _ _ ?_)
    refine V.cond_f (at_same hz605.p1 rfl _) ?_
    refine V.skip ?_
    refine V.then_n (hK507 _ _ ?_)
    refine V.seq (fun K633 hK634 => ?_)
    refine V.region (by kernel_rfl) ?_
    refine V.go (V.asg evc ?_)
    refine V.nil ?_
    refine V.then_n (hK634 _ _ ?_)
    refine V.ret ?_
    refine V.ret1 hz605.p2.p1 rfl (at_same hz605.p2 rfl _) ?_
    have hst : delT T k = shrT (rm1T T1 k) := by (unfold delT; rw [← hT1]; unfold del1T; rw [hf, if_pos rfl])
    have hu2 : rm1T T1 k = ({ T1 with b := rmV T1.b (bkt T1.seed T1.b.length k) j, n := T1.n - 1 } : Tb Int) := by (unfold rm1T; rw [hf]; simp)
    have hup := (rm1T_ok hok1 hm1 k (by rw [hf])).1
    rw [hu2] at hup
    rw [hst, hu2]
    have hsh : shrT ({ T1 with b := rmV T1.b (bkt T1.seed T1.b.length k) j, n := T1.n - 1 } : Tb Int) = ({ T1 with b := rmV T1.b (bkt T1.seed T1.b.length k) j, n := T1.n - 1 } : Tb Int) := by (unfold shrT; rw [if_neg]; rintro ⟨h0, _⟩; exact hb1 (by first | exact h0 | (have h1 : (rmV T1.b (bkt T1.seed T1.b.length k) j).length = 0 := h0; rwa [rmV_length] at h1)))
    rw [hsh]
    exact ⟨by rw [hf], (TabM.fin (T := ({ T1 with b := rmV T1.b (bkt T1.seed T1.b.length k) j, n := T1.n - 1 } : Tb Int)) hup (fun h => hb1 (by have := congrArg List.length h; rwa [rmV_length] at this)) hB496_516 hRA_512 hR483_515 (by first | exact hlA | (simp only [List.length_set]; exact hlA)) hK471_514 (mem4 (l := (t :: gA :: gB :: av)) (by simp) (by simp) (by simp) (by intro k hk; simp [hk])) (by first | assumption | omega) (by first | assumption | omega) (by first | assumption | omega) hpt ⟨.inl hpg.1, hpg.2⟩ ⟨.inl hph.1, hph.2⟩ rfl rfl rfl (by show ((T1.n : Int) - 1) = ((T1.n - 1 : Nat) : Int); omega) rfl rfl (rmV_length _ _ _).symm).gr3 (by omega), (hFPE.gr hE_513)⟩
end Go.Proofs.Ytalhmegjomfbaaa
