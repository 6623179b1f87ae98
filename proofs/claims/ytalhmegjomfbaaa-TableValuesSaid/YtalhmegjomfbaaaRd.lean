/- Walks: the reference: without, Del. -/
import Derived.Test.YtalhmegjomfbaaaProg
import Derived.Test.YtalhmegjomfbaaaRc
import Derived.Test.YtalhmegjomfbaaaTabW
import Derived.Test.YtalhmegjomfbaaaTi
namespace Go.Proofs.Ytalhmegjomfbaaa
open Go.V Go.Base
open Go.RowKit (Below)
attribute [local irreducible] Act.put Act.eval
set_option linter.unusedVariables false
set_option linter.unusedSimpArgs false
set_option maxHeartbeats 4000000 in
set_option maxRecDepth 20000 in
theorem rwithout_any (w : World) (g o c i : Nat) (xs : List (ByteArray × Int)) (hS : SlR itI (fun b => b < w.heap.size) w (.slice (some ⟨g, o, none⟩) xs.length c) xs) (hi : i < xs.length) (hc : xs.length ≤ c) (hl : xs.length ≤ 1099511627776) : Calls Try.prog 73 #[.slice (some ⟨g, o, none⟩) xs.length c, .int .i64 (i : Int)] w (fun e w' => ∃ A c', e = .returned (.slice A (xs.length - 1) c') ∧ OwR itI NoZ w' w.heap.size 60 (.slice A (xs.length - 1) c') (xs.eraseIdx i) ∧ Fr [] w w') := by
 have hF := Fr.refl [] w
 refine V.enter 15 Try.func73 rfl rfl ?_
 intro a hz ha
 have s0 : a.eval (.tmp 0) = (.slice (some ⟨g, o, none⟩) xs.length c) := ha 0 _ rfl
 have s1 : a.eval (.tmp 1) = (.int .i64 (i : Int)) := ha 1 _ rfl
 clear ha
 refine V.seq (fun K1 hK2 => ?_)
 refine V.rg ?_
 refine V.ga evc ?_
 refine V.nil ?_
 refine V.then_n (hK2 _ _ ?_)
 refine V.seq (fun K3 hK4 => ?_)
 refine V.plan [[], [], [], [1, 2], [0, 1, 2, 3], [], [], [6], [5, 6, 7], [0, 1, 2, 3, 4, 5, 6, 7, 8], [0, 1, 2, 3, 4, 5, 6, 7, 8, 9]] [([1, 2, 3, 5, 6, 7, 8], some (0, [])), ([], some (4, [])), ([], some (9, [])), ([10], none)] (by kernel_rfl) (by kernel_rfl) (by exact fun _ _ _ _ h => h) ?_
 simp only [Plan.wpSegs, Plan.pickAll, Plan.nth, V.L_eq]
 obtain ⟨w5, hF6e⟩ : ∃ w1, w1 = w.drew := ⟨_, rfl⟩
 rw [← hF6e]
 have hF6 : Fr [] w w5 := by rw [hF6e]; exact Fr.drew _ _
 have hsw5 : w5.heap.size = w.heap.size := by rw [hF6e]; rfl
 clear hF6e
 have hF_7 := hF.new hF6
 have hS_8 := hS.fr0 hF6
 refine V.gm (o1 rfl s0) ?_
 refine V.gm (o2 rfl s1) ?_
 refine V.go (V.slc (e := 60) (sz := 2) g o xs.length c 0 i c (o1 rfl (sm hz.p1 rfl)) rfl ⟨_, ((sm hz.p2 rfl)).trans (V.int_eq (by omega))⟩ rfl (by omega) (by omega) (by omega) (by kernel_rfl) (by kernel_rfl) ?_)
 intro ad9 had10 hae11
 obtain rfl := hae11 rfl
 have hS12 := hS_8.takeN (i := i) (by omega)
 refine V.gm (o4 rfl s0) ?_
 refine V.gm (o4 rfl (o1 rfl s1)) ?_
 refine V.gf_ [(11, .int .i64 (i : Int))] ⟨(sm hz.p4.p1 rfl), trivial⟩ (.int .i64 (IntKind.i64.wrap ((i : Int) + 1))) (.int .i64 ((i : Int) + 1)) (V.w_i64 (by omega) (by omega)) ?_
 refine V.go (V.slc (e := 60) (sz := 2) g o xs.length c (i + 1) xs.length c (o2 rfl (sm hz.p4 rfl)) ⟨_, ((sm hz.p4.p2 rfl)).trans (V.int_eq (by omega))⟩ ⟨rfl, rfl⟩ rfl (by omega) (by omega) (by omega) (by kernel_rfl) (by kernel_rfl) ?_)
 intro ad13 had14 hae15
 have hS16 := hS_8.dropN (i := i + 1) (by omega) (ad := ad13) (fun hq => by rw [had14 (by omega)]; rfl) (m := xs.length - (i + 1)) rfl
 refine V.nil ?_
 refine ⟨chk [(11, .int .i64 (i : Int))] ⟨(o2 rfl (sm hz.p4.p1 rfl)), trivial⟩ (by kernel_rfl), ?_⟩
 refine V.go (V.mk [] trivial (by kernel_rfl) [] 60 (fun b => .slice (some ⟨b, 0, none⟩) 0 0) (by kernel_rfl) ?_)
 intro w18 b17 heb17 hB19 hF20 hsb17
 have hF_21 := hF_7.new hF20
 have hS_22 := hS_8.fr0 hF20
 have hS12_23 := hS12.fr0 hF20
 have hS16_24 := hS16.fr0 hF20
 have hO25 := OwR.empty (R := itI) (base := w.heap.size) hB19 (by omega)
 refine V.nil ?_
 refine ⟨trivial, ?_⟩
 refine V.nil ?_
 refine ⟨chk [] trivial (by kernel_rfl), ?_⟩
 refine V.go (V.appS (R := itI) (sm hz.p8 rfl) (o4 rfl (o1 rfl (sm hz.p2.p1 rfl))) (by kernel_rfl) info60 (by kernel_rfl) (by decide) hO25 hS12_23 (fun _ _ h => h) (by simp only [List.length_append, List.length_nil, List.length_take, List.length_drop]; omega) (by decide) (by omega) ?_)
 intro A26 c27 w28 hO29 hF30
 have hsw28 := hF30.size
 have hF_31 := hF_21.own hF30 (own_ge hO25 (by omega))
 have hS_32 := hS_22.fr hF30 (by intro b hb hz; have := own_ge hO25 (Nat.le_refl _) b hb; (try dsimp only at hz); omega)
 have hS12_33 := hS12_23.fr hF30 (by intro b hb hz; have := own_ge hO25 (Nat.le_refl _) b hb; (try dsimp only at hz); omega)
 have hS16_34 := hS16_24.fr hF30 (by intro b hb hz; have := own_ge hO25 (Nat.le_refl _) b hb; (try dsimp only at hz); omega)
 refine V.nil ?_
 refine ⟨trivial, ?_⟩
 refine V.nil ?_
 refine ⟨chk [] trivial (by kernel_rfl), ?_⟩
 refine V.go (V.appS (R := itI) (sm hz.p8.p1 rfl) (o2 rfl (sm hz.p4.p2.p1 rfl)) (by kernel_rfl) info60 (by kernel_rfl) (by decide) hO29 hS16_34 (fun _ _ h => h) (by simp only [List.length_append, List.length_nil, List.length_take, List.length_drop]; omega) (by decide) (by omega) ?_)
 intro A35 c36 w37 hO38 hF39
 have hsw37 := hF39.size
 have hF_40 := hF_31.own hF39 (own_ge hO29 (by omega))
 have hS_41 := hS_32.fr hF39 (by intro b hb hz; have := own_ge hO29 (Nat.le_refl _) b hb; (try dsimp only at hz); omega)
 have hS12_42 := hS12_33.fr hF39 (by intro b hb hz; have := own_ge hO29 (Nat.le_refl _) b hb; (try dsimp only at hz); omega)
 have hS16_43 := hS16_34.fr hF39 (by intro b hb hz; have := own_ge hO29 (Nat.le_refl _) b hb; (try dsimp only at hz); omega)
 refine V.nil ?_
 refine ⟨trivial, ?_⟩
 refine V.ga (sm hz.p8.p2 rfl) ?_
 refine V.nil ?_
 refine ⟨chk [] trivial (by kernel_rfl), ?_⟩
 refine V.then_n (hK4 _ _ ?_)
 refine V.flushW hz.p8.p4 (fun a44 hz45 up46 => ?_)
 have s4_47 := up46 4 _ (sm hz.p8.p2.p1 rfl)
 clear up46
 refine V.ret ?_
 refine V.ret1 hz45 rfl (s4_47) ?_
 have hl : (([]) ++ (xs.take i)) ++ (xs.drop (i + 1)) = xs.eraseIdx i := by rw [List.nil_append, List.eraseIdx_eq_take_drop_succ]
 have hn : (([]) ++ (xs.take i)).length + (xs.drop (i + 1)).length = xs.length - 1 := by simp only [List.length_append, List.length_nil, List.length_take, List.length_drop]; omega
 rw [hl, hn] at hO38
 rw [hn]
 exact ⟨_, _, rfl, hO38, hF_40⟩
set_option maxHeartbeats 4000000 in
set_option maxRecDepth 20000 in
theorem rdel_any (w : World) (H : Nat → Prop) (av : List Nat) (t : Nat) (T : Tb Int) (hT : TabX 40 42 60 itI w H av t T) (hm : T.Mv) (k : ByteArray) (hkz : k.size ≤ 9223372036854775807) (hp8 : 4 < (tbStep T).a.length → (tbStep T).a.length % 8 = 0) : Calls Try.prog 47 #[.pointer (some ⟨t, 0, none⟩), .string k] w (fun e w' => e = .returned (.bool (findT (tbStep T) k).2) ∧ TabX 40 42 60 itI w' (gr H w w') av t (delT T k) ∧ FrP (gp H av) w w') := by
 have hFP := FrP.refl (gp H av) w
 obtain ⟨hok0, hm1⟩ := tbStep_ok hT.1 hm
 obtain ⟨T1, hT1⟩ : ∃ T1, T1 = tbStep T := ⟨_, rfl⟩
 rw [← hT1] at hok0 hm1 hp8 ⊢
 refine V.enter 95 Try.func47 rfl rfl ?_
 intro a hz ha
 have s0 : a.eval (.tmp 0) = (.pointer (some ⟨t, 0, none⟩)) := ha 0 _ rfl
 have s1 : a.eval (.tmp 1) = (.string k) := ha 1 _ rfl
 clear ha
 refine V.seq (fun K1 hK2 => ?_)
 refine V.rg ?_
 refine V.ga evc ?_
 refine V.nil ?_
 refine V.then_n (hK2 _ _ ?_)
 refine V.seq (fun K3 hK4 => ?_)
 refine V.rg ?_
 refine V.gm (o1 rfl s0) ?_
 refine V.go (V.call 49 #[] #[.pointer (some ⟨t, 0, none⟩)] evf (args1 (sm hz.p1 rfl)) (Go.Proofs.enters_of Try.func49 (by kernel_rfl) rfl) (rstep_any w (H) (av) t (T) hT hm) ?_)
 rintro _ w7 ⟨rfl, hT5, hfp6⟩
 refine ⟨_, rfl, ?_⟩
 have hsw7 := hfp6.size
 have hFP_8 := hFP.trP hfp6 (fun k hk => .inl hk)
 have hT5q := hT5.grm (w := w) (by omega)
 rw [← hT1] at hT5q
 refine V.nil ?_
 refine V.then_n (hK4 _ _ ?_)
 refine V.seq (fun K9 hK10 => ?_)
 refine V.rg ?_
 refine V.gm (o2 rfl (o1 rfl s0)) ?_
 refine V.gm (o4 rfl s1) ?_
 have hok1 := hT5q.1
 rcases findT_cases hok1 k with hf | ⟨j, hf, hj⟩ | ⟨hbn, j, hf, hj⟩
 ·
  rcases hT5q.2 with ⟨hb0, gA, vsA, hN⟩ | ⟨hb0, gA, gB, vsA, vsB, hN⟩
  ·
   have hb1 : T1.b.length = 0 := by rw [hb0]; rfl
   obtain ⟨hB, hRA, hlA, hK, hne, hpt, hpg⟩ := hN
   replace hK := hK.toH
   have hltt := hB.lt
   have hltg := hRA.lt
   have hE : FrP (gp (gr H w w7) av) w7 w7 := FrP.refl _ _
   have hK0 : ∀ k ∈ av, k < w7.heap.size := fun k hk => hK.avl k (by simp [hk])
   obtain ⟨hsd, hpa, hla, hlb, hmv, hmz, hnn, hcn, hks⟩ := (show T1.Ok from hok1)
   have hbl := hok1.bl
   have hFPE := hFP_8
   refine V.go (V.call 71 #[] #[.pointer (some ⟨t, 0, none⟩), .string k] evf (args2 (o1 rfl (sm hz.p2.p1 rfl)) (sm hz.p4 rfl)) (Go.Proofs.enters_of Try.func71 (by kernel_rfl) rfl) (by have h := rfind_any w7 (gr H w w7) (av) t T1 hT5q k hkz; rw [rfT_no hf] at h; exact h) ?_)
   rintro _ w12 ⟨rfl, hF11⟩
   refine ⟨_, rfl, ?_⟩
   have hsw12 := hF11.size
   have hB_13 := hB.fr0 hF11
   have hRA_14 := hRA.fr0 hF11
   have hK_15 := hK.fr0 hF11
   have hE_16 := hE.tr0 hF11
   refine V.gm (sm hz.p4.p1 rfl) ?_
   refine V.ge_ [(10, .tuple #[.int .i64 (-1), .int .i64 0, .int .i64 0])] ⟨(sm hz.p4.p2 rfl), trivial⟩ (.int .i64 (-1)) ?_
   refine V.ge_ [(10, .tuple #[.int .i64 (-1), .int .i64 0, .int .i64 0])] ⟨(o1 rfl (sm hz.p4.p2 rfl)), trivial⟩ (.int .i64 0) ?_
   refine V.ge_ [(10, .tuple #[.int .i64 (-1), .int .i64 0, .int .i64 0])] ⟨(o2 rfl (sm hz.p4.p2 rfl)), trivial⟩ (.int .i64 0) ?_
   refine V.ga (o2 rfl (sm hz.p4.p2.p1 rfl)) ?_
   refine V.ga (o2 rfl (sm hz.p8 rfl)) ?_
   refine V.ga (o2 rfl (sm hz.p8.p1 rfl)) ?_
   refine V.nil ?_
   refine V.then_n (hK10 _ _ ?_)
   refine V.flushW hz.p8.p4.p1 (fun a17 hz18 up19 => ?_)
   have s0_20 := up19 0 _ (o8 rfl (o4 rfl (o1 rfl s0)))
   have s5_21 := up19 5 _ (o2 rfl (sm hz.p8.p2 rfl))
   have s6_22 := up19 6 _ (o1 rfl (sm hz.p8.p2.p1 rfl))
   have s7_23 := up19 7 _ (sm hz.p8.p4 rfl)
   clear up19
   refine V.seq (fun K24 hK25 => ?_)
   refine V.seq (fun K26 hK27 => ?_)
   refine V.rg ?_
   refine V.gm (s5_21) ?_
   refine V.ge_ [(17, .int .i64 (-1))] ⟨(sm hz18 rfl), trivial⟩ (.bool true) ?_
   refine V.nil ?_
   refine V.then_n (hK27 _ _ ?_)
   refine V.cond_t (sm hz18.p1 rfl) ?_
   refine V.seq (fun K28 hK29 => ?_)
   refine V.rg ?_
   refine V.ga evc ?_
   refine V.nil ?_
   refine V.then_n (hK29 _ _ ?_)
   refine V.ret ?_
   refine V.then_r ?_
   refine V.ret1 hz18.p2.p1 rfl (sm hz18.p2 rfl) ?_
   have hst : delT T k = T1 := by (unfold delT; rw [← hT1]; unfold del1T; rw [hf, if_neg (by simp)])
   rw [hst]
   exact ⟨by rw [hf], (TabN.fin (T := T1) hok1 hb0 hB_13 hRA_14 (by have h := hK_15; rw [List.append_nil, List.append_nil] at h; exact h) (mem3 (l := (t :: gA :: av)) (by simp) (by simp) (by intro k hk; simp [hk])) (by first | assumption | exact Ne.symm (by assumption) | omega) hpt ⟨.inl hpg.1, hpg.2⟩ rfl rfl rfl rfl rfl).gr3 (by omega), (hFPE.gr hE_16)⟩
  ·
   have hb1 : T1.b.length ≠ 0 := fun h => hb0 (List.eq_nil_of_length_eq_zero h)
   obtain ⟨hB, hRA, hRB, hlA, hlB, hK, hne, hne2, hne3, hpt, hpg, hph⟩ := hN
   replace hK := hK.toH
   have hltt := hB.lt
   have hltg := hRA.lt
   have hltg2 := hRB.lt
   have hE : FrP (gp (gr H w w7) av) w7 w7 := FrP.refl _ _
   have hK0 : ∀ k ∈ av, k < w7.heap.size := fun k hk => hK.avl k (by simp [hk])
   obtain ⟨hsd, hpa, hla, hlb, hmv, hmz, hnn, hcn, hks⟩ := (show T1.Ok from hok1)
   have hbl := hok1.bl
   have hFPE := hFP_8
   refine V.go (V.call 71 #[] #[.pointer (some ⟨t, 0, none⟩), .string k] evf (args2 (o1 rfl (sm hz.p2.p1 rfl)) (sm hz.p4 rfl)) (Go.Proofs.enters_of Try.func71 (by kernel_rfl) rfl) (by have h := rfind_any w7 (gr H w w7) (av) t T1 hT5q k hkz; rw [rfT_no hf] at h; exact h) ?_)
   rintro _ w31 ⟨rfl, hF30⟩
   refine ⟨_, rfl, ?_⟩
   have hsw31 := hF30.size
   have hB_32 := hB.fr0 hF30
   have hRA_33 := hRA.fr0 hF30
   have hRB_34 := hRB.fr0 hF30
   have hK_35 := hK.fr0 hF30
   have hE_36 := hE.tr0 hF30
   refine V.gm (sm hz.p4.p1 rfl) ?_
   refine V.ge_ [(10, .tuple #[.int .i64 (-1), .int .i64 0, .int .i64 0])] ⟨(sm hz.p4.p2 rfl), trivial⟩ (.int .i64 (-1)) ?_
   refine V.ge_ [(10, .tuple #[.int .i64 (-1), .int .i64 0, .int .i64 0])] ⟨(o1 rfl (sm hz.p4.p2 rfl)), trivial⟩ (.int .i64 0) ?_
   refine V.ge_ [(10, .tuple #[.int .i64 (-1), .int .i64 0, .int .i64 0])] ⟨(o2 rfl (sm hz.p4.p2 rfl)), trivial⟩ (.int .i64 0) ?_
   refine V.ga (o2 rfl (sm hz.p4.p2.p1 rfl)) ?_
   refine V.ga (o2 rfl (sm hz.p8 rfl)) ?_
   refine V.ga (o2 rfl (sm hz.p8.p1 rfl)) ?_
   refine V.nil ?_
   refine V.then_n (hK10 _ _ ?_)
   refine V.flushW hz.p8.p4.p1 (fun a37 hz38 up39 => ?_)
   have s0_40 := up39 0 _ (o8 rfl (o4 rfl (o1 rfl s0)))
   have s5_41 := up39 5 _ (o2 rfl (sm hz.p8.p2 rfl))
   have s6_42 := up39 6 _ (o1 rfl (sm hz.p8.p2.p1 rfl))
   have s7_43 := up39 7 _ (sm hz.p8.p4 rfl)
   clear up39
   refine V.seq (fun K44 hK45 => ?_)
   refine V.seq (fun K46 hK47 => ?_)
   refine V.rg ?_
   refine V.gm (s5_41) ?_
   refine V.ge_ [(17, .int .i64 (-1))] ⟨(sm hz38 rfl), trivial⟩ (.bool true) ?_
   refine V.nil ?_
   refine V.then_n (hK47 _ _ ?_)
   refine V.cond_t (sm hz38.p1 rfl) ?_
   refine V.seq (fun K48 hK49 => ?_)
   refine V.rg ?_
   refine V.ga evc ?_
   refine V.nil ?_
   refine V.then_n (hK49 _ _ ?_)
   refine V.ret ?_
   refine V.then_r ?_
   refine V.ret1 hz38.p2.p1 rfl (sm hz38.p2 rfl) ?_
   have hst : delT T k = T1 := by (unfold delT; rw [← hT1]; unfold del1T; rw [hf, if_neg (by simp)])
   rw [hst]
   exact ⟨by rw [hf], (TabM.fin (T := T1) hok1 hb0 hB_32 hRA_33 hRB_34 (by first | exact hlA | (simp only [List.length_set]; exact hlA)) hK_35 (mem4 (l := (t :: gA :: gB :: av)) (by simp) (by simp) (by simp) (by intro k hk; simp [hk])) (by first | assumption | omega) (by first | assumption | omega) (by first | assumption | omega) hpt ⟨.inl hpg.1, hpg.2⟩ ⟨.inl hph.1, hph.2⟩ rfl rfl rfl rfl rfl rfl rfl).gr3 (by omega), (hFPE.gr hE_36)⟩
 ·
  rcases hT5q.2 with ⟨hb0, gA, vsA, hN⟩ | ⟨hb0, gA, gB, vsA, vsB, hN⟩
  ·
   have hb1 : T1.b.length = 0 := by rw [hb0]; rfl
   obtain ⟨hB, hRA, hlA, hK, hne, hpt, hpg⟩ := hN
   replace hK := hK.toH
   have hltt := hB.lt
   have hltg := hRA.lt
   have hE : FrP (gp (gr H w w7) av) w7 w7 := FrP.refl _ _
   have hK0 : ∀ k ∈ av, k < w7.heap.size := fun k hk => hK.avl k (by simp [hk])
   obtain ⟨hsd, hpa, hla, hlb, hmv, hmz, hnn, hcn, hks⟩ := (show T1.Ok from hok1)
   have hbl := hok1.bl
   have hFPE := hFP_8
   refine V.go (V.call 71 #[] #[.pointer (some ⟨t, 0, none⟩), .string k] evf (args2 (o1 rfl (sm hz.p2.p1 rfl)) (sm hz.p4 rfl)) (Go.Proofs.enters_of Try.func71 (by kernel_rfl) rfl) (by have h := rfind_any w7 (gr H w w7) (av) t T1 hT5q k hkz; rw [rfT_yes hf] at h; exact h) ?_)
   rintro _ w51 ⟨rfl, hF50⟩
   refine ⟨_, rfl, ?_⟩
   have hsw51 := hF50.size
   have hB_52 := hB.fr0 hF50
   have hRA_53 := hRA.fr0 hF50
   have hK_54 := hK.fr0 hF50
   have hE_55 := hE.tr0 hF50
   have hbkl := bkt_lt T1.seed k (n := T1.a.length) (by omega)
   have hbq := hbl (bkt T1.seed T1.a.length k)
   refine V.gm (sm hz.p4.p1 rfl) ?_
   refine V.ge_ [(10, .tuple #[.int .i64 0, .int .i64 ((bkt T1.seed T1.a.length k : Nat) : Int), .int .i64 (j : Int)])] ⟨(sm hz.p4.p2 rfl), trivial⟩ (.int .i64 0) ?_
   refine V.ge_ [(10, .tuple #[.int .i64 0, .int .i64 ((bkt T1.seed T1.a.length k : Nat) : Int), .int .i64 (j : Int)])] ⟨(o1 rfl (sm hz.p4.p2 rfl)), trivial⟩ (.int .i64 ((bkt T1.seed T1.a.length k : Nat) : Int)) ?_
   refine V.ge_ [(10, .tuple #[.int .i64 0, .int .i64 ((bkt T1.seed T1.a.length k : Nat) : Int), .int .i64 (j : Int)])] ⟨(o2 rfl (sm hz.p4.p2 rfl)), trivial⟩ (.int .i64 (j : Int)) ?_
   refine V.ga (o2 rfl (sm hz.p4.p2.p1 rfl)) ?_
   refine V.ga (o2 rfl (sm hz.p8 rfl)) ?_
   refine V.ga (o2 rfl (sm hz.p8.p1 rfl)) ?_
   refine V.nil ?_
   refine V.then_n (hK10 _ _ ?_)
   refine V.flushW hz.p8.p4.p1 (fun a56 hz57 up58 => ?_)
   have s0_59 := up58 0 _ (o8 rfl (o4 rfl (o1 rfl s0)))
   have s5_60 := up58 5 _ (o2 rfl (sm hz.p8.p2 rfl))
   have s6_61 := up58 6 _ (o1 rfl (sm hz.p8.p2.p1 rfl))
   have s7_62 := up58 7 _ (sm hz.p8.p4 rfl)
   clear up58
   refine V.seq (fun K63 hK64 => ?_)
   refine V.seq (fun K65 hK66 => ?_)
   refine V.rg ?_
   refine V.gm (s5_60) ?_
   refine V.ge_ [(17, .int .i64 0)] ⟨(sm hz57 rfl), trivial⟩ (.bool false) ?_
   refine V.nil ?_
   refine V.then_n (hK66 _ _ ?_)
   refine V.cond_f (sm hz57.p1 rfl) ?_
   refine V.skip ?_
   refine V.then_n (hK64 _ _ ?_)
   refine V.seq (fun K67 hK68 => ?_)
   refine V.seq (fun K69 hK70 => ?_)
   refine V.rg ?_
   refine V.gm (o2 rfl s5_60) ?_
   refine V.ge_ [(19, .int .i64 0)] ⟨(sm hz57.p2 rfl), trivial⟩ (.bool true) ?_
   refine V.nil ?_
   refine V.then_n (hK70 _ _ ?_)
   refine V.flushW hz57.p4 (fun a71 hz72 up73 => ?_)
   have s0_74 := up73 0 _ (o4 rfl s0_59)
   have s6_75 := up73 6 _ (o4 rfl s6_61)
   have s7_76 := up73 7 _ (o4 rfl s7_62)
   have s20_77 := up73 20 _ (sm hz57.p2.p1 rfl)
   clear up73
   refine V.cond_t (s20_77) ?_
   refine V.plan [[], [0], [0, 1], [0, 1, 2], [], [], [5], [5, 6], [5, 6, 7], [], [5, 6, 7, 8, 9], [5, 6, 7, 8, 9, 10], [], [5, 6, 7, 8, 9, 10, 11, 12], [0, 1, 2, 3, 4, 5, 6, 7, 8, 9, 10, 11, 12, 13], [0, 1, 2, 3, 4, 5, 6, 7, 8, 9, 10, 11, 12, 13, 14]] [([0, 1, 2, 3, 4, 5, 6, 7, 8, 9, 10, 11, 12], some (13, [3])), ([14], some (15, [])), ([], none)] (by kernel_rfl) (by kernel_rfl) (by exact fun _ _ _ _ h => h) ?_
   simp only [Plan.wpSegs, Plan.pickAll, Plan.nth, V.L_eq]
   obtain ⟨w78, hF79e⟩ : ∃ w1, w1 = w51.drew := ⟨_, rfl⟩
   rw [← hF79e]
   have hF79 : Fr [] w51 w78 := by rw [hF79e]; exact Fr.drew _ _
   have hsw78 : w78.heap.size = w51.heap.size := by rw [hF79e]; rfl
   clear hF79e
   have hB_80 := hB_52.fr0 hF79
   have hRA_81 := hRA_53.fr0 hF79
   have hK_82 := hK_54.fr0 hF79
   have hE_83 := hE_55.tr0 hF79
   refine V.gm (s0_74) ?_
   refine V.ge_ [(21, .pointer (some ⟨t, 0, none⟩))] ⟨(sm hz72 rfl), trivial⟩ (.pointer (some ⟨t, 0, none⟩)) ?_
   refine V.ge_ [(22, .pointer (some ⟨t, 0, none⟩))] ⟨(sm hz72.p1 rfl), trivial⟩ (.pointer (some ⟨t, 1, none⟩)) ?_
   refine V.go (V.ld ⟨t, 1, none⟩ (.slice (some ⟨gA, 0, none⟩) T1.a.length T1.a.length) (sm hz72.p2 rfl) (by kernel_rfl) (hB_80.at 1 rfl) ?_)
   refine V.gm (o4 rfl s6_75) ?_
   refine V.gm (o4 rfl (o1 rfl s0_74)) ?_
   refine V.ge_ [(26, .pointer (some ⟨t, 0, none⟩))] ⟨(sm hz72.p4.p1 rfl), trivial⟩ (.pointer (some ⟨t, 0, none⟩)) ?_
   refine V.ge_ [(27, .pointer (some ⟨t, 0, none⟩))] ⟨(sm hz72.p4.p2 rfl), trivial⟩ (.pointer (some ⟨t, 1, none⟩)) ?_
   refine V.go (V.ld ⟨t, 1, none⟩ (.slice (some ⟨gA, 0, none⟩) T1.a.length T1.a.length) (sm hz72.p4.p2.p1 rfl) (by kernel_rfl) (hB_80.at 1 rfl) ?_)
   refine V.gm (o8 rfl (o1 rfl s6_75)) ?_
   refine V.go (V.ixa gA 0 T1.a.length T1.a.length .i64 ((bkt T1.seed T1.a.length k : Nat) : Int) 1 (o1 rfl (sm hz72.p8 rfl)) (sm hz72.p8.p1 rfl) (by omega) (by omega) (by kernel_rfl) ?_)
   obtain ⟨A84, c85, hv86⟩ := hK_82.getA hlA (i := (bkt T1.seed T1.a.length k)) (by omega) nilS
   refine V.go (V.ld ⟨gA, 0 + ((bkt T1.seed T1.a.length k : Nat) : Int).toNat * 1, none⟩ (.slice A84 ((T1.a.getD (bkt T1.seed T1.a.length k) []).length) c85) (sm hz72.p8.p2 rfl) (by kernel_rfl) ((hRA_81.at (bkt T1.seed T1.a.length k) nilS (by omega)).trans (congrArg some hv86)) ?_)
   have hS87 := hK_82.slA hlA (i := (bkt T1.seed T1.a.length k)) (by omega) hv86
   refine V.gm (o8 rfl (o4 rfl s7_76)) ?_
   refine V.nil ?_
   refine ⟨chk [(21, .pointer (some ⟨t, 0, none⟩)), (26, .pointer (some ⟨t, 0, none⟩))] ⟨(o8 rfl (o4 rfl (sm hz72 rfl))), (o4 rfl (o2 rfl (o1 rfl (sm hz72.p4.p1 rfl)))), trivial⟩ (by kernel_rfl), ?_⟩
   obtain ⟨g95, o96, hAe, _, _⟩ := hS87.addr (by omega)
   have hSz93 := hS87.zone (Z' := fun b => b < w78.heap.size) (fun b hb _ => hb)
   rw [hAe] at hSz93
   have hA94 := hS87.cap
   refine V.go (V.call 73 #[] #[.slice A84 ((T1.a.getD (bkt T1.seed T1.a.length k) []).length) c85, .int .i64 (j : Int)] evf (args2 (o1 rfl (sm hz72.p8.p2.p1 rfl)) (sm hz72.p8.p4 rfl)) (Go.Proofs.enters_of Try.func73 (by kernel_rfl) rfl) (by (rw [hAe]; exact rwithout_any w78 g95 o96 c85 j (T1.a.getD (bkt T1.seed T1.a.length k) []) hSz93 (by omega) hA94 (by omega))) ?_)
   rintro _ w97 ⟨A90, c91, rfl, hOr88, hF89⟩
   refine ⟨_, rfl, ?_⟩
   have hsw97 := hF89.size
   have hB_98 := hB_80.fr0 hF89
   have hRA_99 := hRA_81.fr0 hF89
   have hE_100 := hE_83.tr0 hF89
   have hS87_101 := hS87.fr0 hF89
   have hK92 := hK_82.newA hlA (i := (bkt T1.seed T1.a.length k)) (by omega) hF89 hOr88 (fun k hk => .inr (by omega))
   refine V.nil ?_
   refine ⟨(fun _ => held_blk (n := 1) (hx := (o8 rfl (o2 rfl (sm hz72.p2 rfl)))) hB_80 hB_98 (by kernel_rfl) rfl (by simp only [List.length]; omega)), ?_⟩
   refine V.go (V.ixa gA 0 T1.a.length T1.a.length .i64 ((bkt T1.seed T1.a.length k : Nat) : Int) 1 (o8 rfl (o2 rfl (sm hz72.p2.p1 rfl))) (o8 rfl (o1 rfl (sm hz72.p4 rfl))) (by omega) (by omega) (by kernel_rfl) ?_)
   refine V.nil ?_
   refine ⟨chk [] trivial (by kernel_rfl), ?_⟩
   refine V.go (V.strow (enc := idV) gA (((bkt T1.seed T1.a.length k : Nat) : Int).toNat) (.slice A90 ((T1.a.getD (bkt T1.seed T1.a.length k) []).length - 1) c91) (sm hz72.p8.p4.p2 rfl) (o1 rfl (sm hz72.p8.p4.p1 rfl)) rfl rfl (by kernel_rfl) hRA_99 (by first | omega | (simp only [List.length_set, List.length_replicate]; omega)) ?_)
   intro w102 hR103 hF104 hsw102
   have hB_105 := hB_98.fr1 hF104 (by omega)
   have hE_106 := hE_100.tr1 hF104 (by first | exact .inl (by assumption) | exact .inr (by omega) | exact .inl (.inl rfl))
   have hK92_107 := hK92.fr hF104 (by simp)
   refine V.nil ?_
   refine ⟨trivial, ?_⟩
   refine V.nil ?_
   refine ⟨chk [] trivial (by kernel_rfl), ?_⟩
   refine V.then_n (hK68 _ _ ?_)
   refine V.flushW hz72.p8.p4.p2.p1 (fun a108 hz109 up110 => ?_)
   have s0_111 := up110 0 _ (o8 rfl (o4 rfl (o2 rfl (o1 rfl s0_74))))
   clear up110
   refine V.seq (fun K112 hK113 => ?_)
   refine V.rg ?_
   refine V.gm (s0_111) ?_
   refine V.ge_ [(51, .pointer (some ⟨t, 0, none⟩))] ⟨(sm hz109 rfl), trivial⟩ (.pointer (some ⟨t, 0, none⟩)) ?_
   refine V.ge_ [(52, .pointer (some ⟨t, 0, none⟩))] ⟨(sm hz109.p1 rfl), trivial⟩ (.pointer (some ⟨t, 4, none⟩)) ?_
   refine V.go (V.ld ⟨t, 4, none⟩ (.int .i64 (T1.n : Int)) (sm hz109.p2 rfl) (by kernel_rfl) (hB_105.at 4 rfl) ?_)
   refine V.gf_ [(54, .int .i64 (T1.n : Int))] ⟨(sm hz109.p2.p1 rfl), trivial⟩ (.int .i64 (IntKind.i64.wrap ((T1.n : Int) - 1))) (.int .i64 ((T1.n : Int) - 1)) (V.w_i64 (by omega) (by omega)) ?_
   refine V.ge_ [(51, .pointer (some ⟨t, 0, none⟩))] ⟨(o4 rfl (sm hz109 rfl)), trivial⟩ (.pointer (some ⟨t, 0, none⟩)) ?_
   refine V.ge_ [(56, .pointer (some ⟨t, 0, none⟩))] ⟨(sm hz109.p4.p1 rfl), trivial⟩ (.pointer (some ⟨t, 4, none⟩)) ?_
   refine V.go (V.stn t 4 (.int .i64 ((T1.n : Int) - 1)) [.int .i64 ((T1.n : Int) - 1)] (sm hz109.p4.p2 rfl) (o2 rfl (sm hz109.p4 rfl)) rfl rfl (by kernel_rfl) hB_105 (by simp) [.int .u64 (T1.seed : Int), .slice (some ⟨gA, 0, none⟩) T1.a.length T1.a.length, .slice none 0 0, .int .i64 (T1.moved : Int), .int .i64 ((T1.n : Int) - 1)] rfl ?_)
   intro w114 hB115 hF116 hsw114
   have hE_117 := hE_106.tr1 hF116 (by first | exact .inl (by assumption) | exact .inr (by omega) | exact .inl (.inl rfl))
   have hK92_118 := hK92_107.fr hF116 (by simp)
   have hR103_119 := hR103.fr1 hF116 (by omega)
   refine V.nil ?_
   refine V.then_n (hK113 _ _ ?_)
   refine V.flushW hz109.p4.p2.p1 (fun a120 hz121 up122 => ?_)
   have s0_123 := up122 0 _ (o4 rfl (o2 rfl (o1 rfl s0_111)))
   clear up122
   refine V.seq (fun K124 hK125 => ?_)
   refine V.seq (fun K126 hK127 => ?_)
   refine V.plan [[], [0], [0, 1], [0, 1, 2], [0, 1, 2, 3], [0, 1, 2, 3, 4], [0, 1, 2, 3, 4, 5], [0, 1, 2, 3, 4, 5, 6], [0, 1, 2, 3, 4, 5, 6, 7], [0, 1, 2, 3, 4, 5, 6, 7, 8], [0, 1, 2, 3, 4, 5, 6, 7, 8, 9], [0, 1, 2, 3, 4, 5, 6, 7, 8, 9, 10], [0, 1, 2, 3, 4, 5, 6, 7, 8, 9, 10, 11], [0, 1, 2, 3, 4, 5, 6, 7, 8, 9, 10, 11, 12], [0, 1, 2, 3, 4, 5, 6, 7, 8, 9, 10, 11, 12, 13], [0, 1, 2, 3, 4, 5, 6, 7, 8, 9, 10, 11, 12, 13, 14], [0, 1, 2, 3, 4, 5, 6, 7, 8, 9, 10, 11, 12, 13, 14, 15], [0, 1, 2, 3, 4, 5, 6, 7, 8, 9, 10, 11, 12, 13, 14, 15, 16], [0, 1, 2, 3, 4, 5, 6, 7, 8, 9, 10, 11, 12, 13, 14, 15, 16, 17], [0, 1, 2, 3, 4, 5, 6, 7, 8, 9, 10, 11, 12, 13, 14, 15, 16, 17, 18], [0, 1, 2, 3, 4, 5, 6, 7, 8, 9, 10, 11, 12, 13, 14], [0, 1, 2, 3, 4, 5, 6, 7, 8, 9, 10, 11, 12, 13, 14, 20], [0, 1, 2, 3, 4, 5, 6, 7, 8, 9, 10, 11, 12, 13, 14, 20, 21], [0, 1, 2, 3, 4, 5, 6, 7, 8, 9, 10, 11, 12, 13, 14, 20, 21, 22], [0, 1, 2, 3, 4, 5, 6, 7, 8, 9, 10, 11, 12, 13, 14, 20, 21, 22, 23], [0, 1, 2, 3, 4, 5, 6, 7, 8, 9, 10, 11, 12, 13, 14, 15, 16, 17, 18, 19, 20, 21, 22, 23, 24], [0, 1, 2, 3, 4, 5, 6, 7, 8, 9, 10, 11, 12, 13, 14, 15, 16, 17, 18, 19, 20, 21, 22, 23, 24, 25]] [([0, 1, 2, 3, 4, 5, 6, 7, 8, 9, 10, 11, 12, 13, 14, 15, 16, 17, 18, 19, 20, 21, 22, 23, 24, 25, 26], none)] (by kernel_rfl) (by kernel_rfl) (by exact fun _ _ _ _ h => h) ?_
   simp only [Plan.wpSegs, Plan.pickAll, Plan.nth, V.L_eq]
   obtain ⟨w128, hF129e⟩ : ∃ w1, w1 = w114.drew := ⟨_, rfl⟩
   rw [← hF129e]
   have hF129 : Fr [] w114 w128 := by rw [hF129e]; exact Fr.drew _ _
   have hsw128 : w128.heap.size = w114.heap.size := by rw [hF129e]; rfl
   clear hF129e
   have hE_130 := hE_117.tr0 hF129
   have hK92_131 := hK92_118.fr0 hF129
   have hR103_132 := hR103_119.fr0 hF129
   have hB115_133 := hB115.fr0 hF129
   refine V.gm (s0_123) ?_
   refine V.ge_ [(58, .pointer (some ⟨t, 0, none⟩))] ⟨(sm hz121 rfl), trivial⟩ (.pointer (some ⟨t, 0, none⟩)) ?_
   refine V.ge_ [(59, .pointer (some ⟨t, 0, none⟩))] ⟨(sm hz121.p1 rfl), trivial⟩ (.pointer (some ⟨t, 2, none⟩)) ?_
   refine V.go (V.ld ⟨t, 2, none⟩ (.slice none 0 0) (sm hz121.p2 rfl) (by kernel_rfl) (hB115_133.at 2 rfl) ?_)
   refine V.ge_ [(61, .slice none 0 0)] ⟨(sm hz121.p2.p1 rfl), trivial⟩ (.int .i64 0) ?_
   refine V.ge_ [(62, .int .i64 0)] ⟨(sm hz121.p4 rfl), trivial⟩ (.bool true) ?_
   refine V.gm (sm hz121.p4.p1 rfl) ?_
   refine V.go_on 64 (by kernel_rfl) (sm hz121.p4.p2 rfl) (V.mv (o4 rfl (o2 rfl (o1 rfl s0_123))) ?_)
   refine V.go_on 64 (by kernel_rfl) (o1 rfl (sm hz121.p4.p2 rfl)) (V.pv [(65, .pointer (some ⟨t, 0, none⟩))] ⟨(sm hz121.p4.p2.p1 rfl), trivial⟩ (by kernel_rfl) (.pointer (some ⟨t, 0, none⟩)) (by kernel_rfl) ?_)
   refine V.go_on 64 (by kernel_rfl) (o2 rfl (sm hz121.p4.p2 rfl)) (V.pv [(66, .pointer (some ⟨t, 0, none⟩))] ⟨(sm hz121.p8 rfl), trivial⟩ (by kernel_rfl) (.pointer (some ⟨t, 1, none⟩)) (by kernel_rfl) ?_)
   refine V.go_on 64 (by kernel_rfl) (o2 rfl (o1 rfl (sm hz121.p4.p2 rfl))) (V.ld ⟨t, 1, none⟩ (.slice (some ⟨gA, 0, none⟩) T1.a.length T1.a.length) (sm hz121.p8.p1 rfl) (by kernel_rfl) (hB115_133.at 1 rfl) ?_)
   refine V.go_on 64 (by kernel_rfl) (o4 rfl (sm hz121.p4.p2 rfl)) (V.pv [(68, .slice (some ⟨gA, 0, none⟩) T1.a.length T1.a.length)] ⟨(sm hz121.p8.p2 rfl), trivial⟩ (by kernel_rfl) (.int .i64 ((T1.a.length : Nat) : Int)) (by kernel_rfl) ?_)
   refine V.go_on 64 (by kernel_rfl) (o4 rfl (o1 rfl (sm hz121.p4.p2 rfl))) (V.pv [(69, .int .i64 ((T1.a.length : Nat) : Int))] ⟨(sm hz121.p8.p2.p1 rfl), trivial⟩ (by kernel_rfl) (.bool (decide (((T1.a.length : Nat) : Int) > 4))) (by kernel_rfl) ?_)
   refine V.go (V.pk_t (o4 rfl (o2 rfl (sm hz121.p4.p2 rfl))) (v := (.bool (decide (((T1.a.length : Nat) : Int) > 4)))) (sm hz121.p8.p4 rfl) ?_)
   refine V.gm (sm hz121.p8.p4.p1 rfl) ?_
   by_cases hg134 : ((T1.a.length : Nat) : Int) > 4
   ·
    refine V.flushL hz121.p8.p4.p2.p1 (fun a135 hz136 up137 => ?_)
    have s0_138 := up137 0 _ (o8 rfl (o4 rfl (o2 rfl (o1 rfl s0_123))))
    have s58_139 := up137 58 _ (o8 rfl (o4 rfl (o2 rfl (sm hz121 rfl))))
    have s59_140 := up137 59 _ (o8 rfl (o4 rfl (o1 rfl (sm hz121.p1 rfl))))
    have s60_141 := up137 60 _ (o8 rfl (o4 rfl (sm hz121.p2 rfl)))
    have s61_142 := up137 61 _ (o8 rfl (o2 rfl (o1 rfl (sm hz121.p2.p1 rfl))))
    have s62_143 := up137 62 _ (o8 rfl (o2 rfl (sm hz121.p4 rfl)))
    have s63_144 := up137 63 _ (o8 rfl (o1 rfl (sm hz121.p4.p1 rfl)))
    have s64_145 := up137 64 _ (o8 rfl (sm hz121.p4.p2 rfl))
    have s65_146 := up137 65 _ (o4 rfl (o2 rfl (o1 rfl (sm hz121.p4.p2.p1 rfl))))
    have s66_147 := up137 66 _ (o4 rfl (o2 rfl (sm hz121.p8 rfl)))
    have s67_148 := up137 67 _ (o4 rfl (o1 rfl (sm hz121.p8.p1 rfl)))
    have s68_149 := up137 68 _ (o4 rfl (sm hz121.p8.p2 rfl))
    have s69_150 := up137 69 _ (o2 rfl (o1 rfl (sm hz121.p8.p2.p1 rfl)))
    have s70_151 := up137 70 _ (o2 rfl (sm hz121.p8.p4 rfl))
    have s71_152 := up137 71 _ (o1 rfl (sm hz121.p8.p4.p1 rfl))
    have s72_153 := up137 72 _ (sm hz121.p8.p4.p2 rfl)
    clear up137
    have s70_154 := ((s70_151).trans (dt hg134))
    have s71_155 := ((s71_152).trans (dt hg134))
    have s72_156 := ((s72_153).trans (dt hg134))
    refine V.go_on 72 (by kernel_rfl) (s72_156) (V.mv (s0_138) ?_)
    refine V.go_on 72 (by kernel_rfl) (o1 rfl s72_156) (V.pv [(73, .pointer (some ⟨t, 0, none⟩))] ⟨(sm hz136 rfl), trivial⟩ (by kernel_rfl) (.pointer (some ⟨t, 0, none⟩)) (by kernel_rfl) ?_)
    refine V.go_on 72 (by kernel_rfl) (o2 rfl s72_156) (V.pv [(74, .pointer (some ⟨t, 0, none⟩))] ⟨(sm hz136.p1 rfl), trivial⟩ (by kernel_rfl) (.pointer (some ⟨t, 4, none⟩)) (by kernel_rfl) ?_)
    refine V.go_on 72 (by kernel_rfl) (o2 rfl (o1 rfl s72_156)) (V.ld ⟨t, 4, none⟩ (.int .i64 ((T1.n : Int) - 1)) (sm hz136.p2 rfl) (by kernel_rfl) (hB115_133.at 4 rfl) ?_)
    refine V.go_on 72 (by kernel_rfl) (o4 rfl s72_156) (V.pvw [(76, .int .i64 ((T1.n : Int) - 1))] ⟨(sm hz136.p2.p1 rfl), trivial⟩ (by kernel_rfl) (.int .i64 (IntKind.i64.wrap (((T1.n : Int) - 1) * 8))) (.int .i64 (((T1.n : Int) - 1) * 8)) (by kernel_rfl) (V.w_i64 (by omega) (by omega)) ?_)
    refine V.go_on 72 (by kernel_rfl) (o4 rfl (o1 rfl s72_156)) (V.mv (o4 rfl (o1 rfl s0_138)) ?_)
    refine V.go_on 72 (by kernel_rfl) (o4 rfl (o2 rfl s72_156)) (V.pv [(78, .pointer (some ⟨t, 0, none⟩))] ⟨(sm hz136.p4.p1 rfl), trivial⟩ (by kernel_rfl) (.pointer (some ⟨t, 0, none⟩)) (by kernel_rfl) ?_)
    refine V.go_on 72 (by kernel_rfl) (o4 rfl (o2 rfl (o1 rfl s72_156))) (V.pv [(79, .pointer (some ⟨t, 0, none⟩))] ⟨(sm hz136.p4.p2 rfl), trivial⟩ (by kernel_rfl) (.pointer (some ⟨t, 1, none⟩)) (by kernel_rfl) ?_)
    refine V.go_on 72 (by kernel_rfl) (o8 rfl s72_156) (V.ld ⟨t, 1, none⟩ (.slice (some ⟨gA, 0, none⟩) T1.a.length T1.a.length) (sm hz136.p4.p2.p1 rfl) (by kernel_rfl) (hB115_133.at 1 rfl) ?_)
    refine V.go_on 72 (by kernel_rfl) (o8 rfl (o1 rfl s72_156)) (V.pv [(81, .slice (some ⟨gA, 0, none⟩) T1.a.length T1.a.length)] ⟨(sm hz136.p8 rfl), trivial⟩ (by kernel_rfl) (.int .i64 ((T1.a.length : Nat) : Int)) (by kernel_rfl) ?_)
    refine V.go_on 72 (by kernel_rfl) (o8 rfl (o2 rfl s72_156)) (V.pv [(77, .int .i64 (((T1.n : Int) - 1) * 8)), (82, .int .i64 ((T1.a.length : Nat) : Int))] ⟨(o4 rfl (o1 rfl (sm hz136.p4 rfl))), (sm hz136.p8.p1 rfl), trivial⟩ (by kernel_rfl) (.bool (decide ((((T1.n : Int) - 1) * 8) < ((T1.a.length : Nat) : Int)))) (by kernel_rfl) ?_)
    refine V.go (V.pk_t (o8 rfl (o2 rfl (o1 rfl s72_156))) (v := (.bool (decide ((((T1.n : Int) - 1) * 8) < ((T1.a.length : Nat) : Int))))) (sm hz136.p8.p2 rfl) ?_)
    refine V.nil ?_
    refine ⟨chk [(58, .pointer (some ⟨t, 0, none⟩)), (61, .slice none 0 0), (62, .int .i64 0), (65, .pointer (some ⟨t, 0, none⟩)), (68, .slice (some ⟨gA, 0, none⟩) T1.a.length T1.a.length), (69, .int .i64 ((T1.a.length : Nat) : Int)), (73, .pointer (some ⟨t, 0, none⟩)), (76, .int .i64 ((T1.n : Int) - 1)), (78, .pointer (some ⟨t, 0, none⟩)), (81, .slice (some ⟨gA, 0, none⟩) T1.a.length T1.a.length), (77, .int .i64 (((T1.n : Int) - 1) * 8)), (82, .int .i64 ((T1.a.length : Nat) : Int)), (64, .bool true), (72, .bool true)] ⟨(o8 rfl (o4 rfl s58_139)), (o8 rfl (o4 rfl s61_142)), (o8 rfl (o4 rfl s62_143)), (o8 rfl (o4 rfl s65_146)), (o8 rfl (o4 rfl s68_149)), (o8 rfl (o4 rfl s69_150)), (o8 rfl (o2 rfl (o1 rfl (sm hz136 rfl)))), (o8 rfl (sm hz136.p2.p1 rfl)), (o4 rfl (o2 rfl (sm hz136.p4.p1 rfl))), (o2 rfl (o1 rfl (sm hz136.p8 rfl))), (o4 rfl (o2 rfl (o1 rfl (sm hz136.p4 rfl)))), (o2 rfl (sm hz136.p8.p1 rfl)), (o8 rfl (o4 rfl s64_145)), (o8 rfl (o4 rfl s72_156)), trivial⟩ (by kernel_rfl), ?_⟩
    refine V.then_n (hK127 _ _ ?_)
    refine V.flushW hz136.p8.p4 (fun a157 hz158 up159 => ?_)
    have s0_160 := up159 0 _ (o8 rfl (o4 rfl s0_138))
    have s84_161 := up159 84 _ (sm hz136.p8.p2.p1 rfl)
    clear up159
    refine V.condP (p := (((T1.n : Int) - 1) * 8) < ((T1.a.length : Nat) : Int)) (s84_161) (fun ht162 => ?_) (fun ht162 => ?_)
    ·
     refine V.rg ?_
     refine V.gm (s0_160) ?_
     refine V.gm (o1 rfl s0_160) ?_
     refine V.ge_ [(86, .pointer (some ⟨t, 0, none⟩))] ⟨(sm hz158.p1 rfl), trivial⟩ (.pointer (some ⟨t, 0, none⟩)) ?_
     refine V.ge_ [(87, .pointer (some ⟨t, 0, none⟩))] ⟨(sm hz158.p2 rfl), trivial⟩ (.pointer (some ⟨t, 1, none⟩)) ?_
     refine V.go (V.ld ⟨t, 1, none⟩ (.slice (some ⟨gA, 0, none⟩) T1.a.length T1.a.length) (sm hz158.p2.p1 rfl) (by kernel_rfl) (hB115_133.at 1 rfl) ?_)
     refine V.ge_ [(89, .slice (some ⟨gA, 0, none⟩) T1.a.length T1.a.length)] ⟨(sm hz158.p4 rfl), trivial⟩ (.int .i64 ((T1.a.length : Nat) : Int)) ?_
     refine V.go (V.quoN T1.a.length 2 (sm hz158.p4.p1 rfl) evc (by omega) (by omega) ?_)
     refine V.go (V.mks (enc := idV) (T1.a.length / 2) (.slice none 0 0) nilS 24 ((sm hz158.p4.p2 rfl).trans (V.int_eq (by omega))) ((sm hz158.p4.p2 rfl).trans (V.int_eq (by omega))) (by kernel_rfl) info42 rfl rfl (by omega) (by omega) ?_)
     intro w164 b163 heb163 hR165 hF166
     have hsb163 := hR165.lt
     have hE_167 := hE_130.tr0 hF166
     have hK92_168 := hK92_131.alloc hF166 heb163 (by omega)
     have hR103_169 := hR103_132.fr0 hF166
     have hB115_170 := hB115_133.fr0 hF166
     refine V.ge_ [(85, .pointer (some ⟨t, 0, none⟩))] ⟨(o4 rfl (o2 rfl (o1 rfl (sm hz158 rfl)))), trivial⟩ (.pointer (some ⟨t, 0, none⟩)) ?_
     refine V.ge_ [(93, .pointer (some ⟨t, 0, none⟩))] ⟨(sm hz158.p8 rfl), trivial⟩ (.pointer (some ⟨t, 2, none⟩)) ?_
     refine V.go (V.stn t 2 (.slice (some ⟨b163, 0, none⟩) (T1.a.length / 2) (T1.a.length / 2)) [.slice (some ⟨b163, 0, none⟩) (T1.a.length / 2) (T1.a.length / 2)] (sm hz158.p8.p1 rfl) (o2 rfl (sm hz158.p4.p2.p1 rfl)) rfl rfl (by kernel_rfl) hB115_170 (by simp) [.int .u64 (T1.seed : Int), .slice (some ⟨gA, 0, none⟩) T1.a.length T1.a.length, .slice (some ⟨b163, 0, none⟩) (T1.a.length / 2) (T1.a.length / 2), .int .i64 (T1.moved : Int), .int .i64 ((T1.n : Int) - 1)] rfl ?_)
     intro w171 hB172 hF173 hsw171
     have hE_174 := hE_167.tr1 hF173 (by first | exact .inl (by assumption) | exact .inr (by omega) | exact .inl (.inl rfl))
     have hK92_175 := hK92_168.fr hF173 (by simp)
     have hR103_176 := hR103_169.fr1 hF173 (by omega)
     have hR165_177 := hR165.fr1 hF173 (by omega)
     refine V.nil ?_
     refine V.then_n (hK125 _ _ ?_)
     refine V.flushW hz158.p8.p2 (fun a178 hz179 up180 => ?_)
     clear up180
     refine V.seq (fun K181 hK182 => ?_)
     refine V.rg ?_
     refine V.ga evc ?_
     refine V.nil ?_
     refine V.then_n (hK182 _ _ ?_)
     refine V.ret ?_
     refine V.ret1 hz179.p1 rfl (sm hz179 rfl) ?_
     have hst : delT T k = shrT (rm1T T1 k) := by (unfold delT; rw [← hT1]; unfold del1T; rw [hf, if_pos rfl])
     have hu2 : rm1T T1 k = ({ T1 with a := rmV T1.a (bkt T1.seed T1.a.length k) j, n := T1.n - 1 } : Tb Int) := by (unfold rm1T; rw [hf]; simp)
     have hup := (rm1T_ok hok1 hm1 k (by rw [hf])).1
     rw [hu2] at hup
     rw [hst, hu2]
     have hsh : shrT ({ T1 with a := rmV T1.a (bkt T1.seed T1.a.length k) j, n := T1.n - 1 } : Tb Int) = startT ({ T1 with a := rmV T1.a (bkt T1.seed T1.a.length k) j, n := T1.n - 1 } : Tb Int) (T1.a.length / 2) := by (unfold shrT; rw [if_pos ⟨hb1, by show 4 < (rmV T1.a (bkt T1.seed T1.a.length k) j).length; rw [rmV_length]; omega, by show T1.n - 1 < (rmV T1.a (bkt T1.seed T1.a.length k) j).length / 8; rw [rmV_length]; have := hp8 (by omega); omega⟩]; show startT _ ((rmV T1.a (bkt T1.seed T1.a.length k) j).length / 2) = _; rw [rmV_length])
     rw [hsh]
     have hsk := (shrT_ok (T := ({ T1 with a := rmV T1.a (bkt T1.seed T1.a.length k) j, n := T1.n - 1 } : Tb Int)) hup (by have := (rm1T_ok hok1 hm1 k (by rw [hf])).2; rwa [hu2] at this)).1
     rw [hsh] at hsk
     have hKa183 := hK92_175.addNil (T1.a.length / 2)
     simp only [List.append_nil] at hKa183
     exact ⟨by rw [hf], (TabM.fin (T := (startT ({ T1 with a := rmV T1.a (bkt T1.seed T1.a.length k) j, n := T1.n - 1 } : Tb Int) (T1.a.length / 2))) hsk (by simp only [startT]; intro h; have := congrArg List.length h; simp at this; omega) hB172 hR103_176 hR165_177 (by rw [List.length_set, List.length_set]; exact hlA) hKa183 (mem4 (l := (b163 :: t :: gA :: av)) (by simp) (by simp) (by simp) (by intro k hk; simp [hk])) (by first | assumption | omega) (by first | assumption | omega) (by first | assumption | omega) hpt ⟨.inl hpg.1, hpg.2⟩ ⟨.inr (by omega), fun hm => by have := hK0 _ hm; omega⟩ rfl (rmV_length _ _ _).symm (by have h := hmz hb1; show ((T1.moved : Nat) : Int) = ((0 : Nat) : Int); omega) (by show ((T1.n : Int) - 1) = ((T1.n - 1 : Nat) : Int); omega) rfl rfl (by simp [startT])).gr3 (by omega), (hFPE.gr hE_174)⟩
    ·
     refine V.skip ?_
     refine V.then_n (hK125 _ _ ?_)
     refine V.seq (fun K184 hK185 => ?_)
     refine V.rg ?_
     refine V.ga evc ?_
     refine V.nil ?_
     refine V.then_n (hK185 _ _ ?_)
     refine V.ret ?_
     refine V.ret1 hz158.p1 rfl (sm hz158 rfl) ?_
     have hst : delT T k = shrT (rm1T T1 k) := by (unfold delT; rw [← hT1]; unfold del1T; rw [hf, if_pos rfl])
     have hu2 : rm1T T1 k = ({ T1 with a := rmV T1.a (bkt T1.seed T1.a.length k) j, n := T1.n - 1 } : Tb Int) := by (unfold rm1T; rw [hf]; simp)
     have hup := (rm1T_ok hok1 hm1 k (by rw [hf])).1
     rw [hu2] at hup
     rw [hst, hu2]
     have hsh : shrT ({ T1 with a := rmV T1.a (bkt T1.seed T1.a.length k) j, n := T1.n - 1 } : Tb Int) = ({ T1 with a := rmV T1.a (bkt T1.seed T1.a.length k) j, n := T1.n - 1 } : Tb Int) := by (unfold shrT; rw [if_neg]; rintro ⟨_, h1, h2⟩; (have h3 : 4 < (rmV T1.a (bkt T1.seed T1.a.length k) j).length := h1); (have h4 : T1.n - 1 < (rmV T1.a (bkt T1.seed T1.a.length k) j).length / 8 := h2); rw [rmV_length] at h3 h4; have := hp8 h3; omega)
     rw [hsh]
     exact ⟨by rw [hf], (TabN.fin (T := ({ T1 with a := rmV T1.a (bkt T1.seed T1.a.length k) j, n := T1.n - 1 } : Tb Int)) hup hb0 hB115_133 hR103_132 (by have h := hK92_131; rw [List.append_nil, List.append_nil] at h; exact h) (mem3 (l := (t :: gA :: av)) (by simp) (by simp) (by intro k hk; simp [hk])) (by first | assumption | exact Ne.symm (by assumption) | omega) hpt ⟨.inl hpg.1, hpg.2⟩ rfl (rmV_length _ _ _).symm rfl (by show ((T1.n : Int) - 1) = ((T1.n - 1 : Nat) : Int); omega) rfl).gr3 (by omega), (hFPE.gr hE_130)⟩
   ·
    refine V.flushL hz121.p8.p4.p2.p1 (fun a186 hz187 up188 => ?_)
    have s0_189 := up188 0 _ (o8 rfl (o4 rfl (o2 rfl (o1 rfl s0_123))))
    have s58_190 := up188 58 _ (o8 rfl (o4 rfl (o2 rfl (sm hz121 rfl))))
    have s59_191 := up188 59 _ (o8 rfl (o4 rfl (o1 rfl (sm hz121.p1 rfl))))
    have s60_192 := up188 60 _ (o8 rfl (o4 rfl (sm hz121.p2 rfl)))
    have s61_193 := up188 61 _ (o8 rfl (o2 rfl (o1 rfl (sm hz121.p2.p1 rfl))))
    have s62_194 := up188 62 _ (o8 rfl (o2 rfl (sm hz121.p4 rfl)))
    have s63_195 := up188 63 _ (o8 rfl (o1 rfl (sm hz121.p4.p1 rfl)))
    have s64_196 := up188 64 _ (o8 rfl (sm hz121.p4.p2 rfl))
    have s65_197 := up188 65 _ (o4 rfl (o2 rfl (o1 rfl (sm hz121.p4.p2.p1 rfl))))
    have s66_198 := up188 66 _ (o4 rfl (o2 rfl (sm hz121.p8 rfl)))
    have s67_199 := up188 67 _ (o4 rfl (o1 rfl (sm hz121.p8.p1 rfl)))
    have s68_200 := up188 68 _ (o4 rfl (sm hz121.p8.p2 rfl))
    have s69_201 := up188 69 _ (o2 rfl (o1 rfl (sm hz121.p8.p2.p1 rfl)))
    have s70_202 := up188 70 _ (o2 rfl (sm hz121.p8.p4 rfl))
    have s71_203 := up188 71 _ (o1 rfl (sm hz121.p8.p4.p1 rfl))
    have s72_204 := up188 72 _ (sm hz121.p8.p4.p2 rfl)
    clear up188
    have s70_205 := ((s70_202).trans (df hg134))
    have s71_206 := ((s71_203).trans (df hg134))
    have s72_207 := ((s72_204).trans (df hg134))
    refine V.go_off 72 (by kernel_rfl) (s72_207) (by kernel_rfl) ?_
    refine V.go_off 72 (by kernel_rfl) (o1 rfl s72_207) (by kernel_rfl) ?_
    refine V.go_off 72 (by kernel_rfl) (o2 rfl s72_207) (by kernel_rfl) ?_
    refine V.go_off 72 (by kernel_rfl) (o2 rfl (o1 rfl s72_207)) (by kernel_rfl) ?_
    refine V.go_off 72 (by kernel_rfl) (o4 rfl s72_207) (by kernel_rfl) ?_
    refine V.go_off 72 (by kernel_rfl) (o4 rfl (o1 rfl s72_207)) (by kernel_rfl) ?_
    refine V.go_off 72 (by kernel_rfl) (o4 rfl (o2 rfl s72_207)) (by kernel_rfl) ?_
    refine V.go_off 72 (by kernel_rfl) (o4 rfl (o2 rfl (o1 rfl s72_207))) (by kernel_rfl) ?_
    refine V.go_off 72 (by kernel_rfl) (o8 rfl s72_207) (by kernel_rfl) ?_
    refine V.go_off 72 (by kernel_rfl) (o8 rfl (o1 rfl s72_207)) (by kernel_rfl) ?_
    refine V.go_off 72 (by kernel_rfl) (o8 rfl (o2 rfl s72_207)) (by kernel_rfl) ?_
    refine V.go (V.pk_f (o8 rfl (o2 rfl (o1 rfl s72_207))) (v := (.bool false)) evc ?_)
    refine V.nil ?_
    refine ⟨chk [(58, .pointer (some ⟨t, 0, none⟩)), (61, .slice none 0 0), (62, .int .i64 0), (65, .pointer (some ⟨t, 0, none⟩)), (68, .slice (some ⟨gA, 0, none⟩) T1.a.length T1.a.length), (69, .int .i64 ((T1.a.length : Nat) : Int)), (73, undef), (76, undef), (78, undef), (81, undef), (77, undef), (82, undef), (64, .bool true), (72, .bool false)] ⟨(o8 rfl (o4 rfl s58_190)), (o8 rfl (o4 rfl s61_193)), (o8 rfl (o4 rfl s62_194)), (o8 rfl (o4 rfl s65_197)), (o8 rfl (o4 rfl s68_200)), (o8 rfl (o4 rfl s69_201)), (o8 rfl (o2 rfl (o1 rfl (sm hz187 rfl)))), (o8 rfl (sm hz187.p2.p1 rfl)), (o4 rfl (o2 rfl (sm hz187.p4.p1 rfl))), (o2 rfl (o1 rfl (sm hz187.p8 rfl))), (o4 rfl (o2 rfl (o1 rfl (sm hz187.p4 rfl)))), (o2 rfl (sm hz187.p8.p1 rfl)), (o8 rfl (o4 rfl s64_196)), (o8 rfl (o4 rfl s72_207)), trivial⟩ (by kernel_rfl), ?_⟩
    refine V.then_n (hK127 _ _ ?_)
    refine V.flushW hz187.p8.p4 (fun a208 hz209 up210 => ?_)
    have s0_211 := up210 0 _ (o8 rfl (o4 rfl s0_189))
    have s84_212 := up210 84 _ (sm hz187.p8.p2.p1 rfl)
    clear up210
    refine V.cond_f (s84_212) ?_
    refine V.skip ?_
    refine V.then_n (hK125 _ _ ?_)
    refine V.seq (fun K213 hK214 => ?_)
    refine V.rg ?_
    refine V.ga evc ?_
    refine V.nil ?_
    refine V.then_n (hK214 _ _ ?_)
    refine V.ret ?_
    refine V.ret1 hz209.p1 rfl (sm hz209 rfl) ?_
    have hst : delT T k = shrT (rm1T T1 k) := by (unfold delT; rw [← hT1]; unfold del1T; rw [hf, if_pos rfl])
    have hu2 : rm1T T1 k = ({ T1 with a := rmV T1.a (bkt T1.seed T1.a.length k) j, n := T1.n - 1 } : Tb Int) := by (unfold rm1T; rw [hf]; simp)
    have hup := (rm1T_ok hok1 hm1 k (by rw [hf])).1
    rw [hu2] at hup
    rw [hst, hu2]
    have hsh : shrT ({ T1 with a := rmV T1.a (bkt T1.seed T1.a.length k) j, n := T1.n - 1 } : Tb Int) = ({ T1 with a := rmV T1.a (bkt T1.seed T1.a.length k) j, n := T1.n - 1 } : Tb Int) := by (unfold shrT; rw [if_neg]; rintro ⟨_, h1, h2⟩; (have h3 : 4 < (rmV T1.a (bkt T1.seed T1.a.length k) j).length := h1); (have h4 : T1.n - 1 < (rmV T1.a (bkt T1.seed T1.a.length k) j).length / 8 := h2); rw [rmV_length] at h3 h4; have := hp8 h3; omega)
    rw [hsh]
    exact ⟨by rw [hf], (TabN.fin (T := ({ T1 with a := rmV T1.a (bkt T1.seed T1.a.length k) j, n := T1.n - 1 } : Tb Int)) hup hb0 hB115_133 hR103_132 (by have h := hK92_131; rw [List.append_nil, List.append_nil] at h; exact h) (mem3 (l := (t :: gA :: av)) (by simp) (by simp) (by intro k hk; simp [hk])) (by first | assumption | exact Ne.symm (by assumption) | omega) hpt ⟨.inl hpg.1, hpg.2⟩ rfl (rmV_length _ _ _).symm rfl (by show ((T1.n : Int) - 1) = ((T1.n - 1 : Nat) : Int); omega) rfl).gr3 (by omega), (hFPE.gr hE_130)⟩
  ·
   have hb1 : T1.b.length ≠ 0 := fun h => hb0 (List.eq_nil_of_length_eq_zero h)
   obtain ⟨hB, hRA, hRB, hlA, hlB, hK, hne, hne2, hne3, hpt, hpg, hph⟩ := hN
   replace hK := hK.toH
   have hltt := hB.lt
   have hltg := hRA.lt
   have hltg2 := hRB.lt
   have hE : FrP (gp (gr H w w7) av) w7 w7 := FrP.refl _ _
   have hK0 : ∀ k ∈ av, k < w7.heap.size := fun k hk => hK.avl k (by simp [hk])
   obtain ⟨hsd, hpa, hla, hlb, hmv, hmz, hnn, hcn, hks⟩ := (show T1.Ok from hok1)
   have hbl := hok1.bl
   have hFPE := hFP_8
   refine V.go (V.call 71 #[] #[.pointer (some ⟨t, 0, none⟩), .string k] evf (args2 (o1 rfl (sm hz.p2.p1 rfl)) (sm hz.p4 rfl)) (Go.Proofs.enters_of Try.func71 (by kernel_rfl) rfl) (by have h := rfind_any w7 (gr H w w7) (av) t T1 hT5q k hkz; rw [rfT_yes hf] at h; exact h) ?_)
   rintro _ w216 ⟨rfl, hF215⟩
   refine ⟨_, rfl, ?_⟩
   have hsw216 := hF215.size
   have hB_217 := hB.fr0 hF215
   have hRA_218 := hRA.fr0 hF215
   have hRB_219 := hRB.fr0 hF215
   have hK_220 := hK.fr0 hF215
   have hE_221 := hE.tr0 hF215
   have hbkl := bkt_lt T1.seed k (n := T1.a.length) (by omega)
   have hbq := hbl (bkt T1.seed T1.a.length k)
   refine V.gm (sm hz.p4.p1 rfl) ?_
   refine V.ge_ [(10, .tuple #[.int .i64 0, .int .i64 ((bkt T1.seed T1.a.length k : Nat) : Int), .int .i64 (j : Int)])] ⟨(sm hz.p4.p2 rfl), trivial⟩ (.int .i64 0) ?_
   refine V.ge_ [(10, .tuple #[.int .i64 0, .int .i64 ((bkt T1.seed T1.a.length k : Nat) : Int), .int .i64 (j : Int)])] ⟨(o1 rfl (sm hz.p4.p2 rfl)), trivial⟩ (.int .i64 ((bkt T1.seed T1.a.length k : Nat) : Int)) ?_
   refine V.ge_ [(10, .tuple #[.int .i64 0, .int .i64 ((bkt T1.seed T1.a.length k : Nat) : Int), .int .i64 (j : Int)])] ⟨(o2 rfl (sm hz.p4.p2 rfl)), trivial⟩ (.int .i64 (j : Int)) ?_
   refine V.ga (o2 rfl (sm hz.p4.p2.p1 rfl)) ?_
   refine V.ga (o2 rfl (sm hz.p8 rfl)) ?_
   refine V.ga (o2 rfl (sm hz.p8.p1 rfl)) ?_
   refine V.nil ?_
   refine V.then_n (hK10 _ _ ?_)
   refine V.flushW hz.p8.p4.p1 (fun a222 hz223 up224 => ?_)
   have s0_225 := up224 0 _ (o8 rfl (o4 rfl (o1 rfl s0)))
   have s5_226 := up224 5 _ (o2 rfl (sm hz.p8.p2 rfl))
   have s6_227 := up224 6 _ (o1 rfl (sm hz.p8.p2.p1 rfl))
   have s7_228 := up224 7 _ (sm hz.p8.p4 rfl)
   clear up224
   refine V.seq (fun K229 hK230 => ?_)
   refine V.seq (fun K231 hK232 => ?_)
   refine V.rg ?_
   refine V.gm (s5_226) ?_
   refine V.ge_ [(17, .int .i64 0)] ⟨(sm hz223 rfl), trivial⟩ (.bool false) ?_
   refine V.nil ?_
   refine V.then_n (hK232 _ _ ?_)
   refine V.cond_f (sm hz223.p1 rfl) ?_
   refine V.skip ?_
   refine V.then_n (hK230 _ _ ?_)
   refine V.seq (fun K233 hK234 => ?_)
   refine V.seq (fun K235 hK236 => ?_)
   refine V.rg ?_
   refine V.gm (o2 rfl s5_226) ?_
   refine V.ge_ [(19, .int .i64 0)] ⟨(sm hz223.p2 rfl), trivial⟩ (.bool true) ?_
   refine V.nil ?_
   refine V.then_n (hK236 _ _ ?_)
   refine V.flushW hz223.p4 (fun a237 hz238 up239 => ?_)
   have s0_240 := up239 0 _ (o4 rfl s0_225)
   have s6_241 := up239 6 _ (o4 rfl s6_227)
   have s7_242 := up239 7 _ (o4 rfl s7_228)
   have s20_243 := up239 20 _ (sm hz223.p2.p1 rfl)
   clear up239
   refine V.cond_t (s20_243) ?_
   refine V.plan [[], [0], [0, 1], [0, 1, 2], [], [], [5], [5, 6], [5, 6, 7], [], [5, 6, 7, 8, 9], [5, 6, 7, 8, 9, 10], [], [5, 6, 7, 8, 9, 10, 11, 12], [0, 1, 2, 3, 4, 5, 6, 7, 8, 9, 10, 11, 12, 13], [0, 1, 2, 3, 4, 5, 6, 7, 8, 9, 10, 11, 12, 13, 14]] [([0, 1, 2, 3, 4, 5, 6, 7, 8, 9, 10, 11, 12], some (13, [3])), ([14], some (15, [])), ([], none)] (by kernel_rfl) (by kernel_rfl) (by exact fun _ _ _ _ h => h) ?_
   simp only [Plan.wpSegs, Plan.pickAll, Plan.nth, V.L_eq]
   obtain ⟨w244, hF245e⟩ : ∃ w1, w1 = w216.drew := ⟨_, rfl⟩
   rw [← hF245e]
   have hF245 : Fr [] w216 w244 := by rw [hF245e]; exact Fr.drew _ _
   have hsw244 : w244.heap.size = w216.heap.size := by rw [hF245e]; rfl
   clear hF245e
   have hB_246 := hB_217.fr0 hF245
   have hRA_247 := hRA_218.fr0 hF245
   have hRB_248 := hRB_219.fr0 hF245
   have hK_249 := hK_220.fr0 hF245
   have hE_250 := hE_221.tr0 hF245
   refine V.gm (s0_240) ?_
   refine V.ge_ [(21, .pointer (some ⟨t, 0, none⟩))] ⟨(sm hz238 rfl), trivial⟩ (.pointer (some ⟨t, 0, none⟩)) ?_
   refine V.ge_ [(22, .pointer (some ⟨t, 0, none⟩))] ⟨(sm hz238.p1 rfl), trivial⟩ (.pointer (some ⟨t, 1, none⟩)) ?_
   refine V.go (V.ld ⟨t, 1, none⟩ (.slice (some ⟨gA, 0, none⟩) T1.a.length T1.a.length) (sm hz238.p2 rfl) (by kernel_rfl) (hB_246.at 1 rfl) ?_)
   refine V.gm (o4 rfl s6_241) ?_
   refine V.gm (o4 rfl (o1 rfl s0_240)) ?_
   refine V.ge_ [(26, .pointer (some ⟨t, 0, none⟩))] ⟨(sm hz238.p4.p1 rfl), trivial⟩ (.pointer (some ⟨t, 0, none⟩)) ?_
   refine V.ge_ [(27, .pointer (some ⟨t, 0, none⟩))] ⟨(sm hz238.p4.p2 rfl), trivial⟩ (.pointer (some ⟨t, 1, none⟩)) ?_
   refine V.go (V.ld ⟨t, 1, none⟩ (.slice (some ⟨gA, 0, none⟩) T1.a.length T1.a.length) (sm hz238.p4.p2.p1 rfl) (by kernel_rfl) (hB_246.at 1 rfl) ?_)
   refine V.gm (o8 rfl (o1 rfl s6_241)) ?_
   refine V.go (V.ixa gA 0 T1.a.length T1.a.length .i64 ((bkt T1.seed T1.a.length k : Nat) : Int) 1 (o1 rfl (sm hz238.p8 rfl)) (sm hz238.p8.p1 rfl) (by omega) (by omega) (by kernel_rfl) ?_)
   obtain ⟨A251, c252, hv253⟩ := hK_249.getA hlA (i := (bkt T1.seed T1.a.length k)) (by omega) nilS
   refine V.go (V.ld ⟨gA, 0 + ((bkt T1.seed T1.a.length k : Nat) : Int).toNat * 1, none⟩ (.slice A251 ((T1.a.getD (bkt T1.seed T1.a.length k) []).length) c252) (sm hz238.p8.p2 rfl) (by kernel_rfl) ((hRA_247.at (bkt T1.seed T1.a.length k) nilS (by omega)).trans (congrArg some hv253)) ?_)
   have hS254 := hK_249.slA hlA (i := (bkt T1.seed T1.a.length k)) (by omega) hv253
   refine V.gm (o8 rfl (o4 rfl s7_242)) ?_
   refine V.nil ?_
   refine ⟨chk [(21, .pointer (some ⟨t, 0, none⟩)), (26, .pointer (some ⟨t, 0, none⟩))] ⟨(o8 rfl (o4 rfl (sm hz238 rfl))), (o4 rfl (o2 rfl (o1 rfl (sm hz238.p4.p1 rfl)))), trivial⟩ (by kernel_rfl), ?_⟩
   obtain ⟨g262, o263, hAe, _, _⟩ := hS254.addr (by omega)
   have hSz260 := hS254.zone (Z' := fun b => b < w244.heap.size) (fun b hb _ => hb)
   rw [hAe] at hSz260
   have hA261 := hS254.cap
   refine V.go (V.call 73 #[] #[.slice A251 ((T1.a.getD (bkt T1.seed T1.a.length k) []).length) c252, .int .i64 (j : Int)] evf (args2 (o1 rfl (sm hz238.p8.p2.p1 rfl)) (sm hz238.p8.p4 rfl)) (Go.Proofs.enters_of Try.func73 (by kernel_rfl) rfl) (by (rw [hAe]; exact rwithout_any w244 g262 o263 c252 j (T1.a.getD (bkt T1.seed T1.a.length k) []) hSz260 (by omega) hA261 (by omega))) ?_)
   rintro _ w264 ⟨A257, c258, rfl, hOr255, hF256⟩
   refine ⟨_, rfl, ?_⟩
   have hsw264 := hF256.size
   have hB_265 := hB_246.fr0 hF256
   have hRA_266 := hRA_247.fr0 hF256
   have hRB_267 := hRB_248.fr0 hF256
   have hE_268 := hE_250.tr0 hF256
   have hS254_269 := hS254.fr0 hF256
   have hK259 := hK_249.newA hlA (i := (bkt T1.seed T1.a.length k)) (by omega) hF256 hOr255 (fun k hk => .inr (by omega))
   refine V.nil ?_
   refine ⟨(fun _ => held_blk (n := 1) (hx := (o8 rfl (o2 rfl (sm hz238.p2 rfl)))) hB_246 hB_265 (by kernel_rfl) rfl (by simp only [List.length]; omega)), ?_⟩
   refine V.go (V.ixa gA 0 T1.a.length T1.a.length .i64 ((bkt T1.seed T1.a.length k : Nat) : Int) 1 (o8 rfl (o2 rfl (sm hz238.p2.p1 rfl))) (o8 rfl (o1 rfl (sm hz238.p4 rfl))) (by omega) (by omega) (by kernel_rfl) ?_)
   refine V.nil ?_
   refine ⟨chk [] trivial (by kernel_rfl), ?_⟩
   refine V.go (V.strow (enc := idV) gA (((bkt T1.seed T1.a.length k : Nat) : Int).toNat) (.slice A257 ((T1.a.getD (bkt T1.seed T1.a.length k) []).length - 1) c258) (sm hz238.p8.p4.p2 rfl) (o1 rfl (sm hz238.p8.p4.p1 rfl)) rfl rfl (by kernel_rfl) hRA_266 (by first | omega | (simp only [List.length_set, List.length_replicate]; omega)) ?_)
   intro w270 hR271 hF272 hsw270
   have hB_273 := hB_265.fr1 hF272 (by omega)
   have hRB_274 := hRB_267.fr1 hF272 (by omega)
   have hE_275 := hE_268.tr1 hF272 (by first | exact .inl (by assumption) | exact .inr (by omega) | exact .inl (.inl rfl))
   have hK259_276 := hK259.fr hF272 (by simp)
   refine V.nil ?_
   refine ⟨trivial, ?_⟩
   refine V.nil ?_
   refine ⟨chk [] trivial (by kernel_rfl), ?_⟩
   refine V.then_n (hK234 _ _ ?_)
   refine V.flushW hz238.p8.p4.p2.p1 (fun a277 hz278 up279 => ?_)
   have s0_280 := up279 0 _ (o8 rfl (o4 rfl (o2 rfl (o1 rfl s0_240))))
   clear up279
   refine V.seq (fun K281 hK282 => ?_)
   refine V.rg ?_
   refine V.gm (s0_280) ?_
   refine V.ge_ [(51, .pointer (some ⟨t, 0, none⟩))] ⟨(sm hz278 rfl), trivial⟩ (.pointer (some ⟨t, 0, none⟩)) ?_
   refine V.ge_ [(52, .pointer (some ⟨t, 0, none⟩))] ⟨(sm hz278.p1 rfl), trivial⟩ (.pointer (some ⟨t, 4, none⟩)) ?_
   refine V.go (V.ld ⟨t, 4, none⟩ (.int .i64 (T1.n : Int)) (sm hz278.p2 rfl) (by kernel_rfl) (hB_273.at 4 rfl) ?_)
   refine V.gf_ [(54, .int .i64 (T1.n : Int))] ⟨(sm hz278.p2.p1 rfl), trivial⟩ (.int .i64 (IntKind.i64.wrap ((T1.n : Int) - 1))) (.int .i64 ((T1.n : Int) - 1)) (V.w_i64 (by omega) (by omega)) ?_
   refine V.ge_ [(51, .pointer (some ⟨t, 0, none⟩))] ⟨(o4 rfl (sm hz278 rfl)), trivial⟩ (.pointer (some ⟨t, 0, none⟩)) ?_
   refine V.ge_ [(56, .pointer (some ⟨t, 0, none⟩))] ⟨(sm hz278.p4.p1 rfl), trivial⟩ (.pointer (some ⟨t, 4, none⟩)) ?_
   refine V.go (V.stn t 4 (.int .i64 ((T1.n : Int) - 1)) [.int .i64 ((T1.n : Int) - 1)] (sm hz278.p4.p2 rfl) (o2 rfl (sm hz278.p4 rfl)) rfl rfl (by kernel_rfl) hB_273 (by simp) [.int .u64 (T1.seed : Int), .slice (some ⟨gA, 0, none⟩) T1.a.length T1.a.length, .slice (some ⟨gB, 0, none⟩) T1.b.length T1.b.length, .int .i64 (T1.moved : Int), .int .i64 ((T1.n : Int) - 1)] rfl ?_)
   intro w283 hB284 hF285 hsw283
   have hRB_286 := hRB_274.fr1 hF285 (by omega)
   have hE_287 := hE_275.tr1 hF285 (by first | exact .inl (by assumption) | exact .inr (by omega) | exact .inl (.inl rfl))
   have hK259_288 := hK259_276.fr hF285 (by simp)
   have hR271_289 := hR271.fr1 hF285 (by omega)
   refine V.nil ?_
   refine V.then_n (hK282 _ _ ?_)
   refine V.flushW hz278.p4.p2.p1 (fun a290 hz291 up292 => ?_)
   have s0_293 := up292 0 _ (o4 rfl (o2 rfl (o1 rfl s0_280)))
   clear up292
   refine V.seq (fun K294 hK295 => ?_)
   refine V.seq (fun K296 hK297 => ?_)
   refine V.plan [[], [0], [0, 1], [0, 1, 2], [0, 1, 2, 3], [0, 1, 2, 3, 4], [0, 1, 2, 3, 4, 5], [0, 1, 2, 3, 4, 5, 6], [0, 1, 2, 3, 4, 5, 6, 7], [0, 1, 2, 3, 4, 5, 6, 7, 8], [0, 1, 2, 3, 4, 5, 6, 7, 8, 9], [0, 1, 2, 3, 4, 5, 6, 7, 8, 9, 10], [0, 1, 2, 3, 4, 5, 6, 7, 8, 9, 10, 11], [0, 1, 2, 3, 4, 5, 6, 7, 8, 9, 10, 11, 12], [0, 1, 2, 3, 4, 5, 6, 7, 8, 9, 10, 11, 12, 13], [0, 1, 2, 3, 4, 5, 6, 7, 8, 9, 10, 11, 12, 13, 14], [0, 1, 2, 3, 4, 5, 6, 7, 8, 9, 10, 11, 12, 13, 14, 15], [0, 1, 2, 3, 4, 5, 6, 7, 8, 9, 10, 11, 12, 13, 14, 15, 16], [0, 1, 2, 3, 4, 5, 6, 7, 8, 9, 10, 11, 12, 13, 14, 15, 16, 17], [0, 1, 2, 3, 4, 5, 6, 7, 8, 9, 10, 11, 12, 13, 14, 15, 16, 17, 18], [0, 1, 2, 3, 4, 5, 6, 7, 8, 9, 10, 11, 12, 13, 14], [0, 1, 2, 3, 4, 5, 6, 7, 8, 9, 10, 11, 12, 13, 14, 20], [0, 1, 2, 3, 4, 5, 6, 7, 8, 9, 10, 11, 12, 13, 14, 20, 21], [0, 1, 2, 3, 4, 5, 6, 7, 8, 9, 10, 11, 12, 13, 14, 20, 21, 22], [0, 1, 2, 3, 4, 5, 6, 7, 8, 9, 10, 11, 12, 13, 14, 20, 21, 22, 23], [0, 1, 2, 3, 4, 5, 6, 7, 8, 9, 10, 11, 12, 13, 14, 15, 16, 17, 18, 19, 20, 21, 22, 23, 24], [0, 1, 2, 3, 4, 5, 6, 7, 8, 9, 10, 11, 12, 13, 14, 15, 16, 17, 18, 19, 20, 21, 22, 23, 24, 25]] [([0, 1, 2, 3, 4, 5, 6, 7, 8, 9, 10, 11, 12, 13, 14, 15, 16, 17, 18, 19, 20, 21, 22, 23, 24, 25, 26], none)] (by kernel_rfl) (by kernel_rfl) (by exact fun _ _ _ _ h => h) ?_
   simp only [Plan.wpSegs, Plan.pickAll, Plan.nth, V.L_eq]
   obtain ⟨w298, hF299e⟩ : ∃ w1, w1 = w283.drew := ⟨_, rfl⟩
   rw [← hF299e]
   have hF299 : Fr [] w283 w298 := by rw [hF299e]; exact Fr.drew _ _
   have hsw298 : w298.heap.size = w283.heap.size := by rw [hF299e]; rfl
   clear hF299e
   have hRB_300 := hRB_286.fr0 hF299
   have hE_301 := hE_287.tr0 hF299
   have hK259_302 := hK259_288.fr0 hF299
   have hR271_303 := hR271_289.fr0 hF299
   have hB284_304 := hB284.fr0 hF299
   refine V.gm (s0_293) ?_
   refine V.ge_ [(58, .pointer (some ⟨t, 0, none⟩))] ⟨(sm hz291 rfl), trivial⟩ (.pointer (some ⟨t, 0, none⟩)) ?_
   refine V.ge_ [(59, .pointer (some ⟨t, 0, none⟩))] ⟨(sm hz291.p1 rfl), trivial⟩ (.pointer (some ⟨t, 2, none⟩)) ?_
   refine V.go (V.ld ⟨t, 2, none⟩ (.slice (some ⟨gB, 0, none⟩) T1.b.length T1.b.length) (sm hz291.p2 rfl) (by kernel_rfl) (hB284_304.at 2 rfl) ?_)
   refine V.ge_ [(61, .slice (some ⟨gB, 0, none⟩) T1.b.length T1.b.length)] ⟨(sm hz291.p2.p1 rfl), trivial⟩ (.int .i64 ((T1.b.length : Nat) : Int)) ?_
   refine V.gf_ [(62, .int .i64 ((T1.b.length : Nat) : Int))] ⟨(sm hz291.p4 rfl), trivial⟩ (.bool (((T1.b.length : Nat) : Int) == 0)) (.bool (decide (((T1.b.length : Nat) : Int) = 0))) V.t_eql ?_
   refine V.gm (sm hz291.p4.p1 rfl) ?_
   by_cases hg305 : ((T1.b.length : Nat) : Int) = 0
   ·
    refine V.flushL hz291.p4.p2.p1 (fun a306 hz307 up308 => ?_)
    have s0_309 := up308 0 _ (o4 rfl (o2 rfl (o1 rfl s0_293)))
    have s58_310 := up308 58 _ (o4 rfl (o2 rfl (sm hz291 rfl)))
    have s59_311 := up308 59 _ (o4 rfl (o1 rfl (sm hz291.p1 rfl)))
    have s60_312 := up308 60 _ (o4 rfl (sm hz291.p2 rfl))
    have s61_313 := up308 61 _ (o2 rfl (o1 rfl (sm hz291.p2.p1 rfl)))
    have s62_314 := up308 62 _ (o2 rfl (sm hz291.p4 rfl))
    have s63_315 := up308 63 _ (o1 rfl (sm hz291.p4.p1 rfl))
    have s64_316 := up308 64 _ (sm hz291.p4.p2 rfl)
    clear up308
    have s63_317 := ((s63_315).trans (dt hg305))
    have s64_318 := ((s64_316).trans (dt hg305))
    refine V.go_on 64 (by kernel_rfl) (s64_318) (V.mv (s0_309) ?_)
    refine V.go_on 64 (by kernel_rfl) (o1 rfl s64_318) (V.pv [(65, .pointer (some ⟨t, 0, none⟩))] ⟨(sm hz307 rfl), trivial⟩ (by kernel_rfl) (.pointer (some ⟨t, 0, none⟩)) (by kernel_rfl) ?_)
    refine V.go_on 64 (by kernel_rfl) (o2 rfl s64_318) (V.pv [(66, .pointer (some ⟨t, 0, none⟩))] ⟨(sm hz307.p1 rfl), trivial⟩ (by kernel_rfl) (.pointer (some ⟨t, 1, none⟩)) (by kernel_rfl) ?_)
    refine V.go_on 64 (by kernel_rfl) (o2 rfl (o1 rfl s64_318)) (V.ld ⟨t, 1, none⟩ (.slice (some ⟨gA, 0, none⟩) T1.a.length T1.a.length) (sm hz307.p2 rfl) (by kernel_rfl) (hB284_304.at 1 rfl) ?_)
    refine V.go_on 64 (by kernel_rfl) (o4 rfl s64_318) (V.pv [(68, .slice (some ⟨gA, 0, none⟩) T1.a.length T1.a.length)] ⟨(sm hz307.p2.p1 rfl), trivial⟩ (by kernel_rfl) (.int .i64 ((T1.a.length : Nat) : Int)) (by kernel_rfl) ?_)
    refine V.go_on 64 (by kernel_rfl) (o4 rfl (o1 rfl s64_318)) (V.pv [(69, .int .i64 ((T1.a.length : Nat) : Int))] ⟨(sm hz307.p4 rfl), trivial⟩ (by kernel_rfl) (.bool (decide (((T1.a.length : Nat) : Int) > 4))) (by kernel_rfl) ?_)
    refine V.go (V.pk_t (o4 rfl (o2 rfl s64_318)) (v := (.bool (decide (((T1.a.length : Nat) : Int) > 4)))) (sm hz307.p4.p1 rfl) ?_)
    refine V.gm (sm hz307.p4.p2 rfl) ?_
    by_cases hg319 : ((T1.a.length : Nat) : Int) > 4
    ·
     refine V.flushL hz307.p8 (fun a320 hz321 up322 => ?_)
     have s0_323 := up322 0 _ (o8 rfl s0_309)
     have s58_324 := up322 58 _ (o8 rfl s58_310)
     have s59_325 := up322 59 _ (o8 rfl s59_311)
     have s60_326 := up322 60 _ (o8 rfl s60_312)
     have s61_327 := up322 61 _ (o8 rfl s61_313)
     have s62_328 := up322 62 _ (o8 rfl s62_314)
     have s63_329 := up322 63 _ (o8 rfl s63_317)
     have s64_330 := up322 64 _ (o8 rfl s64_318)
     have s65_331 := up322 65 _ (o4 rfl (o2 rfl (o1 rfl (sm hz307 rfl))))
     have s66_332 := up322 66 _ (o4 rfl (o2 rfl (sm hz307.p1 rfl)))
     have s67_333 := up322 67 _ (o4 rfl (o1 rfl (sm hz307.p2 rfl)))
     have s68_334 := up322 68 _ (o4 rfl (sm hz307.p2.p1 rfl))
     have s69_335 := up322 69 _ (o2 rfl (o1 rfl (sm hz307.p4 rfl)))
     have s70_336 := up322 70 _ (o2 rfl (sm hz307.p4.p1 rfl))
     have s71_337 := up322 71 _ (o1 rfl (sm hz307.p4.p2 rfl))
     have s72_338 := up322 72 _ (sm hz307.p4.p2.p1 rfl)
     clear up322
     have s70_339 := ((s70_336).trans (dt hg319))
     have s71_340 := ((s71_337).trans (dt hg319))
     have s72_341 := ((s72_338).trans (dt hg319))
     refine V.go_on 72 (by kernel_rfl) (s72_341) (V.mv (s0_323) ?_)
     refine V.go_on 72 (by kernel_rfl) (o1 rfl s72_341) (V.pv [(73, .pointer (some ⟨t, 0, none⟩))] ⟨(sm hz321 rfl), trivial⟩ (by kernel_rfl) (.pointer (some ⟨t, 0, none⟩)) (by kernel_rfl) ?_)
     refine V.go_on 72 (by kernel_rfl) (o2 rfl s72_341) (V.pv [(74, .pointer (some ⟨t, 0, none⟩))] ⟨(sm hz321.p1 rfl), trivial⟩ (by kernel_rfl) (.pointer (some ⟨t, 4, none⟩)) (by kernel_rfl) ?_)
     refine V.go_on 72 (by kernel_rfl) (o2 rfl (o1 rfl s72_341)) (V.ld ⟨t, 4, none⟩ (.int .i64 ((T1.n : Int) - 1)) (sm hz321.p2 rfl) (by kernel_rfl) (hB284_304.at 4 rfl) ?_)
     refine V.go_on 72 (by kernel_rfl) (o4 rfl s72_341) (V.pvw [(76, .int .i64 ((T1.n : Int) - 1))] ⟨(sm hz321.p2.p1 rfl), trivial⟩ (by kernel_rfl) (.int .i64 (IntKind.i64.wrap (((T1.n : Int) - 1) * 8))) (.int .i64 (((T1.n : Int) - 1) * 8)) (by kernel_rfl) (V.w_i64 (by omega) (by omega)) ?_)
     refine V.go_on 72 (by kernel_rfl) (o4 rfl (o1 rfl s72_341)) (V.mv (o4 rfl (o1 rfl s0_323)) ?_)
     refine V.go_on 72 (by kernel_rfl) (o4 rfl (o2 rfl s72_341)) (V.pv [(78, .pointer (some ⟨t, 0, none⟩))] ⟨(sm hz321.p4.p1 rfl), trivial⟩ (by kernel_rfl) (.pointer (some ⟨t, 0, none⟩)) (by kernel_rfl) ?_)
     refine V.go_on 72 (by kernel_rfl) (o4 rfl (o2 rfl (o1 rfl s72_341))) (V.pv [(79, .pointer (some ⟨t, 0, none⟩))] ⟨(sm hz321.p4.p2 rfl), trivial⟩ (by kernel_rfl) (.pointer (some ⟨t, 1, none⟩)) (by kernel_rfl) ?_)
     refine V.go_on 72 (by kernel_rfl) (o8 rfl s72_341) (V.ld ⟨t, 1, none⟩ (.slice (some ⟨gA, 0, none⟩) T1.a.length T1.a.length) (sm hz321.p4.p2.p1 rfl) (by kernel_rfl) (hB284_304.at 1 rfl) ?_)
     refine V.go_on 72 (by kernel_rfl) (o8 rfl (o1 rfl s72_341)) (V.pv [(81, .slice (some ⟨gA, 0, none⟩) T1.a.length T1.a.length)] ⟨(sm hz321.p8 rfl), trivial⟩ (by kernel_rfl) (.int .i64 ((T1.a.length : Nat) : Int)) (by kernel_rfl) ?_)
     refine V.go_on 72 (by kernel_rfl) (o8 rfl (o2 rfl s72_341)) (V.pv [(77, .int .i64 (((T1.n : Int) - 1) * 8)), (82, .int .i64 ((T1.a.length : Nat) : Int))] ⟨(o4 rfl (o1 rfl (sm hz321.p4 rfl))), (sm hz321.p8.p1 rfl), trivial⟩ (by kernel_rfl) (.bool (decide ((((T1.n : Int) - 1) * 8) < ((T1.a.length : Nat) : Int)))) (by kernel_rfl) ?_)
     refine V.go (V.pk_t (o8 rfl (o2 rfl (o1 rfl s72_341))) (v := (.bool (decide ((((T1.n : Int) - 1) * 8) < ((T1.a.length : Nat) : Int))))) (sm hz321.p8.p2 rfl) ?_)
     refine V.nil ?_
     refine ⟨chk [(58, .pointer (some ⟨t, 0, none⟩)), (61, .slice (some ⟨gB, 0, none⟩) T1.b.length T1.b.length), (62, .int .i64 ((T1.b.length : Nat) : Int)), (65, .pointer (some ⟨t, 0, none⟩)), (68, .slice (some ⟨gA, 0, none⟩) T1.a.length T1.a.length), (69, .int .i64 ((T1.a.length : Nat) : Int)), (73, .pointer (some ⟨t, 0, none⟩)), (76, .int .i64 ((T1.n : Int) - 1)), (78, .pointer (some ⟨t, 0, none⟩)), (81, .slice (some ⟨gA, 0, none⟩) T1.a.length T1.a.length), (77, .int .i64 (((T1.n : Int) - 1) * 8)), (82, .int .i64 ((T1.a.length : Nat) : Int)), (64, .bool true), (72, .bool true)] ⟨(o8 rfl (o4 rfl s58_324)), (o8 rfl (o4 rfl s61_327)), (o8 rfl (o4 rfl s62_328)), (o8 rfl (o4 rfl s65_331)), (o8 rfl (o4 rfl s68_334)), (o8 rfl (o4 rfl s69_335)), (o8 rfl (o2 rfl (o1 rfl (sm hz321 rfl)))), (o8 rfl (sm hz321.p2.p1 rfl)), (o4 rfl (o2 rfl (sm hz321.p4.p1 rfl))), (o2 rfl (o1 rfl (sm hz321.p8 rfl))), (o4 rfl (o2 rfl (o1 rfl (sm hz321.p4 rfl)))), (o2 rfl (sm hz321.p8.p1 rfl)), (o8 rfl (o4 rfl s64_330)), (o8 rfl (o4 rfl s72_341)), trivial⟩ (by kernel_rfl), ?_⟩
     refine V.then_n (hK297 _ _ ?_)
     refine V.flushW hz321.p8.p4 (fun a342 hz343 up344 => ?_)
     have s0_345 := up344 0 _ (o8 rfl (o4 rfl s0_323))
     have s84_346 := up344 84 _ (sm hz321.p8.p2.p1 rfl)
     clear up344
     refine V.condP (p := (((T1.n : Int) - 1) * 8) < ((T1.a.length : Nat) : Int)) (s84_346) (fun ht347 => ?_) (fun ht347 => ?_)
     ·
      refine V.rg ?_
      refine V.gm (s0_345) ?_
      refine V.gm (o1 rfl s0_345) ?_
      refine V.ge_ [(86, .pointer (some ⟨t, 0, none⟩))] ⟨(sm hz343.p1 rfl), trivial⟩ (.pointer (some ⟨t, 0, none⟩)) ?_
      refine V.ge_ [(87, .pointer (some ⟨t, 0, none⟩))] ⟨(sm hz343.p2 rfl), trivial⟩ (.pointer (some ⟨t, 1, none⟩)) ?_
      refine V.go (V.ld ⟨t, 1, none⟩ (.slice (some ⟨gA, 0, none⟩) T1.a.length T1.a.length) (sm hz343.p2.p1 rfl) (by kernel_rfl) (hB284_304.at 1 rfl) ?_)
      refine V.ge_ [(89, .slice (some ⟨gA, 0, none⟩) T1.a.length T1.a.length)] ⟨(sm hz343.p4 rfl), trivial⟩ (.int .i64 ((T1.a.length : Nat) : Int)) ?_
      refine V.go (V.quoN T1.a.length 2 (sm hz343.p4.p1 rfl) evc (by omega) (by omega) ?_)
      refine V.go (V.mks (enc := idV) (T1.a.length / 2) (.slice none 0 0) nilS 24 ((sm hz343.p4.p2 rfl).trans (V.int_eq (by omega))) ((sm hz343.p4.p2 rfl).trans (V.int_eq (by omega))) (by kernel_rfl) info42 rfl rfl (by omega) (by omega) ?_)
      intro w349 b348 heb348 hR350 hF351
      have hsb348 := hR350.lt
      have hRB_352 := hRB_300.fr0 hF351
      have hE_353 := hE_301.tr0 hF351
      have hK259_354 := hK259_302.alloc hF351 heb348 (by omega)
      have hR271_355 := hR271_303.fr0 hF351
      have hB284_356 := hB284_304.fr0 hF351
      refine V.ge_ [(85, .pointer (some ⟨t, 0, none⟩))] ⟨(o4 rfl (o2 rfl (o1 rfl (sm hz343 rfl)))), trivial⟩ (.pointer (some ⟨t, 0, none⟩)) ?_
      refine V.ge_ [(93, .pointer (some ⟨t, 0, none⟩))] ⟨(sm hz343.p8 rfl), trivial⟩ (.pointer (some ⟨t, 2, none⟩)) ?_
      refine V.go (V.stn t 2 (.slice (some ⟨b348, 0, none⟩) (T1.a.length / 2) (T1.a.length / 2)) [.slice (some ⟨b348, 0, none⟩) (T1.a.length / 2) (T1.a.length / 2)] (sm hz343.p8.p1 rfl) (o2 rfl (sm hz343.p4.p2.p1 rfl)) rfl rfl (by kernel_rfl) hB284_356 (by simp) [.int .u64 (T1.seed : Int), .slice (some ⟨gA, 0, none⟩) T1.a.length T1.a.length, .slice (some ⟨b348, 0, none⟩) (T1.a.length / 2) (T1.a.length / 2), .int .i64 (T1.moved : Int), .int .i64 ((T1.n : Int) - 1)] rfl ?_)
      intro w357 hB358 hF359 hsw357
      have hRB_360 := hRB_352.fr1 hF359 (by omega)
      have hE_361 := hE_353.tr1 hF359 (by first | exact .inl (by assumption) | exact .inr (by omega) | exact .inl (.inl rfl))
      have hK259_362 := hK259_354.fr hF359 (by simp)
      have hR271_363 := hR271_355.fr1 hF359 (by omega)
      have hR350_364 := hR350.fr1 hF359 (by omega)
      refine V.nil ?_
      refine V.then_n (hK295 _ _ ?_)
      refine V.flushW hz343.p8.p2 (fun a365 hz366 up367 => ?_)
      clear up367
      refine V.seq (fun K368 hK369 => ?_)
      refine V.rg ?_
      refine V.ga evc ?_
      refine V.nil ?_
      refine V.then_n (hK369 _ _ ?_)
      refine V.ret ?_
      refine V.ret1 hz366.p1 rfl (sm hz366 rfl) ?_
      exact absurd hg305 (by omega)
     ·
      refine V.skip ?_
      refine V.then_n (hK295 _ _ ?_)
      refine V.seq (fun K370 hK371 => ?_)
      refine V.rg ?_
      refine V.ga evc ?_
      refine V.nil ?_
      refine V.then_n (hK371 _ _ ?_)
      refine V.ret ?_
      refine V.ret1 hz343.p1 rfl (sm hz343 rfl) ?_
      exact absurd hg305 (by omega)
    ·
     refine V.flushL hz307.p8 (fun a372 hz373 up374 => ?_)
     have s0_375 := up374 0 _ (o8 rfl s0_309)
     have s58_376 := up374 58 _ (o8 rfl s58_310)
     have s59_377 := up374 59 _ (o8 rfl s59_311)
     have s60_378 := up374 60 _ (o8 rfl s60_312)
     have s61_379 := up374 61 _ (o8 rfl s61_313)
     have s62_380 := up374 62 _ (o8 rfl s62_314)
     have s63_381 := up374 63 _ (o8 rfl s63_317)
     have s64_382 := up374 64 _ (o8 rfl s64_318)
     have s65_383 := up374 65 _ (o4 rfl (o2 rfl (o1 rfl (sm hz307 rfl))))
     have s66_384 := up374 66 _ (o4 rfl (o2 rfl (sm hz307.p1 rfl)))
     have s67_385 := up374 67 _ (o4 rfl (o1 rfl (sm hz307.p2 rfl)))
     have s68_386 := up374 68 _ (o4 rfl (sm hz307.p2.p1 rfl))
     have s69_387 := up374 69 _ (o2 rfl (o1 rfl (sm hz307.p4 rfl)))
     have s70_388 := up374 70 _ (o2 rfl (sm hz307.p4.p1 rfl))
     have s71_389 := up374 71 _ (o1 rfl (sm hz307.p4.p2 rfl))
     have s72_390 := up374 72 _ (sm hz307.p4.p2.p1 rfl)
     clear up374
     have s70_391 := ((s70_388).trans (df hg319))
     have s71_392 := ((s71_389).trans (df hg319))
     have s72_393 := ((s72_390).trans (df hg319))
     refine V.go_off 72 (by kernel_rfl) (s72_393) (by kernel_rfl) ?_
     refine V.go_off 72 (by kernel_rfl) (o1 rfl s72_393) (by kernel_rfl) ?_
     refine V.go_off 72 (by kernel_rfl) (o2 rfl s72_393) (by kernel_rfl) ?_
     refine V.go_off 72 (by kernel_rfl) (o2 rfl (o1 rfl s72_393)) (by kernel_rfl) ?_
     refine V.go_off 72 (by kernel_rfl) (o4 rfl s72_393) (by kernel_rfl) ?_
     refine V.go_off 72 (by kernel_rfl) (o4 rfl (o1 rfl s72_393)) (by kernel_rfl) ?_
     refine V.go_off 72 (by kernel_rfl) (o4 rfl (o2 rfl s72_393)) (by kernel_rfl) ?_
     refine V.go_off 72 (by kernel_rfl) (o4 rfl (o2 rfl (o1 rfl s72_393))) (by kernel_rfl) ?_
     refine V.go_off 72 (by kernel_rfl) (o8 rfl s72_393) (by kernel_rfl) ?_
     refine V.go_off 72 (by kernel_rfl) (o8 rfl (o1 rfl s72_393)) (by kernel_rfl) ?_
     refine V.go_off 72 (by kernel_rfl) (o8 rfl (o2 rfl s72_393)) (by kernel_rfl) ?_
     refine V.go (V.pk_f (o8 rfl (o2 rfl (o1 rfl s72_393))) (v := (.bool false)) evc ?_)
     refine V.nil ?_
     refine ⟨chk [(58, .pointer (some ⟨t, 0, none⟩)), (61, .slice (some ⟨gB, 0, none⟩) T1.b.length T1.b.length), (62, .int .i64 ((T1.b.length : Nat) : Int)), (65, .pointer (some ⟨t, 0, none⟩)), (68, .slice (some ⟨gA, 0, none⟩) T1.a.length T1.a.length), (69, .int .i64 ((T1.a.length : Nat) : Int)), (73, undef), (76, undef), (78, undef), (81, undef), (77, undef), (82, undef), (64, .bool true), (72, .bool false)] ⟨(o8 rfl (o4 rfl s58_376)), (o8 rfl (o4 rfl s61_379)), (o8 rfl (o4 rfl s62_380)), (o8 rfl (o4 rfl s65_383)), (o8 rfl (o4 rfl s68_386)), (o8 rfl (o4 rfl s69_387)), (o8 rfl (o2 rfl (o1 rfl (sm hz373 rfl)))), (o8 rfl (sm hz373.p2.p1 rfl)), (o4 rfl (o2 rfl (sm hz373.p4.p1 rfl))), (o2 rfl (o1 rfl (sm hz373.p8 rfl))), (o4 rfl (o2 rfl (o1 rfl (sm hz373.p4 rfl)))), (o2 rfl (sm hz373.p8.p1 rfl)), (o8 rfl (o4 rfl s64_382)), (o8 rfl (o4 rfl s72_393)), trivial⟩ (by kernel_rfl), ?_⟩
     refine V.then_n (hK297 _ _ ?_)
     refine V.flushW hz373.p8.p4 (fun a394 hz395 up396 => ?_)
     have s0_397 := up396 0 _ (o8 rfl (o4 rfl s0_375))
     have s84_398 := up396 84 _ (sm hz373.p8.p2.p1 rfl)
     clear up396
     refine V.cond_f (s84_398) ?_
     refine V.skip ?_
     refine V.then_n (hK295 _ _ ?_)
     refine V.seq (fun K399 hK400 => ?_)
     refine V.rg ?_
     refine V.ga evc ?_
     refine V.nil ?_
     refine V.then_n (hK400 _ _ ?_)
     refine V.ret ?_
     refine V.ret1 hz395.p1 rfl (sm hz395 rfl) ?_
     exact absurd hg305 (by omega)
   ·
    refine V.flushL hz291.p4.p2.p1 (fun a401 hz402 up403 => ?_)
    have s0_404 := up403 0 _ (o4 rfl (o2 rfl (o1 rfl s0_293)))
    have s58_405 := up403 58 _ (o4 rfl (o2 rfl (sm hz291 rfl)))
    have s59_406 := up403 59 _ (o4 rfl (o1 rfl (sm hz291.p1 rfl)))
    have s60_407 := up403 60 _ (o4 rfl (sm hz291.p2 rfl))
    have s61_408 := up403 61 _ (o2 rfl (o1 rfl (sm hz291.p2.p1 rfl)))
    have s62_409 := up403 62 _ (o2 rfl (sm hz291.p4 rfl))
    have s63_410 := up403 63 _ (o1 rfl (sm hz291.p4.p1 rfl))
    have s64_411 := up403 64 _ (sm hz291.p4.p2 rfl)
    clear up403
    have s63_412 := ((s63_410).trans (df hg305))
    have s64_413 := ((s64_411).trans (df hg305))
    refine V.go_off 64 (by kernel_rfl) (s64_413) (by kernel_rfl) ?_
    refine V.go_off 64 (by kernel_rfl) (o1 rfl s64_413) (by kernel_rfl) ?_
    refine V.go_off 64 (by kernel_rfl) (o2 rfl s64_413) (by kernel_rfl) ?_
    refine V.go_off 64 (by kernel_rfl) (o2 rfl (o1 rfl s64_413)) (by kernel_rfl) ?_
    refine V.go_off 64 (by kernel_rfl) (o4 rfl s64_413) (by kernel_rfl) ?_
    refine V.go_off 64 (by kernel_rfl) (o4 rfl (o1 rfl s64_413)) (by kernel_rfl) ?_
    refine V.go (V.pk_f (o4 rfl (o2 rfl s64_413)) (v := (.bool false)) evc ?_)
    refine V.gm (sm hz402.p4.p2 rfl) ?_
    refine V.go_off 72 (by kernel_rfl) (sm hz402.p4.p2.p1 rfl) (by kernel_rfl) ?_
    refine V.go_off 72 (by kernel_rfl) (o1 rfl (sm hz402.p4.p2.p1 rfl)) (by kernel_rfl) ?_
    refine V.go_off 72 (by kernel_rfl) (o2 rfl (sm hz402.p4.p2.p1 rfl)) (by kernel_rfl) ?_
    refine V.go_off 72 (by kernel_rfl) (o2 rfl (o1 rfl (sm hz402.p4.p2.p1 rfl))) (by kernel_rfl) ?_
    refine V.go_off 72 (by kernel_rfl) (o4 rfl (sm hz402.p4.p2.p1 rfl)) (by kernel_rfl) ?_
    refine V.go_off 72 (by kernel_rfl) (o4 rfl (o1 rfl (sm hz402.p4.p2.p1 rfl))) (by kernel_rfl) ?_
    refine V.go_off 72 (by kernel_rfl) (o4 rfl (o2 rfl (sm hz402.p4.p2.p1 rfl))) (by kernel_rfl) ?_
    refine V.go_off 72 (by kernel_rfl) (o4 rfl (o2 rfl (o1 rfl (sm hz402.p4.p2.p1 rfl)))) (by kernel_rfl) ?_
    refine V.go_off 72 (by kernel_rfl) (o8 rfl (sm hz402.p4.p2.p1 rfl)) (by kernel_rfl) ?_
    refine V.go_off 72 (by kernel_rfl) (o8 rfl (o1 rfl (sm hz402.p4.p2.p1 rfl))) (by kernel_rfl) ?_
    refine V.go_off 72 (by kernel_rfl) (o8 rfl (o2 rfl (sm hz402.p4.p2.p1 rfl))) (by kernel_rfl) ?_
    refine V.go (V.pk_f (o8 rfl (o2 rfl (o1 rfl (sm hz402.p4.p2.p1 rfl)))) (v := (.bool false)) evc ?_)
    refine V.nil ?_
    refine ⟨chk [(58, .pointer (some ⟨t, 0, none⟩)), (61, .slice (some ⟨gB, 0, none⟩) T1.b.length T1.b.length), (62, .int .i64 ((T1.b.length : Nat) : Int)), (65, undef), (68, undef), (69, undef), (73, undef), (76, undef), (78, undef), (81, undef), (77, undef), (82, undef), (64, .bool false), (72, .bool false)] ⟨(o16 rfl (o4 rfl s58_405)), (o16 rfl (o4 rfl s61_408)), (o16 rfl (o4 rfl s62_409)), (o16 rfl (o2 rfl (o1 rfl (sm hz402 rfl)))), (o16 rfl (sm hz402.p2.p1 rfl)), (o8 rfl (o4 rfl (o2 rfl (o1 rfl (sm hz402.p4 rfl))))), (o8 rfl (o2 rfl (o1 rfl (sm hz402.p8 rfl)))), (o8 rfl (sm hz402.p8.p2.p1 rfl)), (o4 rfl (o2 rfl (sm hz402.p8.p4.p1 rfl))), (o2 rfl (o1 rfl (sm hz402.p16 rfl))), (o4 rfl (o2 rfl (o1 rfl (sm hz402.p8.p4 rfl)))), (o2 rfl (sm hz402.p16.p1 rfl)), (o16 rfl (o4 rfl s64_413)), (o8 rfl (o4 rfl (sm hz402.p4.p2.p1 rfl))), trivial⟩ (by kernel_rfl), ?_⟩
    refine V.then_n (hK297 _ _ ?_)
    refine V.flushW hz402.p16.p4 (fun a414 hz415 up416 => ?_)
    have s0_417 := up416 0 _ (o16 rfl (o4 rfl s0_404))
    have s84_418 := up416 84 _ (sm hz402.p16.p2.p1 rfl)
    clear up416
    refine V.cond_f (s84_418) ?_
    refine V.skip ?_
    refine V.then_n (hK295 _ _ ?_)
    refine V.seq (fun K419 hK420 => ?_)
    refine V.rg ?_
    refine V.ga evc ?_
    refine V.nil ?_
    refine V.then_n (hK420 _ _ ?_)
    refine V.ret ?_
    refine V.ret1 hz415.p1 rfl (sm hz415 rfl) ?_
    have hst : delT T k = shrT (rm1T T1 k) := by (unfold delT; rw [← hT1]; unfold del1T; rw [hf, if_pos rfl])
    have hu2 : rm1T T1 k = ({ T1 with a := rmV T1.a (bkt T1.seed T1.a.length k) j, n := T1.n - 1 } : Tb Int) := by (unfold rm1T; rw [hf]; simp)
    have hup := (rm1T_ok hok1 hm1 k (by rw [hf])).1
    rw [hu2] at hup
    rw [hst, hu2]
    have hsh : shrT ({ T1 with a := rmV T1.a (bkt T1.seed T1.a.length k) j, n := T1.n - 1 } : Tb Int) = ({ T1 with a := rmV T1.a (bkt T1.seed T1.a.length k) j, n := T1.n - 1 } : Tb Int) := by (unfold shrT; rw [if_neg]; rintro ⟨h0, _⟩; exact hb1 (by first | exact h0 | (have h1 : (rmV T1.b (bkt T1.seed T1.b.length k) j).length = 0 := h0; rwa [rmV_length] at h1)))
    rw [hsh]
    exact ⟨by rw [hf], (TabM.fin (T := ({ T1 with a := rmV T1.a (bkt T1.seed T1.a.length k) j, n := T1.n - 1 } : Tb Int)) hup hb0 hB284_304 hR271_303 hRB_300 (by first | exact hlA | (simp only [List.length_set]; exact hlA)) hK259_302 (mem4 (l := (t :: gA :: gB :: av)) (by simp) (by simp) (by simp) (by intro k hk; simp [hk])) (by first | assumption | omega) (by first | assumption | omega) (by first | assumption | omega) hpt ⟨.inl hpg.1, hpg.2⟩ ⟨.inl hph.1, hph.2⟩ rfl (rmV_length _ _ _).symm rfl (by show ((T1.n : Int) - 1) = ((T1.n - 1 : Nat) : Int); omega) rfl rfl rfl).gr3 (by omega), (hFPE.gr hE_301)⟩
 ·
  rcases hT5q.2 with ⟨hb0, gA, vsA, hN⟩ | ⟨hb0, gA, gB, vsA, vsB, hN⟩
  ·
   exact absurd (by rw [hb0]; rfl) hbn
  ·
   have hb1 : T1.b.length ≠ 0 := fun h => hb0 (List.eq_nil_of_length_eq_zero h)
   obtain ⟨hB, hRA, hRB, hlA, hlB, hK, hne, hne2, hne3, hpt, hpg, hph⟩ := hN
   replace hK := hK.toH
   have hltt := hB.lt
   have hltg := hRA.lt
   have hltg2 := hRB.lt
   have hE : FrP (gp (gr H w w7) av) w7 w7 := FrP.refl _ _
   have hK0 : ∀ k ∈ av, k < w7.heap.size := fun k hk => hK.avl k (by simp [hk])
   obtain ⟨hsd, hpa, hla, hlb, hmv, hmz, hnn, hcn, hks⟩ := (show T1.Ok from hok1)
   have hbl := hok1.bl
   have hFPE := hFP_8
   refine V.go (V.call 71 #[] #[.pointer (some ⟨t, 0, none⟩), .string k] evf (args2 (o1 rfl (sm hz.p2.p1 rfl)) (sm hz.p4 rfl)) (Go.Proofs.enters_of Try.func71 (by kernel_rfl) rfl) (by have h := rfind_any w7 (gr H w w7) (av) t T1 hT5q k hkz; rw [rfT_yes hf] at h; exact h) ?_)
   rintro _ w422 ⟨rfl, hF421⟩
   refine ⟨_, rfl, ?_⟩
   have hsw422 := hF421.size
   have hB_423 := hB.fr0 hF421
   have hRA_424 := hRA.fr0 hF421
   have hRB_425 := hRB.fr0 hF421
   have hK_426 := hK.fr0 hF421
   have hE_427 := hE.tr0 hF421
   have hbkl := bkt_lt T1.seed k (n := T1.b.length) (by omega)
   have hbq := hbl (bkt T1.seed T1.b.length k)
   refine V.gm (sm hz.p4.p1 rfl) ?_
   refine V.ge_ [(10, .tuple #[.int .i64 1, .int .i64 ((bkt T1.seed T1.b.length k : Nat) : Int), .int .i64 (j : Int)])] ⟨(sm hz.p4.p2 rfl), trivial⟩ (.int .i64 1) ?_
   refine V.ge_ [(10, .tuple #[.int .i64 1, .int .i64 ((bkt T1.seed T1.b.length k : Nat) : Int), .int .i64 (j : Int)])] ⟨(o1 rfl (sm hz.p4.p2 rfl)), trivial⟩ (.int .i64 ((bkt T1.seed T1.b.length k : Nat) : Int)) ?_
   refine V.ge_ [(10, .tuple #[.int .i64 1, .int .i64 ((bkt T1.seed T1.b.length k : Nat) : Int), .int .i64 (j : Int)])] ⟨(o2 rfl (sm hz.p4.p2 rfl)), trivial⟩ (.int .i64 (j : Int)) ?_
   refine V.ga (o2 rfl (sm hz.p4.p2.p1 rfl)) ?_
   refine V.ga (o2 rfl (sm hz.p8 rfl)) ?_
   refine V.ga (o2 rfl (sm hz.p8.p1 rfl)) ?_
   refine V.nil ?_
   refine V.then_n (hK10 _ _ ?_)
   refine V.flushW hz.p8.p4.p1 (fun a428 hz429 up430 => ?_)
   have s0_431 := up430 0 _ (o8 rfl (o4 rfl (o1 rfl s0)))
   have s5_432 := up430 5 _ (o2 rfl (sm hz.p8.p2 rfl))
   have s6_433 := up430 6 _ (o1 rfl (sm hz.p8.p2.p1 rfl))
   have s7_434 := up430 7 _ (sm hz.p8.p4 rfl)
   clear up430
   refine V.seq (fun K435 hK436 => ?_)
   refine V.seq (fun K437 hK438 => ?_)
   refine V.rg ?_
   refine V.gm (s5_432) ?_
   refine V.ge_ [(17, .int .i64 1)] ⟨(sm hz429 rfl), trivial⟩ (.bool false) ?_
   refine V.nil ?_
   refine V.then_n (hK438 _ _ ?_)
   refine V.cond_f (sm hz429.p1 rfl) ?_
   refine V.skip ?_
   refine V.then_n (hK436 _ _ ?_)
   refine V.seq (fun K439 hK440 => ?_)
   refine V.seq (fun K441 hK442 => ?_)
   refine V.rg ?_
   refine V.gm (o2 rfl s5_432) ?_
   refine V.ge_ [(19, .int .i64 1)] ⟨(sm hz429.p2 rfl), trivial⟩ (.bool false) ?_
   refine V.nil ?_
   refine V.then_n (hK442 _ _ ?_)
   refine V.flushW hz429.p4 (fun a443 hz444 up445 => ?_)
   have s0_446 := up445 0 _ (o4 rfl s0_431)
   have s6_447 := up445 6 _ (o4 rfl s6_433)
   have s7_448 := up445 7 _ (o4 rfl s7_434)
   have s20_449 := up445 20 _ (sm hz429.p2.p1 rfl)
   clear up445
   refine V.cond_f (s20_449) ?_
   refine V.plan [[], [0], [0, 1], [0, 1, 2], [], [], [5], [5, 6], [5, 6, 7], [], [5, 6, 7, 8, 9], [5, 6, 7, 8, 9, 10], [], [5, 6, 7, 8, 9, 10, 11, 12], [0, 1, 2, 3, 4, 5, 6, 7, 8, 9, 10, 11, 12, 13], [0, 1, 2, 3, 4, 5, 6, 7, 8, 9, 10, 11, 12, 13, 14]] [([0, 1, 2, 3, 4, 5, 6, 7, 8, 9, 10, 11, 12], some (13, [3])), ([14], some (15, [])), ([], none)] (by kernel_rfl) (by kernel_rfl) (by exact fun _ _ _ _ h => h) ?_
   simp only [Plan.wpSegs, Plan.pickAll, Plan.nth, V.L_eq]
   obtain ⟨w450, hF451e⟩ : ∃ w1, w1 = w422.drew := ⟨_, rfl⟩
   rw [← hF451e]
   have hF451 : Fr [] w422 w450 := by rw [hF451e]; exact Fr.drew _ _
   have hsw450 : w450.heap.size = w422.heap.size := by rw [hF451e]; rfl
   clear hF451e
   have hB_452 := hB_423.fr0 hF451
   have hRA_453 := hRA_424.fr0 hF451
   have hRB_454 := hRB_425.fr0 hF451
   have hK_455 := hK_426.fr0 hF451
   have hE_456 := hE_427.tr0 hF451
   refine V.gm (s0_446) ?_
   refine V.ge_ [(36, .pointer (some ⟨t, 0, none⟩))] ⟨(sm hz444 rfl), trivial⟩ (.pointer (some ⟨t, 0, none⟩)) ?_
   refine V.ge_ [(37, .pointer (some ⟨t, 0, none⟩))] ⟨(sm hz444.p1 rfl), trivial⟩ (.pointer (some ⟨t, 2, none⟩)) ?_
   refine V.go (V.ld ⟨t, 2, none⟩ (.slice (some ⟨gB, 0, none⟩) T1.b.length T1.b.length) (sm hz444.p2 rfl) (by kernel_rfl) (hB_452.at 2 rfl) ?_)
   refine V.gm (o4 rfl s6_447) ?_
   refine V.gm (o4 rfl (o1 rfl s0_446)) ?_
   refine V.ge_ [(41, .pointer (some ⟨t, 0, none⟩))] ⟨(sm hz444.p4.p1 rfl), trivial⟩ (.pointer (some ⟨t, 0, none⟩)) ?_
   refine V.ge_ [(42, .pointer (some ⟨t, 0, none⟩))] ⟨(sm hz444.p4.p2 rfl), trivial⟩ (.pointer (some ⟨t, 2, none⟩)) ?_
   refine V.go (V.ld ⟨t, 2, none⟩ (.slice (some ⟨gB, 0, none⟩) T1.b.length T1.b.length) (sm hz444.p4.p2.p1 rfl) (by kernel_rfl) (hB_452.at 2 rfl) ?_)
   refine V.gm (o8 rfl (o1 rfl s6_447)) ?_
   refine V.go (V.ixa gB 0 T1.b.length T1.b.length .i64 ((bkt T1.seed T1.b.length k : Nat) : Int) 1 (o1 rfl (sm hz444.p8 rfl)) (sm hz444.p8.p1 rfl) (by omega) (by omega) (by kernel_rfl) ?_)
   obtain ⟨A457, c458, hv459⟩ := hK_455.getB hlA (i := (bkt T1.seed T1.b.length k)) (by omega) nilS
   refine V.go (V.ld ⟨gB, 0 + ((bkt T1.seed T1.b.length k : Nat) : Int).toNat * 1, none⟩ (.slice A457 ((T1.b.getD (bkt T1.seed T1.b.length k) []).length) c458) (sm hz444.p8.p2 rfl) (by kernel_rfl) ((hRB_454.at (bkt T1.seed T1.b.length k) nilS (by omega)).trans (congrArg some hv459)) ?_)
   have hS460 := hK_455.slB hlA (i := (bkt T1.seed T1.b.length k)) (by omega) hv459
   refine V.gm (o8 rfl (o4 rfl s7_448)) ?_
   refine V.nil ?_
   refine ⟨chk [(36, .pointer (some ⟨t, 0, none⟩)), (41, .pointer (some ⟨t, 0, none⟩))] ⟨(o8 rfl (o4 rfl (sm hz444 rfl))), (o4 rfl (o2 rfl (o1 rfl (sm hz444.p4.p1 rfl)))), trivial⟩ (by kernel_rfl), ?_⟩
   obtain ⟨g468, o469, hAe, _, _⟩ := hS460.addr (by omega)
   have hSz466 := hS460.zone (Z' := fun b => b < w450.heap.size) (fun b hb _ => hb)
   rw [hAe] at hSz466
   have hA467 := hS460.cap
   refine V.go (V.call 73 #[] #[.slice A457 ((T1.b.getD (bkt T1.seed T1.b.length k) []).length) c458, .int .i64 (j : Int)] evf (args2 (o1 rfl (sm hz444.p8.p2.p1 rfl)) (sm hz444.p8.p4 rfl)) (Go.Proofs.enters_of Try.func73 (by kernel_rfl) rfl) (by (rw [hAe]; exact rwithout_any w450 g468 o469 c458 j (T1.b.getD (bkt T1.seed T1.b.length k) []) hSz466 (by omega) hA467 (by omega))) ?_)
   rintro _ w470 ⟨A463, c464, rfl, hOr461, hF462⟩
   refine ⟨_, rfl, ?_⟩
   have hsw470 := hF462.size
   have hB_471 := hB_452.fr0 hF462
   have hRA_472 := hRA_453.fr0 hF462
   have hRB_473 := hRB_454.fr0 hF462
   have hE_474 := hE_456.tr0 hF462
   have hS460_475 := hS460.fr0 hF462
   have hK465 := hK_455.newB hlA (i := (bkt T1.seed T1.b.length k)) (by omega) hF462 hOr461 (fun k hk => .inr (by omega))
   refine V.nil ?_
   refine ⟨(fun _ => held_blk (n := 1) (hx := (o8 rfl (o2 rfl (sm hz444.p2 rfl)))) hB_452 hB_471 (by kernel_rfl) rfl (by simp only [List.length]; omega)), ?_⟩
   refine V.go (V.ixa gB 0 T1.b.length T1.b.length .i64 ((bkt T1.seed T1.b.length k : Nat) : Int) 1 (o8 rfl (o2 rfl (sm hz444.p2.p1 rfl))) (o8 rfl (o1 rfl (sm hz444.p4 rfl))) (by omega) (by omega) (by kernel_rfl) ?_)
   refine V.nil ?_
   refine ⟨chk [] trivial (by kernel_rfl), ?_⟩
   refine V.go (V.strow (enc := idV) gB (((bkt T1.seed T1.b.length k : Nat) : Int).toNat) (.slice A463 ((T1.b.getD (bkt T1.seed T1.b.length k) []).length - 1) c464) (sm hz444.p8.p4.p2 rfl) (o1 rfl (sm hz444.p8.p4.p1 rfl)) rfl rfl (by kernel_rfl) hRB_473 (by first | omega | (simp only [List.length_set, List.length_replicate]; omega)) ?_)
   intro w476 hR477 hF478 hsw476
   have hB_479 := hB_471.fr1 hF478 (by omega)
   have hRA_480 := hRA_472.fr1 hF478 (by omega)
   have hE_481 := hE_474.tr1 hF478 (by first | exact .inl (by assumption) | exact .inr (by omega) | exact .inl (.inl rfl))
   have hK465_482 := hK465.fr hF478 (by simp)
   refine V.nil ?_
   refine ⟨trivial, ?_⟩
   refine V.nil ?_
   refine ⟨chk [] trivial (by kernel_rfl), ?_⟩
   refine V.then_n (hK440 _ _ ?_)
   refine V.flushW hz444.p8.p4.p2.p1 (fun a483 hz484 up485 => ?_)
   have s0_486 := up485 0 _ (o8 rfl (o4 rfl (o2 rfl (o1 rfl s0_446))))
   clear up485
   refine V.seq (fun K487 hK488 => ?_)
   refine V.rg ?_
   refine V.gm (s0_486) ?_
   refine V.ge_ [(51, .pointer (some ⟨t, 0, none⟩))] ⟨(sm hz484 rfl), trivial⟩ (.pointer (some ⟨t, 0, none⟩)) ?_
   refine V.ge_ [(52, .pointer (some ⟨t, 0, none⟩))] ⟨(sm hz484.p1 rfl), trivial⟩ (.pointer (some ⟨t, 4, none⟩)) ?_
   refine V.go (V.ld ⟨t, 4, none⟩ (.int .i64 (T1.n : Int)) (sm hz484.p2 rfl) (by kernel_rfl) (hB_479.at 4 rfl) ?_)
   refine V.gf_ [(54, .int .i64 (T1.n : Int))] ⟨(sm hz484.p2.p1 rfl), trivial⟩ (.int .i64 (IntKind.i64.wrap ((T1.n : Int) - 1))) (.int .i64 ((T1.n : Int) - 1)) (V.w_i64 (by omega) (by omega)) ?_
   refine V.ge_ [(51, .pointer (some ⟨t, 0, none⟩))] ⟨(o4 rfl (sm hz484 rfl)), trivial⟩ (.pointer (some ⟨t, 0, none⟩)) ?_
   refine V.ge_ [(56, .pointer (some ⟨t, 0, none⟩))] ⟨(sm hz484.p4.p1 rfl), trivial⟩ (.pointer (some ⟨t, 4, none⟩)) ?_
   refine V.go (V.stn t 4 (.int .i64 ((T1.n : Int) - 1)) [.int .i64 ((T1.n : Int) - 1)] (sm hz484.p4.p2 rfl) (o2 rfl (sm hz484.p4 rfl)) rfl rfl (by kernel_rfl) hB_479 (by simp) [.int .u64 (T1.seed : Int), .slice (some ⟨gA, 0, none⟩) T1.a.length T1.a.length, .slice (some ⟨gB, 0, none⟩) T1.b.length T1.b.length, .int .i64 (T1.moved : Int), .int .i64 ((T1.n : Int) - 1)] rfl ?_)
   intro w489 hB490 hF491 hsw489
   have hRA_492 := hRA_480.fr1 hF491 (by omega)
   have hE_493 := hE_481.tr1 hF491 (by first | exact .inl (by assumption) | exact .inr (by omega) | exact .inl (.inl rfl))
   have hK465_494 := hK465_482.fr hF491 (by simp)
   have hR477_495 := hR477.fr1 hF491 (by omega)
   refine V.nil ?_
   refine V.then_n (hK488 _ _ ?_)
   refine V.flushW hz484.p4.p2.p1 (fun a496 hz497 up498 => ?_)
   have s0_499 := up498 0 _ (o4 rfl (o2 rfl (o1 rfl s0_486)))
   clear up498
   refine V.seq (fun K500 hK501 => ?_)
   refine V.seq (fun K502 hK503 => ?_)
   refine V.plan [[], [0], [0, 1], [0, 1, 2], [0, 1, 2, 3], [0, 1, 2, 3, 4], [0, 1, 2, 3, 4, 5], [0, 1, 2, 3, 4, 5, 6], [0, 1, 2, 3, 4, 5, 6, 7], [0, 1, 2, 3, 4, 5, 6, 7, 8], [0, 1, 2, 3, 4, 5, 6, 7, 8, 9], [0, 1, 2, 3, 4, 5, 6, 7, 8, 9, 10], [0, 1, 2, 3, 4, 5, 6, 7, 8, 9, 10, 11], [0, 1, 2, 3, 4, 5, 6, 7, 8, 9, 10, 11, 12], [0, 1, 2, 3, 4, 5, 6, 7, 8, 9, 10, 11, 12, 13], [0, 1, 2, 3, 4, 5, 6, 7, 8, 9, 10, 11, 12, 13, 14], [0, 1, 2, 3, 4, 5, 6, 7, 8, 9, 10, 11, 12, 13, 14, 15], [0, 1, 2, 3, 4, 5, 6, 7, 8, 9, 10, 11, 12, 13, 14, 15, 16], [0, 1, 2, 3, 4, 5, 6, 7, 8, 9, 10, 11, 12, 13, 14, 15, 16, 17], [0, 1, 2, 3, 4, 5, 6, 7, 8, 9, 10, 11, 12, 13, 14, 15, 16, 17, 18], [0, 1, 2, 3, 4, 5, 6, 7, 8, 9, 10, 11, 12, 13, 14], [0, 1, 2, 3, 4, 5, 6, 7, 8, 9, 10, 11, 12, 13, 14, 20], [0, 1, 2, 3, 4, 5, 6, 7, 8, 9, 10, 11, 12, 13, 14, 20, 21], [0, 1, 2, 3, 4, 5, 6, 7, 8, 9, 10, 11, 12, 13, 14, 20, 21, 22], [0, 1, 2, 3, 4, 5, 6, 7, 8, 9, 10, 11, 12, 13, 14, 20, 21, 22, 23], [0, 1, 2, 3, 4, 5, 6, 7, 8, 9, 10, 11, 12, 13, 14, 15, 16, 17, 18, 19, 20, 21, 22, 23, 24], [0, 1, 2, 3, 4, 5, 6, 7, 8, 9, 10, 11, 12, 13, 14, 15, 16, 17, 18, 19, 20, 21, 22, 23, 24, 25]] [([0, 1, 2, 3, 4, 5, 6, 7, 8, 9, 10, 11, 12, 13, 14, 15, 16, 17, 18, 19, 20, 21, 22, 23, 24, 25, 26], none)] (by kernel_rfl) (by kernel_rfl) (by exact fun _ _ _ _ h => h) ?_
   simp only [Plan.wpSegs, Plan.pickAll, Plan.nth, V.L_eq]
   obtain ⟨w504, hF505e⟩ : ∃ w1, w1 = w489.drew := ⟨_, rfl⟩
   rw [← hF505e]
   have hF505 : Fr [] w489 w504 := by rw [hF505e]; exact Fr.drew _ _
   have hsw504 : w504.heap.size = w489.heap.size := by rw [hF505e]; rfl
   clear hF505e
   have hRA_506 := hRA_492.fr0 hF505
   have hE_507 := hE_493.tr0 hF505
   have hK465_508 := hK465_494.fr0 hF505
   have hR477_509 := hR477_495.fr0 hF505
   have hB490_510 := hB490.fr0 hF505
   refine V.gm (s0_499) ?_
   refine V.ge_ [(58, .pointer (some ⟨t, 0, none⟩))] ⟨(sm hz497 rfl), trivial⟩ (.pointer (some ⟨t, 0, none⟩)) ?_
   refine V.ge_ [(59, .pointer (some ⟨t, 0, none⟩))] ⟨(sm hz497.p1 rfl), trivial⟩ (.pointer (some ⟨t, 2, none⟩)) ?_
   refine V.go (V.ld ⟨t, 2, none⟩ (.slice (some ⟨gB, 0, none⟩) T1.b.length T1.b.length) (sm hz497.p2 rfl) (by kernel_rfl) (hB490_510.at 2 rfl) ?_)
   refine V.ge_ [(61, .slice (some ⟨gB, 0, none⟩) T1.b.length T1.b.length)] ⟨(sm hz497.p2.p1 rfl), trivial⟩ (.int .i64 ((T1.b.length : Nat) : Int)) ?_
   refine V.gf_ [(62, .int .i64 ((T1.b.length : Nat) : Int))] ⟨(sm hz497.p4 rfl), trivial⟩ (.bool (((T1.b.length : Nat) : Int) == 0)) (.bool (decide (((T1.b.length : Nat) : Int) = 0))) V.t_eql ?_
   refine V.gm (sm hz497.p4.p1 rfl) ?_
   by_cases hg511 : ((T1.b.length : Nat) : Int) = 0
   ·
    refine V.flushL hz497.p4.p2.p1 (fun a512 hz513 up514 => ?_)
    have s0_515 := up514 0 _ (o4 rfl (o2 rfl (o1 rfl s0_499)))
    have s58_516 := up514 58 _ (o4 rfl (o2 rfl (sm hz497 rfl)))
    have s59_517 := up514 59 _ (o4 rfl (o1 rfl (sm hz497.p1 rfl)))
    have s60_518 := up514 60 _ (o4 rfl (sm hz497.p2 rfl))
    have s61_519 := up514 61 _ (o2 rfl (o1 rfl (sm hz497.p2.p1 rfl)))
    have s62_520 := up514 62 _ (o2 rfl (sm hz497.p4 rfl))
    have s63_521 := up514 63 _ (o1 rfl (sm hz497.p4.p1 rfl))
    have s64_522 := up514 64 _ (sm hz497.p4.p2 rfl)
    clear up514
    have s63_523 := ((s63_521).trans (dt hg511))
    have s64_524 := ((s64_522).trans (dt hg511))
    refine V.go_on 64 (by kernel_rfl) (s64_524) (V.mv (s0_515) ?_)
    refine V.go_on 64 (by kernel_rfl) (o1 rfl s64_524) (V.pv [(65, .pointer (some ⟨t, 0, none⟩))] ⟨(sm hz513 rfl), trivial⟩ (by kernel_rfl) (.pointer (some ⟨t, 0, none⟩)) (by kernel_rfl) ?_)
    refine V.go_on 64 (by kernel_rfl) (o2 rfl s64_524) (V.pv [(66, .pointer (some ⟨t, 0, none⟩))] ⟨(sm hz513.p1 rfl), trivial⟩ (by kernel_rfl) (.pointer (some ⟨t, 1, none⟩)) (by kernel_rfl) ?_)
    refine V.go_on 64 (by kernel_rfl) (o2 rfl (o1 rfl s64_524)) (V.ld ⟨t, 1, none⟩ (.slice (some ⟨gA, 0, none⟩) T1.a.length T1.a.length) (sm hz513.p2 rfl) (by kernel_rfl) (hB490_510.at 1 rfl) ?_)
    refine V.go_on 64 (by kernel_rfl) (o4 rfl s64_524) (V.pv [(68, .slice (some ⟨gA, 0, none⟩) T1.a.length T1.a.length)] ⟨(sm hz513.p2.p1 rfl), trivial⟩ (by kernel_rfl) (.int .i64 ((T1.a.length : Nat) : Int)) (by kernel_rfl) ?_)
    refine V.go_on 64 (by kernel_rfl) (o4 rfl (o1 rfl s64_524)) (V.pv [(69, .int .i64 ((T1.a.length : Nat) : Int))] ⟨(sm hz513.p4 rfl), trivial⟩ (by kernel_rfl) (.bool (decide (((T1.a.length : Nat) : Int) > 4))) (by kernel_rfl) ?_)
    refine V.go (V.pk_t (o4 rfl (o2 rfl s64_524)) (v := (.bool (decide (((T1.a.length : Nat) : Int) > 4)))) (sm hz513.p4.p1 rfl) ?_)
    refine V.gm (sm hz513.p4.p2 rfl) ?_
    by_cases hg525 : ((T1.a.length : Nat) : Int) > 4
    ·
     refine V.flushL hz513.p8 (fun a526 hz527 up528 => ?_)
     have s0_529 := up528 0 _ (o8 rfl s0_515)
     have s58_530 := up528 58 _ (o8 rfl s58_516)
     have s59_531 := up528 59 _ (o8 rfl s59_517)
     have s60_532 := up528 60 _ (o8 rfl s60_518)
     have s61_533 := up528 61 _ (o8 rfl s61_519)
     have s62_534 := up528 62 _ (o8 rfl s62_520)
     have s63_535 := up528 63 _ (o8 rfl s63_523)
     have s64_536 := up528 64 _ (o8 rfl s64_524)
     have s65_537 := up528 65 _ (o4 rfl (o2 rfl (o1 rfl (sm hz513 rfl))))
     have s66_538 := up528 66 _ (o4 rfl (o2 rfl (sm hz513.p1 rfl)))
     have s67_539 := up528 67 _ (o4 rfl (o1 rfl (sm hz513.p2 rfl)))
     have s68_540 := up528 68 _ (o4 rfl (sm hz513.p2.p1 rfl))
     have s69_541 := up528 69 _ (o2 rfl (o1 rfl (sm hz513.p4 rfl)))
     have s70_542 := up528 70 _ (o2 rfl (sm hz513.p4.p1 rfl))
     have s71_543 := up528 71 _ (o1 rfl (sm hz513.p4.p2 rfl))
     have s72_544 := up528 72 _ (sm hz513.p4.p2.p1 rfl)
     clear up528
     have s70_545 := ((s70_542).trans (dt hg525))
     have s71_546 := ((s71_543).trans (dt hg525))
     have s72_547 := ((s72_544).trans (dt hg525))
     refine V.go_on 72 (by kernel_rfl) (s72_547) (V.mv (s0_529) ?_)
     refine V.go_on 72 (by kernel_rfl) (o1 rfl s72_547) (V.pv [(73, .pointer (some ⟨t, 0, none⟩))] ⟨(sm hz527 rfl), trivial⟩ (by kernel_rfl) (.pointer (some ⟨t, 0, none⟩)) (by kernel_rfl) ?_)
     refine V.go_on 72 (by kernel_rfl) (o2 rfl s72_547) (V.pv [(74, .pointer (some ⟨t, 0, none⟩))] ⟨(sm hz527.p1 rfl), trivial⟩ (by kernel_rfl) (.pointer (some ⟨t, 4, none⟩)) (by kernel_rfl) ?_)
     refine V.go_on 72 (by kernel_rfl) (o2 rfl (o1 rfl s72_547)) (V.ld ⟨t, 4, none⟩ (.int .i64 ((T1.n : Int) - 1)) (sm hz527.p2 rfl) (by kernel_rfl) (hB490_510.at 4 rfl) ?_)
     refine V.go_on 72 (by kernel_rfl) (o4 rfl s72_547) (V.pvw [(76, .int .i64 ((T1.n : Int) - 1))] ⟨(sm hz527.p2.p1 rfl), trivial⟩ (by kernel_rfl) (.int .i64 (IntKind.i64.wrap (((T1.n : Int) - 1) * 8))) (.int .i64 (((T1.n : Int) - 1) * 8)) (by kernel_rfl) (V.w_i64 (by omega) (by omega)) ?_)
     refine V.go_on 72 (by kernel_rfl) (o4 rfl (o1 rfl s72_547)) (V.mv (o4 rfl (o1 rfl s0_529)) ?_)
     refine V.go_on 72 (by kernel_rfl) (o4 rfl (o2 rfl s72_547)) (V.pv [(78, .pointer (some ⟨t, 0, none⟩))] ⟨(sm hz527.p4.p1 rfl), trivial⟩ (by kernel_rfl) (.pointer (some ⟨t, 0, none⟩)) (by kernel_rfl) ?_)
     refine V.go_on 72 (by kernel_rfl) (o4 rfl (o2 rfl (o1 rfl s72_547))) (V.pv [(79, .pointer (some ⟨t, 0, none⟩))] ⟨(sm hz527.p4.p2 rfl), trivial⟩ (by kernel_rfl) (.pointer (some ⟨t, 1, none⟩)) (by kernel_rfl) ?_)
     refine V.go_on 72 (by kernel_rfl) (o8 rfl s72_547) (V.ld ⟨t, 1, none⟩ (.slice (some ⟨gA, 0, none⟩) T1.a.length T1.a.length) (sm hz527.p4.p2.p1 rfl) (by kernel_rfl) (hB490_510.at 1 rfl) ?_)
     refine V.go_on 72 (by kernel_rfl) (o8 rfl (o1 rfl s72_547)) (V.pv [(81, .slice (some ⟨gA, 0, none⟩) T1.a.length T1.a.length)] ⟨(sm hz527.p8 rfl), trivial⟩ (by kernel_rfl) (.int .i64 ((T1.a.length : Nat) : Int)) (by kernel_rfl) ?_)
     refine V.go_on 72 (by kernel_rfl) (o8 rfl (o2 rfl s72_547)) (V.pv [(77, .int .i64 (((T1.n : Int) - 1) * 8)), (82, .int .i64 ((T1.a.length : Nat) : Int))] ⟨(o4 rfl (o1 rfl (sm hz527.p4 rfl))), (sm hz527.p8.p1 rfl), trivial⟩ (by kernel_rfl) (.bool (decide ((((T1.n : Int) - 1) * 8) < ((T1.a.length : Nat) : Int)))) (by kernel_rfl) ?_)
     refine V.go (V.pk_t (o8 rfl (o2 rfl (o1 rfl s72_547))) (v := (.bool (decide ((((T1.n : Int) - 1) * 8) < ((T1.a.length : Nat) : Int))))) (sm hz527.p8.p2 rfl) ?_)
     refine V.nil ?_
     refine ⟨chk [(58, .pointer (some ⟨t, 0, none⟩)), (61, .slice (some ⟨gB, 0, none⟩) T1.b.length T1.b.length), (62, .int .i64 ((T1.b.length : Nat) : Int)), (65, .pointer (some ⟨t, 0, none⟩)), (68, .slice (some ⟨gA, 0, none⟩) T1.a.length T1.a.length), (69, .int .i64 ((T1.a.length : Nat) : Int)), (73, .pointer (some ⟨t, 0, none⟩)), (76, .int .i64 ((T1.n : Int) - 1)), (78, .pointer (some ⟨t, 0, none⟩)), (81, .slice (some ⟨gA, 0, none⟩) T1.a.length T1.a.length), (77, .int .i64 (((T1.n : Int) - 1) * 8)), (82, .int .i64 ((T1.a.length : Nat) : Int)), (64, .bool true), (72, .bool true)] ⟨(o8 rfl (o4 rfl s58_530)), (o8 rfl (o4 rfl s61_533)), (o8 rfl (o4 rfl s62_534)), (o8 rfl (o4 rfl s65_537)), (o8 rfl (o4 rfl s68_540)), (o8 rfl (o4 rfl s69_541)), (o8 rfl (o2 rfl (o1 rfl (sm hz527 rfl)))), (o8 rfl (sm hz527.p2.p1 rfl)), (o4 rfl (o2 rfl (sm hz527.p4.p1 rfl))), (o2 rfl (o1 rfl (sm hz527.p8 rfl))), (o4 rfl (o2 rfl (o1 rfl (sm hz527.p4 rfl)))), (o2 rfl (sm hz527.p8.p1 rfl)), (o8 rfl (o4 rfl s64_536)), (o8 rfl (o4 rfl s72_547)), trivial⟩ (by kernel_rfl), ?_⟩
     refine V.then_n (hK503 _ _ ?_)
     refine V.flushW hz527.p8.p4 (fun a548 hz549 up550 => ?_)
     have s0_551 := up550 0 _ (o8 rfl (o4 rfl s0_529))
     have s84_552 := up550 84 _ (sm hz527.p8.p2.p1 rfl)
     clear up550
     refine V.condP (p := (((T1.n : Int) - 1) * 8) < ((T1.a.length : Nat) : Int)) (s84_552) (fun ht553 => ?_) (fun ht553 => ?_)
     ·
      refine V.rg ?_
      refine V.gm (s0_551) ?_
      refine V.gm (o1 rfl s0_551) ?_
      refine V.ge_ [(86, .pointer (some ⟨t, 0, none⟩))] ⟨(sm hz549.p1 rfl), trivial⟩ (.pointer (some ⟨t, 0, none⟩)) ?_
      refine V.ge_ [(87, .pointer (some ⟨t, 0, none⟩))] ⟨(sm hz549.p2 rfl), trivial⟩ (.pointer (some ⟨t, 1, none⟩)) ?_
      refine V.go (V.ld ⟨t, 1, none⟩ (.slice (some ⟨gA, 0, none⟩) T1.a.length T1.a.length) (sm hz549.p2.p1 rfl) (by kernel_rfl) (hB490_510.at 1 rfl) ?_)
      refine V.ge_ [(89, .slice (some ⟨gA, 0, none⟩) T1.a.length T1.a.length)] ⟨(sm hz549.p4 rfl), trivial⟩ (.int .i64 ((T1.a.length : Nat) : Int)) ?_
      refine V.go (V.quoN T1.a.length 2 (sm hz549.p4.p1 rfl) evc (by omega) (by omega) ?_)
      refine V.go (V.mks (enc := idV) (T1.a.length / 2) (.slice none 0 0) nilS 24 ((sm hz549.p4.p2 rfl).trans (V.int_eq (by omega))) ((sm hz549.p4.p2 rfl).trans (V.int_eq (by omega))) (by kernel_rfl) info42 rfl rfl (by omega) (by omega) ?_)
      intro w555 b554 heb554 hR556 hF557
      have hsb554 := hR556.lt
      have hRA_558 := hRA_506.fr0 hF557
      have hE_559 := hE_507.tr0 hF557
      have hK465_560 := hK465_508.alloc hF557 heb554 (by omega)
      have hR477_561 := hR477_509.fr0 hF557
      have hB490_562 := hB490_510.fr0 hF557
      refine V.ge_ [(85, .pointer (some ⟨t, 0, none⟩))] ⟨(o4 rfl (o2 rfl (o1 rfl (sm hz549 rfl)))), trivial⟩ (.pointer (some ⟨t, 0, none⟩)) ?_
      refine V.ge_ [(93, .pointer (some ⟨t, 0, none⟩))] ⟨(sm hz549.p8 rfl), trivial⟩ (.pointer (some ⟨t, 2, none⟩)) ?_
      refine V.go (V.stn t 2 (.slice (some ⟨b554, 0, none⟩) (T1.a.length / 2) (T1.a.length / 2)) [.slice (some ⟨b554, 0, none⟩) (T1.a.length / 2) (T1.a.length / 2)] (sm hz549.p8.p1 rfl) (o2 rfl (sm hz549.p4.p2.p1 rfl)) rfl rfl (by kernel_rfl) hB490_562 (by simp) [.int .u64 (T1.seed : Int), .slice (some ⟨gA, 0, none⟩) T1.a.length T1.a.length, .slice (some ⟨b554, 0, none⟩) (T1.a.length / 2) (T1.a.length / 2), .int .i64 (T1.moved : Int), .int .i64 ((T1.n : Int) - 1)] rfl ?_)
      intro w563 hB564 hF565 hsw563
      have hRA_566 := hRA_558.fr1 hF565 (by omega)
      have hE_567 := hE_559.tr1 hF565 (by first | exact .inl (by assumption) | exact .inr (by omega) | exact .inl (.inl rfl))
      have hK465_568 := hK465_560.fr hF565 (by simp)
      have hR477_569 := hR477_561.fr1 hF565 (by omega)
      have hR556_570 := hR556.fr1 hF565 (by omega)
      refine V.nil ?_
      refine V.then_n (hK501 _ _ ?_)
      refine V.flushW hz549.p8.p2 (fun a571 hz572 up573 => ?_)
      clear up573
      refine V.seq (fun K574 hK575 => ?_)
      refine V.rg ?_
      refine V.ga evc ?_
      refine V.nil ?_
      refine V.then_n (hK575 _ _ ?_)
      refine V.ret ?_
      refine V.ret1 hz572.p1 rfl (sm hz572 rfl) ?_
      exact absurd hg511 (by omega)
     ·
      refine V.skip ?_
      refine V.then_n (hK501 _ _ ?_)
      refine V.seq (fun K576 hK577 => ?_)
      refine V.rg ?_
      refine V.ga evc ?_
      refine V.nil ?_
      refine V.then_n (hK577 _ _ ?_)
      refine V.ret ?_
      refine V.ret1 hz549.p1 rfl (sm hz549 rfl) ?_
      exact absurd hg511 (by omega)
    ·
     refine V.flushL hz513.p8 (fun a578 hz579 up580 => ?_)
     have s0_581 := up580 0 _ (o8 rfl s0_515)
     have s58_582 := up580 58 _ (o8 rfl s58_516)
     have s59_583 := up580 59 _ (o8 rfl s59_517)
     have s60_584 := up580 60 _ (o8 rfl s60_518)
     have s61_585 := up580 61 _ (o8 rfl s61_519)
     have s62_586 := up580 62 _ (o8 rfl s62_520)
     have s63_587 := up580 63 _ (o8 rfl s63_523)
     have s64_588 := up580 64 _ (o8 rfl s64_524)
     have s65_589 := up580 65 _ (o4 rfl (o2 rfl (o1 rfl (sm hz513 rfl))))
     have s66_590 := up580 66 _ (o4 rfl (o2 rfl (sm hz513.p1 rfl)))
     have s67_591 := up580 67 _ (o4 rfl (o1 rfl (sm hz513.p2 rfl)))
     have s68_592 := up580 68 _ (o4 rfl (sm hz513.p2.p1 rfl))
     have s69_593 := up580 69 _ (o2 rfl (o1 rfl (sm hz513.p4 rfl)))
     have s70_594 := up580 70 _ (o2 rfl (sm hz513.p4.p1 rfl))
     have s71_595 := up580 71 _ (o1 rfl (sm hz513.p4.p2 rfl))
     have s72_596 := up580 72 _ (sm hz513.p4.p2.p1 rfl)
     clear up580
     have s70_597 := ((s70_594).trans (df hg525))
     have s71_598 := ((s71_595).trans (df hg525))
     have s72_599 := ((s72_596).trans (df hg525))
     refine V.go_off 72 (by kernel_rfl) (s72_599) (by kernel_rfl) ?_
     refine V.go_off 72 (by kernel_rfl) (o1 rfl s72_599) (by kernel_rfl) ?_
     refine V.go_off 72 (by kernel_rfl) (o2 rfl s72_599) (by kernel_rfl) ?_
     refine V.go_off 72 (by kernel_rfl) (o2 rfl (o1 rfl s72_599)) (by kernel_rfl) ?_
     refine V.go_off 72 (by kernel_rfl) (o4 rfl s72_599) (by kernel_rfl) ?_
     refine V.go_off 72 (by kernel_rfl) (o4 rfl (o1 rfl s72_599)) (by kernel_rfl) ?_
     refine V.go_off 72 (by kernel_rfl) (o4 rfl (o2 rfl s72_599)) (by kernel_rfl) ?_
     refine V.go_off 72 (by kernel_rfl) (o4 rfl (o2 rfl (o1 rfl s72_599))) (by kernel_rfl) ?_
     refine V.go_off 72 (by kernel_rfl) (o8 rfl s72_599) (by kernel_rfl) ?_
     refine V.go_off 72 (by kernel_rfl) (o8 rfl (o1 rfl s72_599)) (by kernel_rfl) ?_
     refine V.go_off 72 (by kernel_rfl) (o8 rfl (o2 rfl s72_599)) (by kernel_rfl) ?_
     refine V.go (V.pk_f (o8 rfl (o2 rfl (o1 rfl s72_599))) (v := (.bool false)) evc ?_)
     refine V.nil ?_
     refine ⟨chk [(58, .pointer (some ⟨t, 0, none⟩)), (61, .slice (some ⟨gB, 0, none⟩) T1.b.length T1.b.length), (62, .int .i64 ((T1.b.length : Nat) : Int)), (65, .pointer (some ⟨t, 0, none⟩)), (68, .slice (some ⟨gA, 0, none⟩) T1.a.length T1.a.length), (69, .int .i64 ((T1.a.length : Nat) : Int)), (73, undef), (76, undef), (78, undef), (81, undef), (77, undef), (82, undef), (64, .bool true), (72, .bool false)] ⟨(o8 rfl (o4 rfl s58_582)), (o8 rfl (o4 rfl s61_585)), (o8 rfl (o4 rfl s62_586)), (o8 rfl (o4 rfl s65_589)), (o8 rfl (o4 rfl s68_592)), (o8 rfl (o4 rfl s69_593)), (o8 rfl (o2 rfl (o1 rfl (sm hz579 rfl)))), (o8 rfl (sm hz579.p2.p1 rfl)), (o4 rfl (o2 rfl (sm hz579.p4.p1 rfl))), (o2 rfl (o1 rfl (sm hz579.p8 rfl))), (o4 rfl (o2 rfl (o1 rfl (sm hz579.p4 rfl)))), (o2 rfl (sm hz579.p8.p1 rfl)), (o8 rfl (o4 rfl s64_588)), (o8 rfl (o4 rfl s72_599)), trivial⟩ (by kernel_rfl), ?_⟩
     refine V.then_n (hK503 _ _ ?_)
     refine V.flushW hz579.p8.p4 (fun a600 hz601 up602 => ?_)
     have s0_603 := up602 0 _ (o8 rfl (o4 rfl s0_581))
     have s84_604 := up602 84 _ (sm hz579.p8.p2.p1 rfl)
     clear up602
     refine V.cond_f (s84_604) ?_
     refine V.skip ?_
     refine V.then_n (hK501 _ _ ?_)
     refine V.seq (fun K605 hK606 => ?_)
     refine V.rg ?_
     refine V.ga evc ?_
     refine V.nil ?_
     refine V.then_n (hK606 _ _ ?_)
     refine V.ret ?_
     refine V.ret1 hz601.p1 rfl (sm hz601 rfl) ?_
     exact absurd hg511 (by omega)
   ·
    refine V.flushL hz497.p4.p2.p1 (fun a607 hz608 up609 => ?_)
    have s0_610 := up609 0 _ (o4 rfl (o2 rfl (o1 rfl s0_499)))
    have s58_611 := up609 58 _ (o4 rfl (o2 rfl (sm hz497 rfl)))
    have s59_612 := up609 59 _ (o4 rfl (o1 rfl (sm hz497.p1 rfl)))
    have s60_613 := up609 60 _ (o4 rfl (sm hz497.p2 rfl))
    have s61_614 := up609 61 _ (o2 rfl (o1 rfl (sm hz497.p2.p1 rfl)))
    have s62_615 := up609 62 _ (o2 rfl (sm hz497.p4 rfl))
    have s63_616 := up609 63 _ (o1 rfl (sm hz497.p4.p1 rfl))
    have s64_617 := up609 64 _ (sm hz497.p4.p2 rfl)
    clear up609
    have s63_618 := ((s63_616).trans (df hg511))
    have s64_619 := ((s64_617).trans (df hg511))
    refine V.go_off 64 (by kernel_rfl) (s64_619) (by kernel_rfl) ?_
    refine V.go_off 64 (by kernel_rfl) (o1 rfl s64_619) (by kernel_rfl) ?_
    refine V.go_off 64 (by kernel_rfl) (o2 rfl s64_619) (by kernel_rfl) ?_
    refine V.go_off 64 (by kernel_rfl) (o2 rfl (o1 rfl s64_619)) (by kernel_rfl) ?_
    refine V.go_off 64 (by kernel_rfl) (o4 rfl s64_619) (by kernel_rfl) ?_
    refine V.go_off 64 (by kernel_rfl) (o4 rfl (o1 rfl s64_619)) (by kernel_rfl) ?_
    refine V.go (V.pk_f (o4 rfl (o2 rfl s64_619)) (v := (.bool false)) evc ?_)
    refine V.gm (sm hz608.p4.p2 rfl) ?_
    refine V.go_off 72 (by kernel_rfl) (sm hz608.p4.p2.p1 rfl) (by kernel_rfl) ?_
    refine V.go_off 72 (by kernel_rfl) (o1 rfl (sm hz608.p4.p2.p1 rfl)) (by kernel_rfl) ?_
    refine V.go_off 72 (by kernel_rfl) (o2 rfl (sm hz608.p4.p2.p1 rfl)) (by kernel_rfl) ?_
    refine V.go_off 72 (by kernel_rfl) (o2 rfl (o1 rfl (sm hz608.p4.p2.p1 rfl))) (by kernel_rfl) ?_
    refine V.go_off 72 (by kernel_rfl) (o4 rfl (sm hz608.p4.p2.p1 rfl)) (by kernel_rfl) ?_
    refine V.go_off 72 (by kernel_rfl) (o4 rfl (o1 rfl (sm hz608.p4.p2.p1 rfl))) (by kernel_rfl) ?_
    refine V.go_off 72 (by kernel_rfl) (o4 rfl (o2 rfl (sm hz608.p4.p2.p1 rfl))) (by kernel_rfl) ?_
    refine V.go_off 72 (by kernel_rfl) (o4 rfl (o2 rfl (o1 rfl (sm hz608.p4.p2.p1 rfl)))) (by kernel_rfl) ?_
    refine V.go_off 72 (by kernel_rfl) (o8 rfl (sm hz608.p4.p2.p1 rfl)) (by kernel_rfl) ?_
    refine V.go_off 72 (by kernel_rfl) (o8 rfl (o1 rfl (sm hz608.p4.p2.p1 rfl))) (by kernel_rfl) ?_
    refine V.go_off 72 (by kernel_rfl) (o8 rfl (o2 rfl (sm hz608.p4.p2.p1 rfl))) (by kernel_rfl) ?_
    refine V.go (V.pk_f (o8 rfl (o2 rfl (o1 rfl (sm hz608.p4.p2.p1 rfl)))) (v := (.bool false)) evc ?_)
    refine V.nil ?_
    refine ⟨chk [(58, .pointer (some ⟨t, 0, none⟩)), (61, .slice (some ⟨gB, 0, none⟩) T1.b.length T1.b.length), (62, .int .i64 ((T1.b.length : Nat) : Int)), (65, undef), (68, undef), (69, undef), (73, undef), (76, undef), (78, undef), (81, undef), (77, undef), (82, undef), (64, .bool false), (72, .bool false)] ⟨(o16 rfl (o4 rfl s58_611)), (o16 rfl (o4 rfl s61_614)), (o16 rfl (o4 rfl s62_615)), (o16 rfl (o2 rfl (o1 rfl (sm hz608 rfl)))), (o16 rfl (sm hz608.p2.p1 rfl)), (o8 rfl (o4 rfl (o2 rfl (o1 rfl (sm hz608.p4 rfl))))), (o8 rfl (o2 rfl (o1 rfl (sm hz608.p8 rfl)))), (o8 rfl (sm hz608.p8.p2.p1 rfl)), (o4 rfl (o2 rfl (sm hz608.p8.p4.p1 rfl))), (o2 rfl (o1 rfl (sm hz608.p16 rfl))), (o4 rfl (o2 rfl (o1 rfl (sm hz608.p8.p4 rfl)))), (o2 rfl (sm hz608.p16.p1 rfl)), (o16 rfl (o4 rfl s64_619)), (o8 rfl (o4 rfl (sm hz608.p4.p2.p1 rfl))), trivial⟩ (by kernel_rfl), ?_⟩
    refine V.then_n (hK503 _ _ ?_)
    refine V.flushW hz608.p16.p4 (fun a620 hz621 up622 => ?_)
    have s0_623 := up622 0 _ (o16 rfl (o4 rfl s0_610))
    have s84_624 := up622 84 _ (sm hz608.p16.p2.p1 rfl)
    clear up622
    refine V.cond_f (s84_624) ?_
    refine V.skip ?_
    refine V.then_n (hK501 _ _ ?_)
    refine V.seq (fun K625 hK626 => ?_)
    refine V.rg ?_
    refine V.ga evc ?_
    refine V.nil ?_
    refine V.then_n (hK626 _ _ ?_)
    refine V.ret ?_
    refine V.ret1 hz621.p1 rfl (sm hz621 rfl) ?_
    have hst : delT T k = shrT (rm1T T1 k) := by (unfold delT; rw [← hT1]; unfold del1T; rw [hf, if_pos rfl])
    have hu2 : rm1T T1 k = ({ T1 with b := rmV T1.b (bkt T1.seed T1.b.length k) j, n := T1.n - 1 } : Tb Int) := by (unfold rm1T; rw [hf]; simp)
    have hup := (rm1T_ok hok1 hm1 k (by rw [hf])).1
    rw [hu2] at hup
    rw [hst, hu2]
    have hsh : shrT ({ T1 with b := rmV T1.b (bkt T1.seed T1.b.length k) j, n := T1.n - 1 } : Tb Int) = ({ T1 with b := rmV T1.b (bkt T1.seed T1.b.length k) j, n := T1.n - 1 } : Tb Int) := by (unfold shrT; rw [if_neg]; rintro ⟨h0, _⟩; exact hb1 (by first | exact h0 | (have h1 : (rmV T1.b (bkt T1.seed T1.b.length k) j).length = 0 := h0; rwa [rmV_length] at h1)))
    rw [hsh]
    exact ⟨by rw [hf], (TabM.fin (T := ({ T1 with b := rmV T1.b (bkt T1.seed T1.b.length k) j, n := T1.n - 1 } : Tb Int)) hup (fun h => hb1 (by have := congrArg List.length h; rwa [rmV_length] at this)) hB490_510 hRA_506 hR477_509 (by first | exact hlA | (simp only [List.length_set]; exact hlA)) hK465_508 (mem4 (l := (t :: gA :: gB :: av)) (by simp) (by simp) (by simp) (by intro k hk; simp [hk])) (by first | assumption | omega) (by first | assumption | omega) (by first | assumption | omega) hpt ⟨.inl hpg.1, hpg.2⟩ ⟨.inl hph.1, hph.2⟩ rfl rfl rfl (by show ((T1.n : Int) - 1) = ((T1.n - 1 : Nat) : Int); omega) rfl rfl (rmV_length _ _ _).symm).gr3 (by omega), (hFPE.gr hE_507)⟩
end Go.Proofs.Ytalhmegjomfbaaa
