/- Walks: the reference: a step. -/
import Derived.Test.YtalhmegjomfbaaaProg
import Derived.Test.YtalhmegjomfbaaaRa
namespace Go.Proofs.Ytalhmegjomfbaaa
open Go.V Go.Base
open Go.RowKit (Below)
attribute [local irreducible] Act.put Act.eval
set_option linter.unusedVariables false
set_option linter.unusedSimpArgs false
set_option maxHeartbeats 4000000 in
set_option maxRecDepth 20000 in
theorem rstep_N (w : World) (H : Nat → Prop) (av : List Nat) (t gA : Nat) (vsA : List Value) (T : Tb Int) (hok : T.Ok) (hT : TabN 40 42 60 itI w H av t gA vsA T) (hb : T.b.length = 0) : Calls Try.prog 49 #[.pointer (some ⟨t, 0, none⟩)] w (fun e w' => e = .returned (.bool false) ∧ Fr [] w w') := by
 have hF := Fr.refl [] w
 obtain ⟨hsd, hpa, hla, hlb, hmv, hmz, hnn, hcn, hks⟩ := hok
 obtain ⟨hB, hRA, hlA, hK, hne, hpt, hpg⟩ := hT
 have hltt := hB.lt
 have hltg := hRA.lt
 refine V.enter 124 Try.func49 rfl rfl ?_
 intro a hz ha
 have s0 : a.eval (.tmp 0) = (.pointer (some ⟨t, 0, none⟩)) := ha 0 _ rfl
 clear ha
 refine V.seq (fun K1 hK2 => ?_)
 refine V.rg ?_
 refine V.ga evc ?_
 refine V.nil ?_
 refine V.then_n (hK2 _ _ ?_)
 refine V.seq (fun K3 hK4 => ?_)
 refine V.seq (fun K5 hK6 => ?_)
 refine V.rg ?_
 refine V.gm (o1 rfl s0) ?_
 refine V.ge_ [(6, .pointer (some ⟨t, 0, none⟩))] ⟨(sm hz.p1 rfl), trivial⟩ (.pointer (some ⟨t, 0, none⟩)) ?_
 refine V.ge_ [(7, .pointer (some ⟨t, 0, none⟩))] ⟨(sm hz.p2 rfl), trivial⟩ (.pointer (some ⟨t, 2, none⟩)) ?_
 refine V.go (V.ld ⟨t, 2, none⟩ (.slice none 0 0) (sm hz.p2.p1 rfl) (by kernel_rfl) (hB.at 2 rfl) ?_)
 refine V.ge_ [(9, .slice none 0 0)] ⟨(sm hz.p4 rfl), trivial⟩ (.int .i64 0) ?_
 refine V.ge_ [(10, .int .i64 0)] ⟨(sm hz.p4.p1 rfl), trivial⟩ (.bool true) ?_
 refine V.nil ?_
 refine V.then_n (hK6 _ _ ?_)
 refine V.flushW hz.p4.p2.p1 (fun a7 hz8 up9 => ?_)
 have s0_10 := up9 0 _ (o4 rfl (o2 rfl (o1 rfl s0)))
 have s11_11 := up9 11 _ (sm hz.p4.p2 rfl)
 clear up9
 refine V.cond_t (s11_11) ?_
 refine V.seq (fun K12 hK13 => ?_)
 refine V.rg ?_
 refine V.ga evc ?_
 refine V.nil ?_
 refine V.then_n (hK13 _ _ ?_)
 refine V.ret ?_
 refine V.then_r ?_
 refine V.ret1 hz8.p1 rfl (sm hz8 rfl) ?_
 exact ⟨rfl, hF⟩
set_option maxHeartbeats 4000000 in
set_option maxRecDepth 20000 in
theorem rstep_M (w : World) (H : Nat → Prop) (av : List Nat) (t gA gB : Nat) (vsA vsB : List Value) (T : Tb Int) (hok : T.Ok) (hT : TabM 40 42 60 itI w H av t gA gB vsA vsB T) (hb : T.b.length ≠ 0) (hm : T.Mv) : Calls Try.prog 49 #[.pointer (some ⟨t, 0, none⟩)] w (fun e w' => e = .returned (.bool (decide ((tbStep T).b.length ≠ 0))) ∧ TabX 40 42 60 itI w' (gr H w w') av t (tbStep T) ∧ FrP (gp H av) w w') := by
 have hok0 := hok
 have hK0 : ∀ k ∈ av, k < w.heap.size := fun k hk => hT.bk.avl k (by simp [hk])
 obtain ⟨hsd, hpa, hla, hlb, hmv, hmz, hnn, hcn, hks⟩ := hok0
 obtain ⟨hB, hRA, hRB, hlA, hlB, hK, hne, hne2, hne3, hpt, hpg, hph⟩ := hT
 have hltg2 := hRB.lt
 have hltt := hB.lt
 have hltg := hRA.lt
 have hFP := FrP.refl (gp H av) w
 replace hK := hK.toH
 refine V.enter 124 Try.func49 rfl rfl ?_
 intro a hz ha
 have s0 : a.eval (.tmp 0) = (.pointer (some ⟨t, 0, none⟩)) := ha 0 _ rfl
 clear ha
 refine V.seq (fun K1 hK2 => ?_)
 refine V.rg ?_
 refine V.ga evc ?_
 refine V.nil ?_
 refine V.then_n (hK2 _ _ ?_)
 refine V.seq (fun K3 hK4 => ?_)
 refine V.seq (fun K5 hK6 => ?_)
 refine V.rg ?_
 refine V.gm (o1 rfl s0) ?_
 refine V.ge_ [(6, .pointer (some ⟨t, 0, none⟩))] ⟨(sm hz.p1 rfl), trivial⟩ (.pointer (some ⟨t, 0, none⟩)) ?_
 refine V.ge_ [(7, .pointer (some ⟨t, 0, none⟩))] ⟨(sm hz.p2 rfl), trivial⟩ (.pointer (some ⟨t, 2, none⟩)) ?_
 refine V.go (V.ld ⟨t, 2, none⟩ (.slice (some ⟨gB, 0, none⟩) T.b.length T.b.length) (sm hz.p2.p1 rfl) (by kernel_rfl) (hB.at 2 rfl) ?_)
 refine V.ge_ [(9, .slice (some ⟨gB, 0, none⟩) T.b.length T.b.length)] ⟨(sm hz.p4 rfl), trivial⟩ (.int .i64 ((T.b.length : Nat) : Int)) ?_
 refine V.gf_ [(10, .int .i64 ((T.b.length : Nat) : Int))] ⟨(sm hz.p4.p1 rfl), trivial⟩ (.bool (((T.b.length : Nat) : Int) == 0)) (.bool (decide (((T.b.length : Nat) : Int) = 0))) V.t_eql ?_
 refine V.nil ?_
 refine V.then_n (hK6 _ _ ?_)
 refine V.flushW hz.p4.p2.p1 (fun a7 hz8 up9 => ?_)
 have s0_10 := up9 0 _ (o4 rfl (o2 rfl (o1 rfl s0)))
 have s11_11 := up9 11 _ (sm hz.p4.p2 rfl)
 clear up9
 refine V.condP (p := ((T.b.length : Nat) : Int) = 0) (s11_11) (fun ht12 => ?_) (fun ht12 => ?_)
 ·
  refine V.seq (fun K13 hK14 => ?_)
  refine V.rg ?_
  refine V.ga evc ?_
  refine V.nil ?_
  refine V.then_n (hK14 _ _ ?_)
  refine V.ret ?_
  refine V.then_r ?_
  refine V.ret1 hz8.p1 rfl (sm hz8 rfl) ?_
  exact absurd ht12 (by omega)
 ·
  refine V.skip ?_
  refine V.then_n (hK4 _ _ ?_)
  refine V.seq (fun K15 hK16 => ?_)
  refine V.plan [[], [0], [0, 1], [0, 1, 2], [], [4], [4, 5], [4, 5, 6], [0, 1, 2, 3, 4, 5, 6, 7], [0, 1, 2, 3, 4, 5, 6, 7, 8], [0, 1, 2, 3, 4, 5, 6, 7, 8, 9]] [([0, 1, 2, 3, 4, 5, 6, 7, 8, 9, 10], none)] (by kernel_rfl) (by kernel_rfl) (by exact fun _ _ _ _ h => h) ?_
  simp only [Plan.wpSegs, Plan.pickAll, Plan.nth, V.L_eq]
  obtain ⟨w17, hF18e⟩ : ∃ w1, w1 = w.drew := ⟨_, rfl⟩
  rw [← hF18e]
  have hF18 : Fr [] w w17 := by rw [hF18e]; exact Fr.drew _ _
  have hsw17 : w17.heap.size = w.heap.size := by rw [hF18e]; rfl
  clear hF18e
  have hB_19 := hB.fr0 hF18
  have hRA_20 := hRA.fr0 hF18
  have hRB_21 := hRB.fr0 hF18
  have hK_22 := hK.fr0 hF18
  have hFP_23 := hFP.tr0 hF18
  refine V.gm (s0_10) ?_
  refine V.ge_ [(12, .pointer (some ⟨t, 0, none⟩))] ⟨(sm hz8 rfl), trivial⟩ (.pointer (some ⟨t, 0, none⟩)) ?_
  refine V.ge_ [(13, .pointer (some ⟨t, 0, none⟩))] ⟨(sm hz8.p1 rfl), trivial⟩ (.pointer (some ⟨t, 1, none⟩)) ?_
  refine V.go (V.ld ⟨t, 1, none⟩ (.slice (some ⟨gA, 0, none⟩) T.a.length T.a.length) (sm hz8.p2 rfl) (by kernel_rfl) (hB_19.at 1 rfl) ?_)
  refine V.gm (o4 rfl s0_10) ?_
  refine V.ge_ [(16, .pointer (some ⟨t, 0, none⟩))] ⟨(sm hz8.p4 rfl), trivial⟩ (.pointer (some ⟨t, 0, none⟩)) ?_
  refine V.ge_ [(17, .pointer (some ⟨t, 0, none⟩))] ⟨(sm hz8.p4.p1 rfl), trivial⟩ (.pointer (some ⟨t, 3, none⟩)) ?_
  refine V.go (V.ld ⟨t, 3, none⟩ (.int .i64 (T.moved : Int)) (sm hz8.p4.p2 rfl) (by kernel_rfl) (hB_19.at 3 rfl) ?_)
  refine V.go (V.ixa gA 0 T.a.length T.a.length .i64 (T.moved : Int) 1 (o4 rfl (sm hz8.p2.p1 rfl)) (sm hz8.p4.p2.p1 rfl) (by omega) (by omega) (by kernel_rfl) ?_)
  obtain ⟨A24, c25, hv26⟩ := hK_22.getA hlA (i := T.moved) (by omega) nilS
  refine V.go (V.ld ⟨gA, 0 + (T.moved : Int).toNat * 1, none⟩ (.slice A24 ((T.a.getD T.moved []).length) c25) (sm hz8.p8 rfl) (by kernel_rfl) ((hRA_20.at T.moved nilS (by omega)).trans (congrArg some hv26)) ?_)
  have hS27 := hK_22.slA hlA (i := T.moved) (by omega) hv26
  refine V.ga (sm hz8.p8.p1 rfl) ?_
  refine V.nil ?_
  refine ⟨chk [(12, .pointer (some ⟨t, 0, none⟩)), (16, .pointer (some ⟨t, 0, none⟩))] ⟨(o8 rfl (o2 rfl (sm hz8 rfl))), (o4 rfl (o2 rfl (sm hz8.p4 rfl))), trivial⟩ (by kernel_rfl), ?_⟩
  refine V.then_n (hK16 _ _ ?_)
  refine V.flushW hz8.p8.p2.p1 (fun a28 hz29 up30 => ?_)
  have s0_31 := up30 0 _ (o8 rfl (o2 rfl (o1 rfl s0_10)))
  have s3_32 := up30 3 _ (sm hz8.p8.p2 rfl)
  clear up30
  refine V.seq (fun K33 hK34 => ?_)
  obtain ⟨hK9, hS9, hoh⟩ := hK_22.takeA hlA (i := T.moved) (by omega) hv26
  have hlA2 : (vsA.set T.moved nilS).length = (T.a.set T.moved []).length := by simp [hlA]
  refine V.plan [[], [0], [0, 1], [0, 1, 2], [], [4], [4, 5], [4, 5, 6], [0, 1, 2, 3, 4, 5, 6, 7], [0, 1, 2, 3, 4, 5, 6, 7, 8]] [([0, 1, 2, 3, 4, 5, 6, 7, 8], some (9, [])), ([], none)] (by kernel_rfl) (by kernel_rfl) (by exact fun _ _ _ _ h => h) ?_
  simp only [Plan.wpSegs, Plan.pickAll, Plan.nth, V.L_eq]
  obtain ⟨w35, hF36e⟩ : ∃ w1, w1 = w17.drew := ⟨_, rfl⟩
  rw [← hF36e]
  have hF36 : Fr [] w17 w35 := by rw [hF36e]; exact Fr.drew _ _
  have hsw35 : w35.heap.size = w17.heap.size := by rw [hF36e]; rfl
  clear hF36e
  have hB_37 := hB_19.fr0 hF36
  have hRA_38 := hRA_20.fr0 hF36
  have hRB_39 := hRB_21.fr0 hF36
  have hFP_40 := hFP_23.tr0 hF36
  have hK9_41 := hK9.fr0 hF36
  have hS9_42 := hS9.fr0 hF36
  refine V.gm (s0_31) ?_
  refine V.ge_ [(22, .pointer (some ⟨t, 0, none⟩))] ⟨(sm hz29 rfl), trivial⟩ (.pointer (some ⟨t, 0, none⟩)) ?_
  refine V.ge_ [(23, .pointer (some ⟨t, 0, none⟩))] ⟨(sm hz29.p1 rfl), trivial⟩ (.pointer (some ⟨t, 1, none⟩)) ?_
  refine V.go (V.ld ⟨t, 1, none⟩ (.slice (some ⟨gA, 0, none⟩) T.a.length T.a.length) (sm hz29.p2 rfl) (by kernel_rfl) (hB_37.at 1 rfl) ?_)
  refine V.gm (o4 rfl s0_31) ?_
  refine V.ge_ [(26, .pointer (some ⟨t, 0, none⟩))] ⟨(sm hz29.p4 rfl), trivial⟩ (.pointer (some ⟨t, 0, none⟩)) ?_
  refine V.ge_ [(27, .pointer (some ⟨t, 0, none⟩))] ⟨(sm hz29.p4.p1 rfl), trivial⟩ (.pointer (some ⟨t, 3, none⟩)) ?_
  refine V.go (V.ld ⟨t, 3, none⟩ (.int .i64 (T.moved : Int)) (sm hz29.p4.p2 rfl) (by kernel_rfl) (hB_37.at 3 rfl) ?_)
  refine V.go (V.ixa gA 0 T.a.length T.a.length .i64 (T.moved : Int) 1 (o4 rfl (sm hz29.p2.p1 rfl)) (sm hz29.p4.p2.p1 rfl) (by omega) (by omega) (by kernel_rfl) ?_)
  refine V.nil ?_
  refine ⟨chk [(22, .pointer (some ⟨t, 0, none⟩)), (26, .pointer (some ⟨t, 0, none⟩))] ⟨(o8 rfl (sm hz29 rfl)), (o4 rfl (sm hz29.p4 rfl)), trivial⟩ (by kernel_rfl), ?_⟩
  refine V.go (V.strow (enc := idV) gA ((T.moved : Int).toNat) (.slice none 0 0) (sm hz29.p8 rfl) evc rfl rfl (by kernel_rfl) hRA_38 (by first | omega | (simp only [List.length_set, List.length_replicate]; omega)) ?_)
  intro w43 hR44 hF45 hsw43
  have hB_46 := hB_37.fr1 hF45 (by omega)
  have hRB_47 := hRB_39.fr1 hF45 (by omega)
  have hFP_48 := hFP_40.tr1 hF45 (by first | exact .inl (by assumption) | exact .inr (by omega) | exact .inl (.inl rfl))
  have hK9_49 := hK9_41.fr hF45 (by simp)
  have hS9_50 := hS9_42.fr hF45 (by intro x hx hz; simp only [List.mem_singleton] at hx; subst hx; first | (have := (hoh _ hz).2; omega) | exact (hoh _ hz).1 (by simp))
  refine V.nil ?_
  refine ⟨trivial, ?_⟩
  refine V.nil ?_
  refine ⟨chk [] trivial (by kernel_rfl), ?_⟩
  refine V.then_n (hK34 _ _ ?_)
  refine V.flushW hz29.p8.p1 (fun a51 hz52 up53 => ?_)
  have s0_54 := up53 0 _ (o8 rfl (o1 rfl s0_31))
  have s3_55 := up53 3 _ (o8 rfl (o1 rfl s3_32))
  clear up53
  refine V.seq (fun K56 hK57 => ?_)
  refine V.seq (fun K58 hK59 => ?_)
  refine V.rg ?_
  refine V.ga evc ?_
  refine V.nil ?_
  refine V.then_n (hK59 _ _ ?_)
  refine V.block ?_
  refine V.loop3 (fun (i : Nat) (vb : List Value) (xb : List (List (ByteArray × Int))) a_ w_ => Sz 124 a_ ∧ a_.eval (.tmp 0) = (.pointer (some ⟨t, 0, none⟩)) ∧ a_.eval (.tmp 3) = (.slice A24 ((T.a.getD T.moved []).length) c25) ∧ a_.eval (.tmp 4) = (.int .i64 (i : Int)) ∧ Row idV w_ gB vb 42 ∧ Bks itI w_ 60 (gh H w) (((Value.slice A24 ((T.a.getD T.moved []).length) c25).ownBlock.toList ++ (t :: gA :: gB :: av))) (vsA.set T.moved nilS ++ vb) (T.a.set T.moved [] ++ xb) ∧ FrP (fun _ => True) w43 w_ ∧ Blk w_ t [.int .u64 (T.seed : Int), .slice (some ⟨gA, 0, none⟩) T.a.length T.a.length, .slice (some ⟨gB, 0, none⟩) T.b.length T.b.length, .int .i64 (T.moved : Int), .int .i64 (T.n : Int)] 40 ∧ FrP (gp H av) w w_ ∧ SlR itI (fun k => k ∈ (Value.slice A24 ((T.a.getD T.moved []).length) c25).ownBlock.toList) w_ (.slice A24 ((T.a.getD T.moved []).length) c25) (T.a.getD T.moved []) ∧ Row idV w_ gA (vsA.set ((T.moved : Int).toNat) (.slice none 0 0)) 42 ∧ (i ≤ (T.a.getD T.moved []).length) ∧ (vb.length = xb.length) ∧ (((T.a.getD T.moved []).take i).foldl (putB T.seed) T.b = xb)) (fun (i : Nat) (vb : List Value) (xb : List (List (ByteArray × Int))) => (T.a.getD T.moved []).length - i) 0 vsB T.b ?_ ?_
  ·
   refine ⟨hz52.p1, ?_, ?_, ?_, hRB_47, hK9_49, (FrP.refl _ _), hB_46, hFP_48, hS9_50, hR44, (by omega), hlB, (by simp)⟩
   · exact (o1 rfl s0_54)
   · exact (o1 rfl s3_55)
   · exact Eq.trans (sm hz52 rfl) (V.int_eq (by omega))
  ·
   rintro i vb xb a60 w61 ⟨hz62, s0_63, s3_64, s4_65, hRB_66, hK_67, hF0_68, hB_69, hFP_70, hS9_71, hR44_72, hi, hlb, hxb⟩
   have hlt73 := hRB_66.lt
   have hfs74 := hF0_68.size
   have hlt75 := hB_69.lt
   have hfs76 := hFP_70.size
   have hlt77 := hR44_72.lt
   have hxl : xb.length = T.b.length := by rw [← hxb, putBs_length]
   have hfl : xb.flatten.length = T.b.flatten.length + i := by (rw [← hxb, putBs_flat _ _ (by omega), List.length_take]; omega)
   have hsum := hok.sum
   have hfa := flat_getD T.a T.moved
   refine V.seq (fun K78 hK79 => ?_)
   refine V.seq (fun K80 hK81 => ?_)
   refine V.rg ?_
   refine V.gm (s4_65) ?_
   refine V.gm (o1 rfl s3_64) ?_
   refine V.ge_ [(32, .slice A24 ((T.a.getD T.moved []).length) c25)] ⟨(sm hz62.p1 rfl), trivial⟩ (.int .i64 (((T.a.getD T.moved []).length : Nat) : Int)) ?_
   refine V.ge_ [(31, .int .i64 (i : Int)), (33, .int .i64 (((T.a.getD T.moved []).length : Nat) : Int))] ⟨(o2 rfl (sm hz62 rfl)), (sm hz62.p2 rfl), trivial⟩ (.bool (decide ((i : Int) < (((T.a.getD T.moved []).length : Nat) : Int)))) ?_
   refine V.nil ?_
   refine V.then_n (hK81 _ _ ?_)
   refine V.flushW hz62.p4 (fun a82 hz83 up84 => ?_)
   have s0_85 := up84 0 _ (o4 rfl s0_63)
   have s3_86 := up84 3 _ (o4 rfl s3_64)
   have s4_87 := up84 4 _ (o4 rfl s4_65)
   have s34_88 := up84 34 _ (sm hz62.p2.p1 rfl)
   clear up84
   refine V.condP (p := (i : Int) < (((T.a.getD T.moved []).length : Nat) : Int)) (s34_88) (fun ht89 => ?_) (fun ht89 => ?_)
   ·
    refine V.skip ?_
    refine V.then_n (hK79 _ _ ?_)
    refine V.seq (fun K90 hK91 => ?_)
    refine V.block ?_
    refine V.seq (fun K92 hK93 => ?_)
    have hkz := ks_at (R := itI) (hks.1 T.moved) (i := (i : Int)) (by omega) (by omega)
    refine V.plan [[], [], [1], [1, 2], [1, 2, 3], [1, 2, 3, 4], [], [], [6, 7], [6, 7, 8], [6, 7, 8, 9], [0, 1, 2, 3, 4, 5, 6, 7, 8, 9, 10], [0, 1, 2, 3, 4, 5, 6, 7, 8, 9, 10, 11]] [([0, 1, 2, 3, 4, 5, 6, 7, 8, 9, 10], some (11, [])), ([12], none)] (by kernel_rfl) (by kernel_rfl) (by exact fun _ _ _ _ h => h) ?_
    simp only [Plan.wpSegs, Plan.pickAll, Plan.nth, V.L_eq]
    obtain ⟨w94, hF95e⟩ : ∃ w1, w1 = w61.drew := ⟨_, rfl⟩
    rw [← hF95e]
    have hF95 : Fr [] w61 w94 := by rw [hF95e]; exact Fr.drew _ _
    have hsw94 : w94.heap.size = w61.heap.size := by rw [hF95e]; rfl
    clear hF95e
    have hRB_96 := hRB_66.fr0 hF95
    have hK_97 := hK_67.fr0 hF95
    have hF0_98 := hF0_68.tr hF95 (fun _ _ => .inl trivial)
    have hB_99 := hB_69.fr0 hF95
    have hFP_100 := hFP_70.tr0 hF95
    have hS9_101 := hS9_71.fr0 hF95
    have hR44_102 := hR44_72.fr0 hF95
    refine V.gm (s0_85) ?_
    refine V.gm (o1 rfl s0_85) ?_
    refine V.ge_ [(38, .pointer (some ⟨t, 0, none⟩))] ⟨(sm hz83.p1 rfl), trivial⟩ (.pointer (some ⟨t, 0, none⟩)) ?_
    refine V.ge_ [(39, .pointer (some ⟨t, 0, none⟩))] ⟨(sm hz83.p2 rfl), trivial⟩ (.pointer (some ⟨t, 2, none⟩)) ?_
    refine V.go (V.ld ⟨t, 2, none⟩ (.slice (some ⟨gB, 0, none⟩) T.b.length T.b.length) (sm hz83.p2.p1 rfl) (by kernel_rfl) (hB_99.at 2 rfl) ?_)
    refine V.ge_ [(41, .slice (some ⟨gB, 0, none⟩) T.b.length T.b.length)] ⟨(sm hz83.p4 rfl), trivial⟩ (.int .i64 ((T.b.length : Nat) : Int)) ?_
    refine V.gm (o4 rfl (o2 rfl s3_86)) ?_
    refine V.gm (o4 rfl (o2 rfl (o1 rfl s4_87))) ?_
    obtain ⟨g103, o104, hA105, hA105l, hA105z⟩ := hS9_101.addr (by omega)
    refine V.go (V.ixa g103 o104 ((T.a.getD T.moved []).length) c25 .i64 (i : Int) 2 ((o1 rfl (sm hz83.p4.p2 rfl)).trans (by rw [hA105])) (sm hz83.p4.p2.p1 rfl) (by omega) (by omega) (by kernel_rfl) ?_)
    refine V.go (V.fa (sm hz83.p8 rfl) 0 (fun _ _ => by kernel_rfl) ?_)
    obtain ⟨cs106, hok107, hE108⟩ := hS9_101.els hA105 (i : Int) (by omega) (by omega)
    obtain rfl : cs106 = [.string (at_ itI (T.a.getD T.moved []) (i : Int)).1, .int .i64 (at_ itI (T.a.getD T.moved []) (i : Int)).2] := hok107
    refine V.go (V.ld ⟨g103, o104 + (i : Int).toNat * 2, none⟩ (.string ((at_ itI (T.a.getD T.moved []) (i : Int)).1)) (sm hz83.p8.p1 rfl) (by kernel_rfl) (hE108.at 0 rfl) ?_)
    refine V.nil ?_
    refine ⟨chk [(38, .pointer (some ⟨t, 0, none⟩)), (41, .slice (some ⟨gB, 0, none⟩) T.b.length T.b.length)] ⟨(o8 rfl (o1 rfl (sm hz83.p1 rfl))), (o4 rfl (o2 rfl (sm hz83.p4 rfl))), trivial⟩ (by kernel_rfl), ?_⟩
    refine V.go (V.call 72 #[] #[.pointer (some ⟨t, 0, none⟩), .int .i64 ((T.b.length : Nat) : Int), .string ((at_ itI (T.a.getD T.moved []) (i : Int)).1)] evf (args3 (o8 rfl (o2 rfl (sm hz83 rfl))) (o4 rfl (o1 rfl (sm hz83.p4.p1 rfl))) (sm hz83.p8.p2 rfl)) (Go.Proofs.enters_of Try.func72 (by kernel_rfl) rfl) (rbucket_blk w94 t T.seed (.slice (some ⟨gA, 0, none⟩) T.a.length T.a.length) (.slice (some ⟨gB, 0, none⟩) T.b.length T.b.length) (.int .i64 (T.moved : Int)) (.int .i64 (T.n : Int)) hB_99 T.b.length ((at_ itI (T.a.getD T.moved []) (i : Int)).1)  (by omega) (by omega) (by omega) (by omega)) ?_)
    rintro _ w110 ⟨rfl, hF109⟩
    refine ⟨_, rfl, ?_⟩
    have hsw110 := hF109.size
    have hRB_111 := hRB_96.fr0 hF109
    have hK_112 := hK_97.fr0 hF109
    have hF0_113 := hF0_98.tr hF109 (fun _ _ => .inl trivial)
    have hB_114 := hB_99.fr0 hF109
    have hFP_115 := hFP_100.tr0 hF109
    have hS9_116 := hS9_101.fr0 hF109
    have hR44_117 := hR44_102.fr0 hF109
    have hE108_118 := hE108.fr0 hF109
    have hbl109 := bkt_lt T.seed ((at_ itI (T.a.getD T.moved []) (i : Int)).1) (n := T.b.length) (by omega)
    refine V.nil ?_
    refine ⟨trivial, ?_⟩
    refine V.ga (v := (.int .i64 ((bkt T.seed T.b.length ((at_ itI (T.a.getD T.moved []) (i : Int)).1) : Nat) : Int))) (sm hz83.p8.p2.p1 rfl) ?_
    refine V.nil ?_
    refine ⟨chk [] trivial (by kernel_rfl), ?_⟩
    refine V.then_n (hK93 _ _ ?_)
    refine V.flushW hz83.p8.p4.p1 (fun a119 hz120 up121 => ?_)
    have s0_122 := up121 0 _ (o8 rfl (o4 rfl (o1 rfl s0_85)))
    have s3_123 := up121 3 _ (o8 rfl (o4 rfl (o1 rfl s3_86)))
    have s4_124 := up121 4 _ (o8 rfl (o4 rfl (o1 rfl s4_87)))
    have s5_125 : a119.eval (.tmp 5) = (.int .i64 ((bkt T.seed T.b.length ((at_ itI (T.a.getD T.moved []) (i : Int)).1) : Nat) : Int)) := up121 _ _ (sm hz83.p8.p4 rfl)
    clear up121
    have hfg := flat_getD xb (bkt T.seed T.b.length ((at_ itI (T.a.getD T.moved []) (i : Int)).1))
    refine V.plan [[], [0], [0, 1], [0, 1, 2], [], [], [5], [5, 6], [5, 6, 7], [], [5, 6, 7, 8, 9], [5, 6, 7, 8, 9, 10], [], [], [12, 13], [12, 13, 14], [12, 13, 14, 15], [5, 6, 7, 8, 9, 10, 11, 12, 13, 14, 15, 16], [0, 1, 2, 3, 4, 5, 6, 7, 8, 9, 10, 11, 12, 13, 14, 15, 16, 17], [0, 1, 2, 3, 4, 5, 6, 7, 8, 9, 10, 11, 12, 13, 14, 15, 16, 17, 18]] [([0, 1, 2, 3, 4, 5, 6, 7, 8, 9, 10, 11, 12, 13, 14, 15], some (16, [3, 8, 11])), ([], some (17, [3])), ([18], some (19, [])), ([], none)] (by kernel_rfl) (by kernel_rfl) (by exact fun _ _ _ _ h => h) ?_
    simp only [Plan.wpSegs, Plan.pickAll, Plan.nth, V.L_eq]
    obtain ⟨w126, hF127e⟩ : ∃ w1, w1 = w110.drew := ⟨_, rfl⟩
    rw [← hF127e]
    have hF127 : Fr [] w110 w126 := by rw [hF127e]; exact Fr.drew _ _
    have hsw126 : w126.heap.size = w110.heap.size := by rw [hF127e]; rfl
    clear hF127e
    have hRB_128 := hRB_111.fr0 hF127
    have hK_129 := hK_112.fr0 hF127
    have hF0_130 := hF0_113.tr hF127 (fun _ _ => .inl trivial)
    have hB_131 := hB_114.fr0 hF127
    have hFP_132 := hFP_115.tr0 hF127
    have hS9_133 := hS9_116.fr0 hF127
    have hR44_134 := hR44_117.fr0 hF127
    have hE108_135 := hE108_118.fr0 hF127
    refine V.gm (s0_122) ?_
    refine V.ge_ [(49, .pointer (some ⟨t, 0, none⟩))] ⟨(sm hz120 rfl), trivial⟩ (.pointer (some ⟨t, 0, none⟩)) ?_
    refine V.ge_ [(50, .pointer (some ⟨t, 0, none⟩))] ⟨(sm hz120.p1 rfl), trivial⟩ (.pointer (some ⟨t, 2, none⟩)) ?_
    refine V.go (V.ld ⟨t, 2, none⟩ (.slice (some ⟨gB, 0, none⟩) T.b.length T.b.length) (sm hz120.p2 rfl) (by kernel_rfl) (hB_131.at 2 rfl) ?_)
    refine V.gm (v := (.int .i64 ((bkt T.seed T.b.length ((at_ itI (T.a.getD T.moved []) (i : Int)).1) : Nat) : Int))) (o4 rfl s5_125) ?_
    refine V.gm (o4 rfl (o1 rfl s0_122)) ?_
    refine V.ge_ [(54, .pointer (some ⟨t, 0, none⟩))] ⟨(sm hz120.p4.p1 rfl), trivial⟩ (.pointer (some ⟨t, 0, none⟩)) ?_
    refine V.ge_ [(55, .pointer (some ⟨t, 0, none⟩))] ⟨(sm hz120.p4.p2 rfl), trivial⟩ (.pointer (some ⟨t, 2, none⟩)) ?_
    refine V.go (V.ld ⟨t, 2, none⟩ (.slice (some ⟨gB, 0, none⟩) T.b.length T.b.length) (sm hz120.p4.p2.p1 rfl) (by kernel_rfl) (hB_131.at 2 rfl) ?_)
    refine V.gm (v := (.int .i64 ((bkt T.seed T.b.length ((at_ itI (T.a.getD T.moved []) (i : Int)).1) : Nat) : Int))) (o8 rfl (o1 rfl s5_125)) ?_
    refine V.go (V.ixa gB 0 T.b.length T.b.length .i64 ((bkt T.seed T.b.length ((at_ itI (T.a.getD T.moved []) (i : Int)).1) : Nat) : Int) 1 (o1 rfl (sm hz120.p8 rfl)) (sm hz120.p8.p1 rfl) (by omega) (by omega) (by kernel_rfl) ?_)
    obtain ⟨A136, c137, hv138⟩ := hK_129.getB hlA2 (i := (bkt T.seed T.b.length ((at_ itI (T.a.getD T.moved []) (i : Int)).1))) (by omega) nilS
    refine V.go (V.ld ⟨gB, 0 + ((bkt T.seed T.b.length ((at_ itI (T.a.getD T.moved []) (i : Int)).1) : Nat) : Int).toNat * 1, none⟩ (.slice A136 ((xb.getD (bkt T.seed T.b.length ((at_ itI (T.a.getD T.moved []) (i : Int)).1)) []).length) c137) (sm hz120.p8.p2 rfl) (by kernel_rfl) ((hRB_128.at (bkt T.seed T.b.length ((at_ itI (T.a.getD T.moved []) (i : Int)).1)) nilS (by omega)).trans (congrArg some hv138)) ?_)
    have hS139 := hK_129.slB hlA2 (i := (bkt T.seed T.b.length ((at_ itI (T.a.getD T.moved []) (i : Int)).1))) (by omega) hv138
    refine V.gm (o8 rfl (o4 rfl s3_123)) ?_
    refine V.gm (o8 rfl (o4 rfl (o1 rfl s4_124))) ?_
    refine V.go (V.ixa g103 o104 ((T.a.getD T.moved []).length) c25 .i64 (i : Int) 2 ((o1 rfl (sm hz120.p8.p4 rfl)).trans (by rw [hA105])) (sm hz120.p8.p4.p1 rfl) (by omega) (by omega) (by kernel_rfl) ?_)
    refine V.go (V.lds ⟨g103, o104 + (i : Int).toNat * 2, none⟩ [.string ((at_ itI (T.a.getD T.moved []) (i : Int)).1), .int .i64 ((at_ itI (T.a.getD T.moved []) (i : Int)).2)] (sm hz120.p8.p4.p2 rfl) (by kernel_rfl) (hE108_135.cells 0 _ rfl) ?_)
    refine V.nil ?_
    refine ⟨chk [(49, .pointer (some ⟨t, 0, none⟩)), (54, .pointer (some ⟨t, 0, none⟩))] ⟨(o8 rfl (o4 rfl (o2 rfl (o1 rfl (sm hz120 rfl))))), (o8 rfl (o2 rfl (sm hz120.p4.p1 rfl))), trivial⟩ (by kernel_rfl), ?_⟩
    refine V.go (V.mk [(64, .agg #[.string ((at_ itI (T.a.getD T.moved []) (i : Int)).1), .int .i64 ((at_ itI (T.a.getD T.moved []) (i : Int)).2)])] ⟨(sm hz120.p8.p4.p2.p1 rfl), trivial⟩ (by kernel_rfl) [.string ((at_ itI (T.a.getD T.moved []) (i : Int)).1), .int .i64 ((at_ itI (T.a.getD T.moved []) (i : Int)).2)] 60 (fun b => .slice (some ⟨b, 0, none⟩) 1 1) (by kernel_rfl) ?_)
    intro w141 b140 heb140 hB142 hF143 hsb140
    have hRB_144 := hRB_128.fr0 hF143
    have hK_145 := hK_129.alloc hF143 heb140 (by omega)
    have hF0_146 := hF0_130.tr hF143 (fun _ _ => .inl trivial)
    have hB_147 := hB_131.fr0 hF143
    have hFP_148 := hFP_132.tr0 hF143
    have hS9_149 := hS9_133.fr0 hF143
    have hR44_150 := hR44_134.fr0 hF143
    have hE108_151 := hE108_135.fr0 hF143
    have hS139_152 := hS139.fr0 hF143
    refine V.nil ?_
    refine ⟨⟨(fun _ => held_blk (n := 1) (hx := (o8 rfl (o4 rfl (o1 rfl (sm hz120.p2 rfl))))) hB_131 hB_147 (by kernel_rfl) rfl (by simp only [List.length]; omega)), (fun _ => held_blk (n := 1) (hx := (o8 rfl (sm hz120.p4.p2.p1 rfl))) hB_131 hB_147 (by kernel_rfl) rfl (by simp only [List.length]; omega)), (fun _ => held_row (hx := (o4 rfl (o1 rfl (sm hz120.p8.p2 rfl)))) hRB_128 hRB_144 (by kernel_rfl) (by omega))⟩, ?_⟩
    refine V.nil ?_
    refine ⟨chk [] trivial (by kernel_rfl), ?_⟩
    refine V.go (V.appRB (R := itI) (ys := ([((at_ itI (T.a.getD T.moved []) (i : Int)).1, (at_ itI (T.a.getD T.moved []) (i : Int)).2)])) (news := [.string ((at_ itI (T.a.getD T.moved []) (i : Int)).1), .int .i64 ((at_ itI (T.a.getD T.moved []) (i : Int)).2)]) hK_145 hlA2 (i := (bkt T.seed T.b.length ((at_ itI (T.a.getD T.moved []) (i : Int)).1))) (by omega) hv138 (o4 rfl (o1 rfl (sm hz120.p8.p2.p1 rfl))) ⟨b140, 0, none⟩ 1 1 (sm hz120.p16 rfl) (by kernel_rfl) (info60) (by kernel_rfl) (by decide) rfl ⟨[.string ((at_ itI (T.a.getD T.moved []) (i : Int)).1), .int .i64 ((at_ itI (T.a.getD T.moved []) (i : Int)).2)], [], rfl, rfl, rfl⟩ (blk_cells hB142 0 _ rfl) (by omega) (by decide) (.inr (by omega)) ?_)
    intro A153 c154 w155 hK156 hF157 ho158
    have hsw155 := hF157.size
    have hRB_159 := hRB_144.fr hF157 (fun hm => (ho158 _ hm).1 (by simp))
    have hF0_160 := hF0_146.tr hF157 (fun _ _ => .inl trivial)
    have hB_161 := hB_147.fr hF157 (fun hm => (ho158 _ hm).1 (by simp))
    have hFP_162 := hFP_148.tr hF157 (fun k hk => ((ho158 k hk).2).imp (fun h => ⟨h, fun hm => (ho158 k hk).1 (by simp [hm])⟩) id)
    have hS9_163 := hS9_149.fr hF157 (fun k hk hz => (ho158 k hk).1 (by simp at hz; simp [hz]))
    have hR44_164 := hR44_150.fr hF157 (fun hm => (ho158 _ hm).1 (by simp))
    refine V.nil ?_
    refine ⟨(fun _ => held_blk (n := 1) (hx := (o8 rfl (o4 rfl (o2 rfl (sm hz120.p2 rfl))))) hB_147 hB_161 (by kernel_rfl) rfl (by simp only [List.length]; omega)), ?_⟩
    refine V.go (V.ixa gB 0 T.b.length T.b.length .i64 ((bkt T.seed T.b.length ((at_ itI (T.a.getD T.moved []) (i : Int)).1) : Nat) : Int) 1 (o8 rfl (o4 rfl (o2 rfl (sm hz120.p2.p1 rfl)))) (o8 rfl (o4 rfl (o1 rfl (sm hz120.p4 rfl)))) (by omega) (by omega) (by kernel_rfl) ?_)
    refine V.nil ?_
    refine ⟨chk [] trivial (by kernel_rfl), ?_⟩
    refine V.go (V.strow (enc := idV) gB (((bkt T.seed T.b.length ((at_ itI (T.a.getD T.moved []) (i : Int)).1) : Nat) : Int).toNat) (.slice A153 ((xb.getD (bkt T.seed T.b.length ((at_ itI (T.a.getD T.moved []) (i : Int)).1)) []).length + 1) c154) (sm hz120.p16.p2 rfl) (o1 rfl (sm hz120.p16.p1 rfl)) rfl rfl (by kernel_rfl) hRB_159 (by first | omega | (simp only [List.length_set, List.length_replicate]; omega)) ?_)
    intro w165 hR166 hF167 hsw165
    have hF0_168 := hF0_160.tr hF167 (fun _ _ => .inl trivial)
    have hB_169 := hB_161.fr1 hF167 (by omega)
    have hFP_170 := hFP_162.tr1 hF167 (by first | exact .inl (by assumption) | exact .inr (by omega) | exact .inl (.inl rfl))
    have hS9_171 := hS9_163.fr hF167 (by intro x hx hz; simp only [List.mem_singleton] at hx; subst hx; first | (have := (hoh _ hz).2; omega) | exact (hoh _ hz).1 (by simp))
    have hR44_172 := hR44_164.fr1 hF167 (by omega)
    have hK156_173 := hK156.fr hF167 (by simp)
    refine V.nil ?_
    refine ⟨trivial, ?_⟩
    refine V.nil ?_
    refine ⟨chk [] trivial (by kernel_rfl), ?_⟩
    refine V.blk_n ?_
    refine V.then_n (hK91 _ _ ?_)
    refine V.flushW hz120.p16.p2.p1 (fun a174 hz175 up176 => ?_)
    have s0_177 := up176 0 _ (o16 rfl (o2 rfl (o1 rfl s0_122)))
    have s3_178 := up176 3 _ (o16 rfl (o2 rfl (o1 rfl s3_123)))
    have s4_179 := up176 4 _ (o16 rfl (o2 rfl (o1 rfl s4_124)))
    clear up176
    refine V.rg ?_
    refine V.gm (s4_179) ?_
    refine V.gf_ [(35, .int .i64 (i : Int))] ⟨(sm hz175 rfl), trivial⟩ (.int .i64 (IntKind.i64.wrap ((i : Int) + 1))) (.int .i64 ((i : Int) + 1)) (V.w_i64 (by omega) (by omega)) ?_
    refine V.ga (sm hz175.p1 rfl) ?_
    refine V.nil ?_
    refine V.then_n ?_
    refine ⟨i + 1, vb.set (((bkt T.seed T.b.length ((at_ itI (T.a.getD T.moved []) (i : Int)).1) : Nat) : Int).toNat) (.slice A153 ((xb.getD (bkt T.seed T.b.length ((at_ itI (T.a.getD T.moved []) (i : Int)).1)) []).length + 1) c154), (xb.set (bkt T.seed T.b.length ((at_ itI (T.a.getD T.moved []) (i : Int)).1)) (xb.getD (bkt T.seed T.b.length ((at_ itI (T.a.getD T.moved []) (i : Int)).1)) [] ++ [((at_ itI (T.a.getD T.moved []) (i : Int)).1, (at_ itI (T.a.getD T.moved []) (i : Int)).2)])), by omega, ?_⟩
    refine ⟨hz175.p2.p1, ?_, ?_, ?_, hR166, (hK156_173.sub (fun k hk => List.mem_cons_of_mem _ (hk)) (fun k _ _ q => q)), hF0_168, hB_169, hFP_170, hS9_171, hR44_172, (by omega), (by simp [hlb]), (by rw [take_at itI (by omega), List.foldl_append, hxb, List.foldl_cons, List.foldl_nil]; unfold putB; rw [hxl])⟩
    · exact (o2 rfl (o1 rfl s0_177))
    · exact (o2 rfl (o1 rfl s3_178))
    · exact Eq.trans (sm hz175.p2 rfl) (V.int_eq (by omega))
   ·
    refine V.exit ?_
    refine V.then_e ?_
    refine V.then_e ?_
    refine V.blk_hit ?_
    refine V.then_n (hK57 _ _ ?_)
    refine V.seq (fun K180 hK181 => ?_)
    have hxe : xb = (movedT T).b := by (rw [← hxb, List.take_of_length_le (by omega)]; rfl)
    have hmb := movedT_b T
    refine V.rg ?_
    refine V.gm (s0_85) ?_
    refine V.ge_ [(68, .pointer (some ⟨t, 0, none⟩))] ⟨(sm hz83 rfl), trivial⟩ (.pointer (some ⟨t, 0, none⟩)) ?_
    refine V.ge_ [(69, .pointer (some ⟨t, 0, none⟩))] ⟨(sm hz83.p1 rfl), trivial⟩ (.pointer (some ⟨t, 3, none⟩)) ?_
    refine V.go (V.ld ⟨t, 3, none⟩ (.int .i64 (T.moved : Int)) (sm hz83.p2 rfl) (by kernel_rfl) (hB_69.at 3 rfl) ?_)
    refine V.gf_ [(71, .int .i64 (T.moved : Int))] ⟨(sm hz83.p2.p1 rfl), trivial⟩ (.int .i64 (IntKind.i64.wrap ((T.moved : Int) + 1))) (.int .i64 ((T.moved : Int) + 1)) (V.w_i64 (by omega) (by omega)) ?_
    refine V.ge_ [(68, .pointer (some ⟨t, 0, none⟩))] ⟨(o4 rfl (sm hz83 rfl)), trivial⟩ (.pointer (some ⟨t, 0, none⟩)) ?_
    refine V.ge_ [(73, .pointer (some ⟨t, 0, none⟩))] ⟨(sm hz83.p4.p1 rfl), trivial⟩ (.pointer (some ⟨t, 3, none⟩)) ?_
    refine V.go (V.stn t 3 (.int .i64 ((T.moved : Int) + 1)) [.int .i64 ((T.moved : Int) + 1)] (sm hz83.p4.p2 rfl) (o2 rfl (sm hz83.p4 rfl)) rfl rfl (by kernel_rfl) hB_69 (by simp) [.int .u64 (T.seed : Int), .slice (some ⟨gA, 0, none⟩) T.a.length T.a.length, .slice (some ⟨gB, 0, none⟩) T.b.length T.b.length, .int .i64 ((T.moved : Int) + 1), .int .i64 (T.n : Int)] rfl ?_)
    intro w182 hB183 hF184 hsw182
    have hRB_185 := hRB_66.fr1 hF184 (by omega)
    have hK_186 := hK_67.fr hF184 (by simp)
    have hF0_187 := hF0_68.tr hF184 (fun _ _ => .inl trivial)
    have hFP_188 := hFP_70.tr1 hF184 (by first | exact .inl (by assumption) | exact .inr (by omega) | exact .inl (.inl rfl))
    have hS9_189 := hS9_71.fr hF184 (by intro x hx hz; simp only [List.mem_singleton] at hx; subst hx; first | (have := (hoh _ hz).2; omega) | exact (hoh _ hz).1 (by simp))
    have hR44_190 := hR44_72.fr1 hF184 (by omega)
    refine V.nil ?_
    refine V.then_n (hK181 _ _ ?_)
    refine V.flushW hz83.p4.p2.p1 (fun a191 hz192 up193 => ?_)
    have s0_194 := up193 0 _ (o4 rfl (o2 rfl (o1 rfl s0_85)))
    clear up193
    refine V.seq (fun K195 hK196 => ?_)
    refine V.seq (fun K197 hK198 => ?_)
    refine V.plan [[], [0], [0, 1], [0, 1, 2], [], [4], [4, 5], [4, 5, 6], [4, 5, 6, 7], [0, 1, 2, 3, 4, 5, 6, 7, 8]] [([0, 1, 2, 3, 4, 5, 6, 7, 8, 9], none)] (by kernel_rfl) (by kernel_rfl) (by exact fun _ _ _ _ h => h) ?_
    simp only [Plan.wpSegs, Plan.pickAll, Plan.nth, V.L_eq]
    obtain ⟨w199, hF200e⟩ : ∃ w1, w1 = w182.drew := ⟨_, rfl⟩
    rw [← hF200e]
    have hF200 : Fr [] w182 w199 := by rw [hF200e]; exact Fr.drew _ _
    have hsw199 : w199.heap.size = w182.heap.size := by rw [hF200e]; rfl
    clear hF200e
    have hRB_201 := hRB_185.fr0 hF200
    have hK_202 := hK_186.fr0 hF200
    have hF0_203 := hF0_187.tr hF200 (fun _ _ => .inl trivial)
    have hFP_204 := hFP_188.tr0 hF200
    have hS9_205 := hS9_189.fr0 hF200
    have hR44_206 := hR44_190.fr0 hF200
    have hB183_207 := hB183.fr0 hF200
    refine V.gm (s0_194) ?_
    refine V.ge_ [(75, .pointer (some ⟨t, 0, none⟩))] ⟨(sm hz192 rfl), trivial⟩ (.pointer (some ⟨t, 0, none⟩)) ?_
    refine V.ge_ [(76, .pointer (some ⟨t, 0, none⟩))] ⟨(sm hz192.p1 rfl), trivial⟩ (.pointer (some ⟨t, 3, none⟩)) ?_
    refine V.go (V.ld ⟨t, 3, none⟩ (.int .i64 ((T.moved : Int) + 1)) (sm hz192.p2 rfl) (by kernel_rfl) (hB183_207.at 3 rfl) ?_)
    refine V.gm (o4 rfl s0_194) ?_
    refine V.ge_ [(79, .pointer (some ⟨t, 0, none⟩))] ⟨(sm hz192.p4 rfl), trivial⟩ (.pointer (some ⟨t, 0, none⟩)) ?_
    refine V.ge_ [(80, .pointer (some ⟨t, 0, none⟩))] ⟨(sm hz192.p4.p1 rfl), trivial⟩ (.pointer (some ⟨t, 1, none⟩)) ?_
    refine V.go (V.ld ⟨t, 1, none⟩ (.slice (some ⟨gA, 0, none⟩) T.a.length T.a.length) (sm hz192.p4.p2 rfl) (by kernel_rfl) (hB183_207.at 1 rfl) ?_)
    refine V.ge_ [(82, .slice (some ⟨gA, 0, none⟩) T.a.length T.a.length)] ⟨(sm hz192.p4.p2.p1 rfl), trivial⟩ (.int .i64 ((T.a.length : Nat) : Int)) ?_
    refine V.gf_ [(78, .int .i64 ((T.moved : Int) + 1)), (83, .int .i64 ((T.a.length : Nat) : Int))] ⟨(o4 rfl (o1 rfl (sm hz192.p2.p1 rfl))), (sm hz192.p8 rfl), trivial⟩ (.bool (((T.moved : Int) + 1) == ((T.a.length : Nat) : Int))) (.bool (decide (((T.moved : Int) + 1) = ((T.a.length : Nat) : Int)))) V.t_eql ?_
    refine V.nil ?_
    refine ⟨chk [(75, .pointer (some ⟨t, 0, none⟩)), (79, .pointer (some ⟨t, 0, none⟩)), (82, .slice (some ⟨gA, 0, none⟩) T.a.length T.a.length), (78, .int .i64 ((T.moved : Int) + 1)), (83, .int .i64 ((T.a.length : Nat) : Int))] ⟨(o8 rfl (o1 rfl (sm hz192 rfl))), (o4 rfl (o1 rfl (sm hz192.p4 rfl))), (o2 rfl (sm hz192.p4.p2.p1 rfl)), (o4 rfl (o2 rfl (sm hz192.p2.p1 rfl))), (o1 rfl (sm hz192.p8 rfl)), trivial⟩ (by kernel_rfl), ?_⟩
    refine V.then_n (hK198 _ _ ?_)
    refine V.flushW hz192.p8.p2 (fun a208 hz209 up210 => ?_)
    have s0_211 := up210 0 _ (o8 rfl (o2 rfl s0_194))
    have s84_212 := up210 84 _ (sm hz192.p8.p1 rfl)
    clear up210
    refine V.condP (p := ((T.moved : Int) + 1) = ((T.a.length : Nat) : Int)) (s84_212) (fun ht213 => ?_) (fun ht213 => ?_)
    ·
     refine V.seq (fun K214 hK215 => ?_)
     refine V.rg ?_
     refine V.gm (s0_211) ?_
     refine V.gm (o1 rfl s0_211) ?_
     refine V.gm (o2 rfl s0_211) ?_
     refine V.gm (o2 rfl (o1 rfl s0_211)) ?_
     refine V.ge_ [(88, .pointer (some ⟨t, 0, none⟩))] ⟨(sm hz209.p2.p1 rfl), trivial⟩ (.pointer (some ⟨t, 0, none⟩)) ?_
     refine V.ge_ [(89, .pointer (some ⟨t, 0, none⟩))] ⟨(sm hz209.p4 rfl), trivial⟩ (.pointer (some ⟨t, 2, none⟩)) ?_
     refine V.go (V.ld ⟨t, 2, none⟩ (.slice (some ⟨gB, 0, none⟩) T.b.length T.b.length) (sm hz209.p4.p1 rfl) (by kernel_rfl) (hB183_207.at 2 rfl) ?_)
     refine V.ge_ [(85, .pointer (some ⟨t, 0, none⟩))] ⟨(o4 rfl (o2 rfl (sm hz209 rfl))), trivial⟩ (.pointer (some ⟨t, 0, none⟩)) ?_
     refine V.ge_ [(92, .pointer (some ⟨t, 0, none⟩))] ⟨(sm hz209.p4.p2.p1 rfl), trivial⟩ (.pointer (some ⟨t, 1, none⟩)) ?_
     refine V.go (V.stn t 1 (.slice (some ⟨gB, 0, none⟩) T.b.length T.b.length) [.slice (some ⟨gB, 0, none⟩) T.b.length T.b.length] (sm hz209.p8 rfl) (o2 rfl (sm hz209.p4.p2 rfl)) rfl rfl (by kernel_rfl) hB183_207 (by simp) [.int .u64 (T.seed : Int), .slice (some ⟨gB, 0, none⟩) T.b.length T.b.length, .slice (some ⟨gB, 0, none⟩) T.b.length T.b.length, .int .i64 ((T.moved : Int) + 1), .int .i64 (T.n : Int)] rfl ?_)
     intro w216 hB217 hF218 hsw216
     have hRB_219 := hRB_201.fr1 hF218 (by omega)
     have hK_220 := hK_202.fr hF218 (by simp)
     have hF0_221 := hF0_203.tr hF218 (fun _ _ => .inl trivial)
     have hFP_222 := hFP_204.tr1 hF218 (by first | exact .inl (by assumption) | exact .inr (by omega) | exact .inl (.inl rfl))
     have hS9_223 := hS9_205.fr hF218 (by intro x hx hz; simp only [List.mem_singleton] at hx; subst hx; first | (have := (hoh _ hz).2; omega) | exact (hoh _ hz).1 (by simp))
     have hR44_224 := hR44_206.fr1 hF218 (by omega)
     refine V.ge_ [(86, .pointer (some ⟨t, 0, none⟩))] ⟨(o4 rfl (o2 rfl (o1 rfl (sm hz209.p1 rfl)))), trivial⟩ (.pointer (some ⟨t, 0, none⟩)) ?_
     refine V.ge_ [(94, .pointer (some ⟨t, 0, none⟩))] ⟨(sm hz209.p8.p1 rfl), trivial⟩ (.pointer (some ⟨t, 2, none⟩)) ?_
     refine V.go (V.stn t 2 (.slice none 0 0) [.slice none 0 0] (sm hz209.p8.p2 rfl) evc rfl rfl (by kernel_rfl) hB217 (by simp) [.int .u64 (T.seed : Int), .slice (some ⟨gB, 0, none⟩) T.b.length T.b.length, .slice none 0 0, .int .i64 ((T.moved : Int) + 1), .int .i64 (T.n : Int)] rfl ?_)
     intro w225 hB226 hF227 hsw225
     have hRB_228 := hRB_219.fr1 hF227 (by omega)
     have hK_229 := hK_220.fr hF227 (by simp)
     have hF0_230 := hF0_221.tr hF227 (fun _ _ => .inl trivial)
     have hFP_231 := hFP_222.tr1 hF227 (by first | exact .inl (by assumption) | exact .inr (by omega) | exact .inl (.inl rfl))
     have hS9_232 := hS9_223.fr hF227 (by intro x hx hz; simp only [List.mem_singleton] at hx; subst hx; first | (have := (hoh _ hz).2; omega) | exact (hoh _ hz).1 (by simp))
     have hR44_233 := hR44_224.fr1 hF227 (by omega)
     refine V.ge_ [(87, .pointer (some ⟨t, 0, none⟩))] ⟨(o8 rfl (sm hz209.p2 rfl)), trivial⟩ (.pointer (some ⟨t, 0, none⟩)) ?_
     refine V.ge_ [(96, .pointer (some ⟨t, 0, none⟩))] ⟨(sm hz209.p8.p2.p1 rfl), trivial⟩ (.pointer (some ⟨t, 3, none⟩)) ?_
     refine V.go (V.stn t 3 (.int .i64 0) [.int .i64 0] (sm hz209.p8.p4 rfl) evc rfl rfl (by kernel_rfl) hB226 (by simp) [.int .u64 (T.seed : Int), .slice (some ⟨gB, 0, none⟩) T.b.length T.b.length, .slice none 0 0, .int .i64 0, .int .i64 (T.n : Int)] rfl ?_)
     intro w234 hB235 hF236 hsw234
     have hRB_237 := hRB_228.fr1 hF236 (by omega)
     have hK_238 := hK_229.fr hF236 (by simp)
     have hF0_239 := hF0_230.tr hF236 (fun _ _ => .inl trivial)
     have hFP_240 := hFP_231.tr1 hF236 (by first | exact .inl (by assumption) | exact .inr (by omega) | exact .inl (.inl rfl))
     have hS9_241 := hS9_232.fr hF236 (by intro x hx hz; simp only [List.mem_singleton] at hx; subst hx; first | (have := (hoh _ hz).2; omega) | exact (hoh _ hz).1 (by simp))
     have hR44_242 := hR44_233.fr1 hF236 (by omega)
     refine V.nil ?_
     refine V.then_n (hK215 _ _ ?_)
     refine V.flushW hz209.p8.p4.p1 (fun a243 hz244 up245 => ?_)
     have s0_246 := up245 0 _ (o8 rfl (o4 rfl (o1 rfl s0_211)))
     clear up245
     refine V.seq (fun K247 hK248 => ?_)
     refine V.plan [[], [0], [0, 1], [0, 1, 2], [], [4], [4, 5], [4, 5, 6], [4, 5, 6, 7], [0, 1, 2, 3, 4, 5, 6, 7, 8]] [([0, 1, 2, 3, 4, 5, 6, 7, 8, 9], none)] (by kernel_rfl) (by kernel_rfl) (by exact fun _ _ _ _ h => h) ?_
     simp only [Plan.wpSegs, Plan.pickAll, Plan.nth, V.L_eq]
     obtain ⟨w249, hF250e⟩ : ∃ w1, w1 = w234.drew := ⟨_, rfl⟩
     rw [← hF250e]
     have hF250 : Fr [] w234 w249 := by rw [hF250e]; exact Fr.drew _ _
     have hsw249 : w249.heap.size = w234.heap.size := by rw [hF250e]; rfl
     clear hF250e
     have hRB_251 := hRB_237.fr0 hF250
     have hK_252 := hK_238.fr0 hF250
     have hF0_253 := hF0_239.tr hF250 (fun _ _ => .inl trivial)
     have hFP_254 := hFP_240.tr0 hF250
     have hS9_255 := hS9_241.fr0 hF250
     have hR44_256 := hR44_242.fr0 hF250
     have hB235_257 := hB235.fr0 hF250
     refine V.gm (s0_246) ?_
     refine V.ge_ [(98, .pointer (some ⟨t, 0, none⟩))] ⟨(sm hz244 rfl), trivial⟩ (.pointer (some ⟨t, 0, none⟩)) ?_
     refine V.ge_ [(99, .pointer (some ⟨t, 0, none⟩))] ⟨(sm hz244.p1 rfl), trivial⟩ (.pointer (some ⟨t, 4, none⟩)) ?_
     refine V.go (V.ld ⟨t, 4, none⟩ (.int .i64 (T.n : Int)) (sm hz244.p2 rfl) (by kernel_rfl) (hB235_257.at 4 rfl) ?_)
     refine V.gm (o4 rfl s0_246) ?_
     refine V.ge_ [(102, .pointer (some ⟨t, 0, none⟩))] ⟨(sm hz244.p4 rfl), trivial⟩ (.pointer (some ⟨t, 0, none⟩)) ?_
     refine V.ge_ [(103, .pointer (some ⟨t, 0, none⟩))] ⟨(sm hz244.p4.p1 rfl), trivial⟩ (.pointer (some ⟨t, 1, none⟩)) ?_
     refine V.go (V.ld ⟨t, 1, none⟩ (.slice (some ⟨gB, 0, none⟩) T.b.length T.b.length) (sm hz244.p4.p2 rfl) (by kernel_rfl) (hB235_257.at 1 rfl) ?_)
     refine V.ge_ [(105, .slice (some ⟨gB, 0, none⟩) T.b.length T.b.length)] ⟨(sm hz244.p4.p2.p1 rfl), trivial⟩ (.int .i64 ((T.b.length : Nat) : Int)) ?_
     refine V.ge_ [(101, .int .i64 (T.n : Int)), (106, .int .i64 ((T.b.length : Nat) : Int))] ⟨(o4 rfl (o1 rfl (sm hz244.p2.p1 rfl))), (sm hz244.p8 rfl), trivial⟩ (.bool (decide ((T.n : Int) > ((T.b.length : Nat) : Int)))) ?_
     refine V.nil ?_
     refine ⟨chk [(98, .pointer (some ⟨t, 0, none⟩)), (102, .pointer (some ⟨t, 0, none⟩)), (105, .slice (some ⟨gB, 0, none⟩) T.b.length T.b.length), (101, .int .i64 (T.n : Int)), (106, .int .i64 ((T.b.length : Nat) : Int))] ⟨(o8 rfl (o1 rfl (sm hz244 rfl))), (o4 rfl (o1 rfl (sm hz244.p4 rfl))), (o2 rfl (sm hz244.p4.p2.p1 rfl)), (o4 rfl (o2 rfl (sm hz244.p2.p1 rfl))), (o1 rfl (sm hz244.p8 rfl)), trivial⟩ (by kernel_rfl), ?_⟩
     refine V.then_n (hK248 _ _ ?_)
     refine V.flushW hz244.p8.p2 (fun a258 hz259 up260 => ?_)
     have s0_261 := up260 0 _ (o8 rfl (o2 rfl s0_246))
     have s107_262 := up260 107 _ (sm hz244.p8.p1 rfl)
     clear up260
     refine V.condP (p := (T.n : Int) > ((T.b.length : Nat) : Int)) (s107_262) (fun ht263 => ?_) (fun ht263 => ?_)
     ·
      refine V.rg ?_
      refine V.gm (s0_261) ?_
      refine V.gm (o1 rfl s0_261) ?_
      refine V.ge_ [(109, .pointer (some ⟨t, 0, none⟩))] ⟨(sm hz259.p1 rfl), trivial⟩ (.pointer (some ⟨t, 0, none⟩)) ?_
      refine V.ge_ [(110, .pointer (some ⟨t, 0, none⟩))] ⟨(sm hz259.p2 rfl), trivial⟩ (.pointer (some ⟨t, 1, none⟩)) ?_
      refine V.go (V.ld ⟨t, 1, none⟩ (.slice (some ⟨gB, 0, none⟩) T.b.length T.b.length) (sm hz259.p2.p1 rfl) (by kernel_rfl) (hB235_257.at 1 rfl) ?_)
      refine V.ge_ [(112, .slice (some ⟨gB, 0, none⟩) T.b.length T.b.length)] ⟨(sm hz259.p4 rfl), trivial⟩ (.int .i64 ((T.b.length : Nat) : Int)) ?_
      refine V.go (V.mulN 2 T.b.length evc (sm hz259.p4.p1 rfl) (by omega) ?_)
      refine V.go (V.mks (enc := idV) (2 * T.b.length) (.slice none 0 0) nilS 24 ((sm hz259.p4.p2 rfl).trans (V.int_eq (by omega))) ((sm hz259.p4.p2 rfl).trans (V.int_eq (by omega))) (by kernel_rfl) info42 rfl rfl (by omega) (by omega) ?_)
      intro w265 b264 heb264 hR266 hF267
      have hsb264 := hR266.lt
      have hRB_268 := hRB_251.fr0 hF267
      have hK_269 := hK_252.alloc hF267 heb264 (by omega)
      have hF0_270 := hF0_253.tr hF267 (fun _ _ => .inl trivial)
      have hFP_271 := hFP_254.tr0 hF267
      have hS9_272 := hS9_255.fr0 hF267
      have hR44_273 := hR44_256.fr0 hF267
      have hB235_274 := hB235_257.fr0 hF267
      refine V.ge_ [(108, .pointer (some ⟨t, 0, none⟩))] ⟨(o4 rfl (o2 rfl (o1 rfl (sm hz259 rfl)))), trivial⟩ (.pointer (some ⟨t, 0, none⟩)) ?_
      refine V.ge_ [(116, .pointer (some ⟨t, 0, none⟩))] ⟨(sm hz259.p8 rfl), trivial⟩ (.pointer (some ⟨t, 2, none⟩)) ?_
      refine V.go (V.stn t 2 (.slice (some ⟨b264, 0, none⟩) (2 * T.b.length) (2 * T.b.length)) [.slice (some ⟨b264, 0, none⟩) (2 * T.b.length) (2 * T.b.length)] (sm hz259.p8.p1 rfl) (o2 rfl (sm hz259.p4.p2.p1 rfl)) rfl rfl (by kernel_rfl) hB235_274 (by simp) [.int .u64 (T.seed : Int), .slice (some ⟨gB, 0, none⟩) T.b.length T.b.length, .slice (some ⟨b264, 0, none⟩) (2 * T.b.length) (2 * T.b.length), .int .i64 0, .int .i64 (T.n : Int)] rfl ?_)
      intro w275 hB276 hF277 hsw275
      have hRB_278 := hRB_268.fr1 hF277 (by omega)
      have hK_279 := hK_269.fr hF277 (by simp)
      have hF0_280 := hF0_270.tr hF277 (fun _ _ => .inl trivial)
      have hFP_281 := hFP_271.tr1 hF277 (by first | exact .inl (by assumption) | exact .inr (by omega) | exact .inl (.inl rfl))
      have hS9_282 := hS9_272.fr hF277 (by intro x hx hz; simp only [List.mem_singleton] at hx; subst hx; first | (have := (hoh _ hz).2; omega) | exact (hoh _ hz).1 (by simp))
      have hR44_283 := hR44_273.fr1 hF277 (by omega)
      have hR266_284 := hR266.fr1 hF277 (by omega)
      refine V.nil ?_
      refine V.then_n (hK196 _ _ ?_)
      refine V.flushW hz259.p8.p2 (fun a285 hz286 up287 => ?_)
      have s0_288 := up287 0 _ (o8 rfl (o2 rfl s0_261))
      clear up287
      refine V.seq (fun K289 hK290 => ?_)
      refine V.rg ?_
      refine V.gm (s0_288) ?_
      refine V.ge_ [(118, .pointer (some ⟨t, 0, none⟩))] ⟨(sm hz286 rfl), trivial⟩ (.pointer (some ⟨t, 0, none⟩)) ?_
      refine V.ge_ [(119, .pointer (some ⟨t, 0, none⟩))] ⟨(sm hz286.p1 rfl), trivial⟩ (.pointer (some ⟨t, 2, none⟩)) ?_
      refine V.go (V.ld ⟨t, 2, none⟩ (.slice (some ⟨b264, 0, none⟩) (2 * T.b.length) (2 * T.b.length)) (sm hz286.p2 rfl) (by kernel_rfl) (hB276.at 2 rfl) ?_)
      refine V.ge_ [(121, .slice (some ⟨b264, 0, none⟩) (2 * T.b.length) (2 * T.b.length))] ⟨(sm hz286.p2.p1 rfl), trivial⟩ (.int .i64 ((2 * T.b.length : Nat) : Int)) ?_
      refine V.ge_ [(122, .int .i64 ((2 * T.b.length : Nat) : Int))] ⟨(sm hz286.p4 rfl), trivial⟩ (.bool (decide (((2 * T.b.length : Nat) : Int) > 0))) ?_
      refine V.ga (sm hz286.p4.p1 rfl) ?_
      refine V.nil ?_
      refine V.then_n (hK290 _ _ ?_)
      refine V.flushW hz286.p4.p2.p1 (fun a291 hz292 up293 => ?_)
      have s2_294 := up293 2 _ (sm hz286.p4.p2 rfl)
      clear up293
      refine V.ret ?_
      refine V.ret1 hz292 rfl (s2_294) ?_
      have hst : tbStep T = startT (swapT (movedT T)) (2 * (movedT T).b.length) := by (unfold tbStep; rw [if_neg hb, if_neg (by omega), if_pos (by omega)])
      have hsok := (tbStep_ok hok hm).1
      rw [hst] at hsok ⊢
      have hKd295 := hK_279.dropNil hlA2
      have hKa296 := hKd295.addNil (2 * T.b.length)
      have hsb : (startT (swapT (movedT T)) (2 * (movedT T).b.length)).b.length = 2 * T.b.length := by rw [← hmb]; simp [startT]
      have hsb2 : (startT (swapT (movedT T)) (2 * (movedT T).b.length)).b.length ≠ 0 := by omega
      exact ⟨congrArg (fun b => Ending.returned (Value.bool b)) (decide_eq_decide.2 ⟨fun _ => by omega, fun _ => by omega⟩), TabM.fin (T := (startT (swapT (movedT T)) (2 * (movedT T).b.length))) hsok (fun h => hsb2 (by rw [h]; rfl)) hB276 hRB_278 hR266_284 hlb hKa296 (mem4 (l := (b264 :: ((Value.slice A24 ((T.a.getD T.moved []).length) c25).ownBlock.toList ++ (t :: gA :: gB :: av)))) (by simp) (by simp) (by simp) (by intro k hk; simp [hk])) (by first | assumption | omega) (by first | assumption | omega) (by first | assumption | omega) hpt ⟨.inl hph.1, hph.2⟩ ⟨.inr (by omega), fun hm => by have := hK0 _ hm; omega⟩ rfl (movedT_b T).symm rfl rfl hxe (by rw [← hmb]; rfl) hsb.symm, hFP_281⟩
     ·
      refine V.skip ?_
      refine V.then_n (hK196 _ _ ?_)
      refine V.seq (fun K297 hK298 => ?_)
      refine V.rg ?_
      refine V.gm (s0_261) ?_
      refine V.ge_ [(118, .pointer (some ⟨t, 0, none⟩))] ⟨(sm hz259 rfl), trivial⟩ (.pointer (some ⟨t, 0, none⟩)) ?_
      refine V.ge_ [(119, .pointer (some ⟨t, 0, none⟩))] ⟨(sm hz259.p1 rfl), trivial⟩ (.pointer (some ⟨t, 2, none⟩)) ?_
      refine V.go (V.ld ⟨t, 2, none⟩ (.slice none 0 0) (sm hz259.p2 rfl) (by kernel_rfl) (hB235_257.at 2 rfl) ?_)
      refine V.ge_ [(121, .slice none 0 0)] ⟨(sm hz259.p2.p1 rfl), trivial⟩ (.int .i64 0) ?_
      refine V.ge_ [(122, .int .i64 0)] ⟨(sm hz259.p4 rfl), trivial⟩ (.bool false) ?_
      refine V.ga (sm hz259.p4.p1 rfl) ?_
      refine V.nil ?_
      refine V.then_n (hK298 _ _ ?_)
      refine V.flushW hz259.p4.p2.p1 (fun a299 hz300 up301 => ?_)
      have s2_302 := up301 2 _ (sm hz259.p4.p2 rfl)
      clear up301
      refine V.ret ?_
      refine V.ret1 hz300 rfl (s2_302) ?_
      have hst : tbStep T = swapT (movedT T) := by (unfold tbStep; rw [if_neg hb, if_neg (by omega), if_neg (by omega)])
      have hsok := (tbStep_ok hok hm).1
      rw [hst] at hsok ⊢
      have hKd303 := hK_252.dropNil hlA2
      exact ⟨rfl, TabN.fin (T := (swapT (movedT T))) hsok rfl hB235_257 hRB_251 hKd303 (mem3 (l := (((Value.slice A24 ((T.a.getD T.moved []).length) c25).ownBlock.toList ++ (t :: gA :: gB :: av)))) (by simp) (by simp) (by intro k hk; simp [hk])) (by first | assumption | exact Ne.symm (by assumption) | omega) hpt ⟨.inl hph.1, hph.2⟩ rfl (movedT_b T).symm rfl rfl hxe, hFP_254⟩
    ·
     refine V.skip ?_
     refine V.then_n (hK196 _ _ ?_)
     refine V.seq (fun K304 hK305 => ?_)
     refine V.rg ?_
     refine V.gm (s0_211) ?_
     refine V.ge_ [(118, .pointer (some ⟨t, 0, none⟩))] ⟨(sm hz209 rfl), trivial⟩ (.pointer (some ⟨t, 0, none⟩)) ?_
     refine V.ge_ [(119, .pointer (some ⟨t, 0, none⟩))] ⟨(sm hz209.p1 rfl), trivial⟩ (.pointer (some ⟨t, 2, none⟩)) ?_
     refine V.go (V.ld ⟨t, 2, none⟩ (.slice (some ⟨gB, 0, none⟩) T.b.length T.b.length) (sm hz209.p2 rfl) (by kernel_rfl) (hB183_207.at 2 rfl) ?_)
     refine V.ge_ [(121, .slice (some ⟨gB, 0, none⟩) T.b.length T.b.length)] ⟨(sm hz209.p2.p1 rfl), trivial⟩ (.int .i64 ((T.b.length : Nat) : Int)) ?_
     refine V.ge_ [(122, .int .i64 ((T.b.length : Nat) : Int))] ⟨(sm hz209.p4 rfl), trivial⟩ (.bool (decide (((T.b.length : Nat) : Int) > 0))) ?_
     refine V.ga (sm hz209.p4.p1 rfl) ?_
     refine V.nil ?_
     refine V.then_n (hK305 _ _ ?_)
     refine V.flushW hz209.p4.p2.p1 (fun a306 hz307 up308 => ?_)
     have s2_309 := up308 2 _ (sm hz209.p4.p2 rfl)
     clear up308
     refine V.ret ?_
     refine V.ret1 hz307 rfl (s2_309) ?_
     have hst : tbStep T = movedT T := by (unfold tbStep; rw [if_neg hb, if_pos (by omega)])
     have hsok := (tbStep_ok hok hm).1
     rw [hst] at hsok ⊢
     exact ⟨congrArg (fun b => Ending.returned (Value.bool b)) (decide_eq_decide.2 ⟨fun _ => by omega, fun _ => by omega⟩), TabM.fin (T := (movedT T)) hsok (fun h => hb (by rw [← movedT_b, h]; rfl)) hB183_207 hR44_206 hRB_201 hlA2 hK_202 (mem4 (l := (((Value.slice A24 ((T.a.getD T.moved []).length) c25).ownBlock.toList ++ (t :: gA :: gB :: av)))) (by simp) (by simp) (by simp) (by intro k hk; simp [hk])) (by first | assumption | omega) (by first | assumption | omega) (by first | assumption | omega) hpt ⟨.inl hpg.1, hpg.2⟩ ⟨.inl hph.1, hph.2⟩ rfl (movedT_a T).symm (by simp [movedT]) rfl rfl hxe (movedT_b T).symm, hFP_204⟩
end Go.Proofs.Ytalhmegjomfbaaa
