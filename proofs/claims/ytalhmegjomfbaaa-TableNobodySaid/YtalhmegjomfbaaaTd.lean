/- Walks: Put. -/
import Derived.Test.YtalhmegjomfbaaaProg
import Derived.Test.YtalhmegjomfbaaaTc
namespace Go.Proofs.Ytalhmegjomfbaaa
open Go.V Go.Base
open Go.RowKit (Below)
attribute [local irreducible] Act.put Act.eval
set_option linter.unusedVariables false
set_option linter.unusedSimpArgs false
set_option maxHeartbeats 4000000 in
set_option maxRecDepth 20000 in
theorem step_N (w : World) (H : Nat → Prop) (av : List Nat) (t gA : Nat) (vsA : List Value) (T : Tb Int) (hok : T.Ok) (hT : TabN 67 87 86 itI w H av t gA vsA T) : Calls Try.prog 64 #[.pointer (some ⟨t, 0, none⟩)] w (fun e w' => e = .returned (.tuple #[]) ∧ Fr [] w w') := by
 have hF := Fr.refl [] w
 obtain ⟨hsd, hpa, hla, hlb, hmv, hmz, hnn, hcn, hks⟩ := hok
 obtain ⟨hB, hRA, hlA, hK, hne, hpt, hpg⟩ := hT
 have hltt := hB.lt
 have hltg := hRA.lt
 refine V.enter 111 Try.func64 rfl rfl ?_
 intro a hz ha
 have s0 : a.eval (.tmp 0) = (.pointer (some ⟨t, 0, none⟩)) := ha 0 _ rfl
 clear ha
 refine V.seq (fun K1 hK2 => ?_)
 refine V.seq (fun K3 hK4 => ?_)
 refine V.rg ?_
 refine V.gm (s0) ?_
 refine V.go (V.call 65 #[] #[.pointer (some ⟨t, 0, none⟩)] evf (args1 (sm hz rfl)) (Go.Proofs.enters_of Try.func65 (by kernel_rfl) rfl) (moves_N w t T.seed T.a.length 0 0 gA 0 (.int .i64 (T.moved : Int)) (.int .i64 (T.n : Int)) hB) ?_)
 rintro _ w6 ⟨rfl, hF5⟩
 refine ⟨_, rfl, ?_⟩
 have hsw6 := hF5.size
 have hF_7 := hF.new hF5
 have hB_8 := hB.fr0 hF5
 have hRA_9 := hRA.fr0 hF5
 have hK_10 := hK.fr0 hF5
 refine V.ge_ [(6, .bool false)] ⟨(sm hz.p1 rfl), trivial⟩ (.bool true) ?_
 refine V.nil ?_
 refine V.then_n (hK4 _ _ ?_)
 refine V.cond_t (sm hz.p2 rfl) ?_
 refine V.ret ?_
 refine V.then_r ?_
 refine V.ret0 hz.p2.p1 rfl ?_
 exact ⟨rfl, hF_7⟩
section
variable {w : World} {H : Nat → Prop} {av : List Nat} {t : Nat} {T : Tb Int}
theorem made_any (w : World) (H : Nat → Prop) (av : List Nat) (t : Nat) (T : Tb Int) (hT : TabX 67 87 86 itI w H av t T) : Calls Try.prog 51 #[.pointer (some ⟨t, 0, none⟩)] w (fun e w' => e = .returned (.bool true) ∧ Fr [] w w') := by
  rcases hT.2 with ⟨_, gA, vsA, h⟩ | ⟨_, gA, gB, vsA, vsB, h⟩
  · exact made_N w t T.seed T.a.length 0 0 gA 0 _ _ h.blk
  · exact made_M w t T.seed T.a.length T.b.length 0 gA gB _ _ h.blk
theorem moves_any (w : World) (H : Nat → Prop) (av : List Nat) (t : Nat) (T : Tb Int) (hT : TabX 67 87 86 itI w H av t T) : Calls Try.prog 65 #[.pointer (some ⟨t, 0, none⟩)] w (fun e w' => e = .returned (.bool (decide (T.b.length ≠ 0))) ∧ Fr [] w w') := by
  rcases hT.2 with ⟨hb, gA, vsA, h⟩ | ⟨hb, gA, gB, vsA, vsB, h⟩
  · rw [hb]; exact moves_N w t T.seed T.a.length 0 0 gA 0 _ _ h.blk
  · rw [decide_eq_true (show T.b.length ≠ 0 from fun h => hb (List.eq_nil_of_length_eq_zero h))]; exact moves_M w t T.seed T.a.length T.b.length 0 gA gB _ _ h.blk
theorem find_any (w : World) (H : Nat → Prop) (av : List Nat) (t : Nat) (T : Tb Int) (hT : TabX 67 87 86 itI w H av t T) (k : ByteArray) (hk : k.size ≤ 9223372036854775807) :
    Calls Try.prog 53 #[.pointer (some ⟨t, 0, none⟩), .string k] w (fun e w' => e = .returned (.tuple #[.agg #[.int .i64 (findT T k).1.1, .int .i64 (findT T k).1.2.1, .int .i64 (findT T k).1.2.2], .bool (findT T k).2]) ∧ Fr [] w w') := by
  rcases hT.2 with ⟨hb, gA, vsA, h⟩ | ⟨hb, gA, gB, vsA, vsB, h⟩
  · exact find_N w H av t gA vsA T hT.1 h k hk (by rw [hb]; rfl)
  · exact find_M w H av t gA gB vsA vsB T hT.1 h k hk (fun h => hb (List.eq_nil_of_length_eq_zero h))
theorem step_any (w : World) (H : Nat → Prop) (av : List Nat) (t : Nat) (T : Tb Int) (hT : TabX 67 87 86 itI w H av t T) (hm : T.Mv) :
    Calls Try.prog 64 #[.pointer (some ⟨t, 0, none⟩)] w (fun e w' => e = .returned (.tuple #[]) ∧ TabX 67 87 86 itI w' (gr H w w') av t (tbStep T) ∧ FrP (gp H av) w w') := by
  rcases hT.2 with ⟨hb, gA, vsA, h⟩ | ⟨hb, gA, gB, vsA, vsB, h⟩
  · refine (step_N w H av t gA vsA T hT.1 h).mono fun e w' q => ⟨q.1, ?_, (FrP.refl _ _).tr0 q.2⟩
    rw [show tbStep T = T from by unfold tbStep; rw [if_pos (by rw [hb]; rfl)]]
    exact (hT.fr0 q.2).gr1
  · exact step_M w H av t gA gB vsA vsB T hT.1 h (fun h => hb (List.eq_nil_of_length_eq_zero h)) hm
end
theorem insT_ok0 {α : Type} {T : Tb α} (h : T.Ok) (hb : T.b.length = 0) (hn : T.n < 1099511627776) (k : ByteArray) (hk : k.size ≤ 9223372036854775807) (v : α) : ({ T with a := putB T.seed T.a (k, v), n := T.n + 1 } : Tb α).Ok := by
  have hs := h.sum
  exact ⟨h.sd, by show 0 < (putB _ _ _).length; rw [putB_length]; exact h.pa, by show (putB _ _ _).length ≤ _; rw [putB_length]; exact h.la, h.lb, fun h0 => absurd hb h0, fun _ => h.mz hb, by show T.n + 1 ≤ _; omega, by
    show (putB T.seed T.a (k, v) ++ T.b).flatten.length = T.n + 1
    rw [List.flatten_append, List.length_append, putB_flat h.pa]; omega, KsR.put h.ks.1 hk, h.ks.2⟩
theorem tbStep_n {α : Type} (T : Tb α) : (tbStep T).n = T.n := by
  unfold tbStep
  split
  · rfl
  · split
    · rfl
    · split <;> rfl
set_option maxHeartbeats 4000000 in
set_option maxRecDepth 20000 in
theorem put_any (w : World) (H : Nat → Prop) (av : List Nat) (t : Nat) (T : Tb Int) (hT : TabX 67 87 86 itI w H av t T) (hm : T.Mv) (k : ByteArray) (hkz : k.size ≤ 9223372036854775807) (v : Int) (hv : -9223372036854775808 ≤ v ∧ v ≤ 9223372036854775807) (hn : T.n < 1099511627776) : Calls Try.prog 38 #[.pointer (some ⟨t, 0, none⟩), .string k, .int .i64 v] w (fun e w' => e = .returned (.bool (findT (tbStep T) k).2) ∧ TabX 67 87 86 itI w' (gr H w w') av t (putT T k v) ∧ FrP (gp H av) w w') := by
 have hFP := FrP.refl (gp H av) w
 obtain ⟨hok0, hm1⟩ := tbStep_ok hT.1 hm
 obtain ⟨T1, hT1⟩ : ∃ T1, T1 = tbStep T := ⟨_, rfl⟩
 rw [← hT1] at hok0 hm1 ⊢
 have hn1 : T1.n < 1099511627776 := by rw [hT1, tbStep_n]; exact hn
 refine V.enter 99 Try.func38 rfl rfl ?_
 intro a hz ha
 have s0 : a.eval (.tmp 0) = (.pointer (some ⟨t, 0, none⟩)) := ha 0 _ rfl
 have s1 : a.eval (.tmp 1) = (.string k) := ha 1 _ rfl
 have s2 : a.eval (.tmp 2) = (.int .i64 v) := ha 2 _ rfl
 clear ha
 refine V.seq (fun K1 hK2 => ?_)
 refine V.rg ?_
 refine V.ga evc ?_
 refine V.nil ?_
 refine V.then_n (hK2 _ _ ?_)
 refine V.seq (fun K3 hK4 => ?_)
 refine V.seq (fun K5 hK6 => ?_)
 refine V.rg ?_
 refine V.gm (o1 rfl s0) ?_
 refine V.go (V.call 51 #[] #[.pointer (some ⟨t, 0, none⟩)] evf (args1 (sm hz.p1 rfl)) (Go.Proofs.enters_of Try.func51 (by kernel_rfl) rfl) (made_any w (H) (av) t (T) hT) ?_)
 rintro _ w8 ⟨rfl, hF7⟩
 refine ⟨_, rfl, ?_⟩
 have hsw8 := hF7.size
 have hT_9 := hT.fr0 hF7
 have hFP_10 := hFP.tr0 hF7
 refine V.ge_ [(12, .bool true)] ⟨(sm hz.p2 rfl), trivial⟩ (.bool false) ?_
 refine V.nil ?_
 refine V.then_n (hK6 _ _ ?_)
 refine V.flushW hz.p4 (fun a11 hz12 up13 => ?_)
 have s0_14 := up13 0 _ (o4 rfl s0)
 have s1_15 := up13 1 _ (o4 rfl s1)
 have s2_16 := up13 2 _ (o4 rfl s2)
 have s13_17 := up13 13 _ (sm hz.p2.p1 rfl)
 clear up13
 refine V.cond_f (s13_17) ?_
 refine V.skip ?_
 refine V.then_n (hK4 _ _ ?_)
 refine V.seq (fun K18 hK19 => ?_)
 refine V.rg ?_
 refine V.gm (s0_14) ?_
 refine V.go (V.call 64 #[] #[.pointer (some ⟨t, 0, none⟩)] evf (args1 (sm hz12 rfl)) (Go.Proofs.enters_of Try.func64 (by kernel_rfl) rfl) (step_any w8 (H) (av) t (T) hT_9 hm) ?_)
 rintro _ w22 ⟨rfl, hT20, hfp21⟩
 refine ⟨_, rfl, ?_⟩
 have hsw22 := hfp21.size
 have hFP_23 := hFP_10.trP hfp21 (fun k hk => .inl hk)
 have hT20q := hT20.grm (w := w) (by omega)
 rw [← hT1] at hT20q
 refine V.nil ?_
 refine V.then_n (hK19 _ _ ?_)
 refine V.seq (fun K24 hK25 => ?_)
 refine V.seq (fun K26 hK27 => ?_)
 refine V.rg ?_
 refine V.gm (o2 rfl s0_14) ?_
 refine V.gm (o2 rfl (o1 rfl s1_15)) ?_
 have hok1 := hT20q.1
 rcases findT_cases hok1 k with hf | ⟨j, hf, hj⟩ | ⟨hbn, j, hf, hj⟩
 ·
  rcases hT20q.2 with ⟨hb0, gA, vsA, hN⟩ | ⟨hb0, gA, gB, vsA, vsB, hN⟩
  ·
   have hb1 : T1.b.length = 0 := by rw [hb0]; rfl
   obtain ⟨hB, hRA, hlA, hK, hne, hpt, hpg⟩ := hN
   replace hK := hK.toH
   have hltt := hB.lt
   have hltg := hRA.lt
   have hE : FrP (gp (gr H w w22) av) w22 w22 := FrP.refl _ _
   have hK0 : ∀ k ∈ av, k < w22.heap.size := fun k hk => hK.avl k (by simp [hk])
   obtain ⟨hsd, hpa, hla, hlb, hmv, hmz, hnn, hcn, hks⟩ := (show T1.Ok from hok1)
   have hbl := hok1.bl
   have hFPE := hFP_23
   refine V.go (V.call 53 #[] #[.pointer (some ⟨t, 0, none⟩), .string k] evf (args2 (o1 rfl (sm hz12.p2 rfl)) (sm hz12.p2.p1 rfl)) (Go.Proofs.enters_of Try.func53 (by kernel_rfl) rfl) (by have h := find_any w22 (gr H w w22) (av) t T1 hT20q k hkz; rw [hf] at h; exact h) ?_)
   rintro _ w29 ⟨rfl, hF28⟩
   refine ⟨_, rfl, ?_⟩
   have hsw29 := hF28.size
   have hB_30 := hB.fr0 hF28
   have hRA_31 := hRA.fr0 hF28
   have hK_32 := hK.fr0 hF28
   have hE_33 := hE.tr0 hF28
   refine V.gm (sm hz12.p4 rfl) ?_
   refine V.ge_ [(16, .tuple #[.agg #[.int .i64 0, .int .i64 0, .int .i64 0], .bool false])] ⟨(sm hz12.p4.p1 rfl), trivial⟩ (.agg #[.int .i64 0, .int .i64 0, .int .i64 0]) ?_
   refine V.ge_ [(16, .tuple #[.agg #[.int .i64 0, .int .i64 0, .int .i64 0], .bool false])] ⟨(o1 rfl (sm hz12.p4.p1 rfl)), trivial⟩ (.bool false) ?_
   refine V.go (V.mk [] trivial (by kernel_rfl) [.int .i64 0, .int .i64 0, .int .i64 0] 82 (fun b => .pointer (some ⟨b, 0, none⟩)) (by kernel_rfl) ?_)
   intro w35 b34 heb34 hB36 hF37 hsb34
   have hB_38 := hB_30.fr0 hF37
   have hRA_39 := hRA_31.fr0 hF37
   have hK_40 := hK_32.alloc hF37 heb34 (by omega)
   have hE_41 := hE_33.tr0 hF37
   refine V.go (V.stn b34 0 (.agg #[.int .i64 0, .int .i64 0, .int .i64 0]) [.int .i64 0, .int .i64 0, .int .i64 0] (sm hz12.p8 rfl) (o2 rfl (sm hz12.p4.p2 rfl)) rfl rfl (by kernel_rfl) hB36 (by simp) [.int .i64 0, .int .i64 0, .int .i64 0] rfl ?_)
   intro w42 hB43 hF44 hsw42
   have hB_45 := hB_38.fr1 hF44 (by omega)
   have hRA_46 := hRA_39.fr1 hF44 (by omega)
   have hK_47 := hK_40.fr hF44 (by simp)
   have hE_48 := hE_41.tr1 hF44 (by first | exact .inl (by assumption) | exact .inr (by omega) | exact .inl (.inl rfl))
   refine V.ga (o1 rfl (sm hz12.p4.p2.p1 rfl)) ?_
   refine V.nil ?_
   refine V.then_n (hK27 _ _ ?_)
   refine V.flushW hz12.p8.p2 (fun a49 hz50 up51 => ?_)
   have s0_52 := up51 0 _ (o8 rfl (o2 rfl s0_14))
   have s1_53 := up51 1 _ (o8 rfl (o2 rfl s1_15))
   have s2_54 := up51 2 _ (o8 rfl (o2 rfl s2_16))
   have s7_55 := up51 7 _ (o1 rfl (sm hz12.p8 rfl))
   have s8_56 := up51 8 _ (sm hz12.p8.p1 rfl)
   clear up51
   refine V.seq (fun K57 hK58 => ?_)
   refine V.rg ?_
   refine V.gm (s8_56) ?_
   refine V.nil ?_
   refine V.then_n (hK58 _ _ ?_)
   refine V.cond_f (sm hz50 rfl) ?_
   refine V.skip ?_
   refine V.then_n (hK25 _ _ ?_)
   refine V.seq (fun K59 hK60 => ?_)
   refine V.rg ?_
   refine V.ga evc ?_
   refine V.nil ?_
   refine V.then_n (hK60 _ _ ?_)
   refine V.seq (fun K61 hK62 => ?_)
   refine V.seq (fun K63 hK64 => ?_)
   refine V.rg ?_
   refine V.gm (o2 rfl s0_52) ?_
   refine V.go (V.call 65 #[] #[.pointer (some ⟨t, 0, none⟩)] evf (args1 (sm hz50.p2 rfl)) (Go.Proofs.enters_of Try.func65 (by kernel_rfl) rfl) (moves_N w42 t T1.seed T1.a.length 0 0 gA 0 (.int .i64 (T1.moved : Int)) (.int .i64 (T1.n : Int)) hB_45) ?_)
   rintro _ w66 ⟨rfl, hF65⟩
   refine ⟨_, rfl, ?_⟩
   have hsw66 := hF65.size
   have hB_67 := hB_45.fr0 hF65
   have hRA_68 := hRA_46.fr0 hF65
   have hK_69 := hK_47.fr0 hF65
   have hE_70 := hE_48.tr0 hF65
   have hB43_71 := hB43.fr0 hF65
   refine V.nil ?_
   refine V.then_n (hK64 _ _ ?_)
   refine V.flushW hz50.p4 (fun a72 hz73 up74 => ?_)
   have s0_75 := up74 0 _ (o4 rfl s0_52)
   have s1_76 := up74 1 _ (o4 rfl s1_53)
   have s2_77 := up74 2 _ (o4 rfl s2_54)
   have s9_78 := up74 9 _ (o2 rfl (sm hz50.p1 rfl))
   have s40_79 : a72.eval (.tmp 40) = (.bool false) := up74 _ _ (sm hz50.p2.p1 rfl)
   clear up74
   refine V.cond_f (s40_79) ?_
   refine V.skip ?_
   refine V.then_n (hK62 _ _ ?_)
   refine V.seq (fun K80 hK81 => ?_)
   refine V.rg ?_
   refine V.gm (s0_75) ?_
   refine V.gm (o1 rfl s9_78) ?_
   refine V.gm (o2 rfl s1_76) ?_
   refine V.go (V.call 66 #[] #[.pointer (some ⟨t, 0, none⟩), .int .i64 0, .string k] evf (args3 (o2 rfl (sm hz73 rfl)) (o1 rfl (sm hz73.p1 rfl)) (sm hz73.p2 rfl)) (Go.Proofs.enters_of Try.func66 (by kernel_rfl) rfl) (bucket_N0 w66 t T1.seed T1.a.length 0 0 gA 0 (.int .i64 (T1.moved : Int)) (.int .i64 (T1.n : Int)) hB_67 k (by omega) (by omega) (by omega) (by omega)) ?_)
   rintro _ w83 ⟨rfl, hF82⟩
   refine ⟨_, rfl, ?_⟩
   have hsw83 := hF82.size
   have hB_84 := hB_67.fr0 hF82
   have hRA_85 := hRA_68.fr0 hF82
   have hK_86 := hK_69.fr0 hF82
   have hE_87 := hE_70.tr0 hF82
   have hB43_88 := hB43_71.fr0 hF82
   have hbl82 := bkt_lt T1.seed k (n := T1.a.length) (by omega)
   refine V.ga (v := (.int .i64 ((bkt T1.seed T1.a.length k : Nat) : Int))) (sm hz73.p2.p1 rfl) ?_
   refine V.nil ?_
   refine V.then_n (hK81 _ _ ?_)
   refine V.flushW hz73.p4.p1 (fun a89 hz90 up91 => ?_)
   have s0_92 := up91 0 _ (o4 rfl (o1 rfl s0_75))
   have s1_93 := up91 1 _ (o4 rfl (o1 rfl s1_76))
   have s2_94 := up91 2 _ (o4 rfl (o1 rfl s2_77))
   have s9_95 := up91 9 _ (o4 rfl (o1 rfl s9_78))
   have s10_96 : a89.eval (.tmp 10) = (.int .i64 ((bkt T1.seed T1.a.length k : Nat) : Int)) := up91 _ _ (sm hz73.p4 rfl)
   clear up91
   refine V.seq (fun K97 hK98 => ?_)
   have hbq := hbl (bkt T1.seed T1.a.length k)
   refine V.plan [[], [], [0], [0, 2], [0, 1, 2, 3], [0, 1, 2, 3, 4], [], [], [], [7], [7, 9], [7, 8, 9, 10], [7, 8, 9, 10, 11], [], [7, 8, 9, 10, 11, 12, 13], [7, 8, 9, 10, 11, 12, 13, 14], [], [], [16, 17], [16, 17, 18], [7, 8, 9, 10, 11, 12, 13, 14, 15, 16, 17, 18, 19], [0, 1, 2, 3, 4, 5, 6, 7, 8, 9, 10, 11, 12, 13, 14, 15, 16, 17, 18, 19, 20], [0, 1, 2, 3, 4, 5, 6, 7, 8, 9, 10, 11, 12, 13, 14, 15, 16, 17, 18, 19, 20, 21]] [([0, 1, 2, 3, 4, 5, 6, 7, 8, 9, 10, 11, 12, 13, 14, 15, 16, 17, 18], some (19, [5, 12, 15])), ([], some (20, [5])), ([21], some (22, [])), ([], none)] (by kernel_rfl) (by kernel_rfl) (by exact fun _ _ _ _ h => h) ?_
   simp only [Plan.wpSegs, Plan.pickAll, Plan.nth, V.L_eq]
   obtain ⟨w99, hF100e⟩ : ∃ w1, w1 = w83.drew := ⟨_, rfl⟩
   rw [← hF100e]
   have hF100 : Fr [] w83 w99 := by rw [hF100e]; exact Fr.drew _ _
   have hsw99 : w99.heap.size = w83.heap.size := by rw [hF100e]; rfl
   clear hF100e
   have hB_101 := hB_84.fr0 hF100
   have hRA_102 := hRA_85.fr0 hF100
   have hK_103 := hK_86.fr0 hF100
   have hE_104 := hE_87.tr0 hF100
   have hB43_105 := hB43_88.fr0 hF100
   refine V.gm (s0_92) ?_
   refine V.gm (o1 rfl s9_95) ?_
   refine V.ge_ [(45, .pointer (some ⟨t, 0, none⟩))] ⟨(o1 rfl (sm hz90 rfl)), trivial⟩ (.pointer (some ⟨t, 0, none⟩)) ?_
   refine V.ge_ [(47, .pointer (some ⟨t, 0, none⟩))] ⟨(sm hz90.p2 rfl), trivial⟩ (.pointer (some ⟨t, 1, none⟩)) ?_
   refine V.ge_ [(48, .pointer (some ⟨t, 1, none⟩)), (46, .int .i64 0)] ⟨(sm hz90.p2.p1 rfl), (o2 rfl (sm hz90.p1 rfl)), trivial⟩ (.pointer (some ⟨t, 1, none⟩)) ?_
   refine V.go (V.ld ⟨t, 1, none⟩ (.slice (some ⟨gA, 0, none⟩) T1.a.length T1.a.length) (sm hz90.p4 rfl) (by kernel_rfl) (hB_101.at 1 rfl) ?_)
   refine V.gm (v := (.int .i64 ((bkt T1.seed T1.a.length k : Nat) : Int))) (o4 rfl (o2 rfl s10_96)) ?_
   refine V.gm (o4 rfl (o2 rfl (o1 rfl s0_92))) ?_
   refine V.gm (o8 rfl s9_95) ?_
   refine V.ge_ [(52, .pointer (some ⟨t, 0, none⟩))] ⟨(o1 rfl (sm hz90.p4.p2.p1 rfl)), trivial⟩ (.pointer (some ⟨t, 0, none⟩)) ?_
   refine V.ge_ [(54, .pointer (some ⟨t, 0, none⟩))] ⟨(sm hz90.p8.p1 rfl), trivial⟩ (.pointer (some ⟨t, 1, none⟩)) ?_
   refine V.ge_ [(55, .pointer (some ⟨t, 1, none⟩)), (53, .int .i64 0)] ⟨(sm hz90.p8.p2 rfl), (o2 rfl (sm hz90.p8 rfl)), trivial⟩ (.pointer (some ⟨t, 1, none⟩)) ?_
   refine V.go (V.ld ⟨t, 1, none⟩ (.slice (some ⟨gA, 0, none⟩) T1.a.length T1.a.length) (sm hz90.p8.p2.p1 rfl) (by kernel_rfl) (hB_101.at 1 rfl) ?_)
   refine V.gm (v := (.int .i64 ((bkt T1.seed T1.a.length k : Nat) : Int))) (o8 rfl (o4 rfl (o1 rfl s10_96))) ?_
   refine V.go (V.ixa gA 0 T1.a.length T1.a.length .i64 ((bkt T1.seed T1.a.length k : Nat) : Int) 1 (o1 rfl (sm hz90.p8.p4 rfl)) (sm hz90.p8.p4.p1 rfl) (by omega) (by omega) (by kernel_rfl) ?_)
   obtain ⟨A106, c107, hv108⟩ := hK_103.getA hlA (i := (bkt T1.seed T1.a.length k)) (by omega) nilS
   refine V.go (V.ld ⟨gA, 0 + ((bkt T1.seed T1.a.length k : Nat) : Int).toNat * 1, none⟩ (.slice A106 ((T1.a.getD (bkt T1.seed T1.a.length k) []).length) c107) (sm hz90.p8.p4.p2 rfl) (by kernel_rfl) ((hRA_102.at (bkt T1.seed T1.a.length k) nilS (by omega)).trans (congrArg some hv108)) ?_)
   have hS109 := hK_103.slA hlA (i := (bkt T1.seed T1.a.length k)) (by omega) hv108
   refine V.gm (o16 rfl s1_93) ?_
   refine V.gm (o16 rfl (o1 rfl s2_94)) ?_
   refine V.ge_ [(61, .string k), (62, .int .i64 v)] ⟨(o1 rfl (sm hz90.p16 rfl)), (sm hz90.p16.p1 rfl), trivial⟩ (.agg #[.string k, .int .i64 v]) ?_
   refine V.nil ?_
   refine ⟨chk [(45, .pointer (some ⟨t, 0, none⟩)), (52, .pointer (some ⟨t, 0, none⟩))] ⟨(o16 rfl (o2 rfl (sm hz90 rfl))), (o8 rfl (o2 rfl (o1 rfl (sm hz90.p4.p2.p1 rfl)))), trivial⟩ (by kernel_rfl), ?_⟩
   refine V.go (V.mk [(63, .agg #[.string k, .int .i64 v])] ⟨(sm hz90.p16.p2 rfl), trivial⟩ (by kernel_rfl) [.string k, .int .i64 v] 86 (fun b => .slice (some ⟨b, 0, none⟩) 1 1) (by kernel_rfl) ?_)
   intro w111 b110 heb110 hB112 hF113 hsb110
   have hB_114 := hB_101.fr0 hF113
   have hRA_115 := hRA_102.fr0 hF113
   have hK_116 := hK_103.alloc hF113 heb110 (by omega)
   have hE_117 := hE_104.tr0 hF113
   have hB43_118 := hB43_105.fr0 hF113
   have hS109_119 := hS109.fr0 hF113
   refine V.nil ?_
   refine ⟨⟨(fun _ => held_blk (n := 1) (hx := (o8 rfl (o4 rfl (o2 rfl (sm hz90.p4 rfl))))) hB_101 hB_114 (by kernel_rfl) rfl (by simp only [List.length]; omega)), (fun _ => held_blk (n := 1) (hx := (o4 rfl (o2 rfl (o1 rfl (sm hz90.p8.p2.p1 rfl))))) hB_101 hB_114 (by kernel_rfl) rfl (by simp only [List.length]; omega)), (fun _ => held_row (hx := (o4 rfl (sm hz90.p8.p4.p2 rfl))) hRA_102 hRA_115 (by kernel_rfl) (by omega))⟩, ?_⟩
   refine V.nil ?_
   refine ⟨chk [] trivial (by kernel_rfl), ?_⟩
   refine V.go (V.appRA (R := itI) (ys := ([(k, v)])) (news := [.string k, .int .i64 v]) hK_116 hlA (i := (bkt T1.seed T1.a.length k)) (by omega) hv108 (o4 rfl (sm hz90.p8.p4.p2.p1 rfl)) ⟨b110, 0, none⟩ 1 1 (sm hz90.p16.p2.p1 rfl) (by kernel_rfl) (info86) (by kernel_rfl) (by decide) rfl ⟨[.string k, .int .i64 v], [], rfl, rfl, rfl⟩ (blk_cells hB112 0 _ rfl) (by omega) (by decide) (.inr (by omega)) ?_)
   intro A120 c121 w122 hK123 hF124 ho125
   have hsw122 := hF124.size
   have hB_126 := hB_114.fr hF124 (fun hm => (ho125 _ hm).1 (by simp))
   have hRA_127 := hRA_115.fr hF124 (fun hm => (ho125 _ hm).1 (by simp))
   have hE_128 := hE_117.tr hF124 (fun k hk => ((ho125 k hk).2).imp (fun h => ⟨h, fun hm => (ho125 k hk).1 (by simp [hm])⟩) id)
   have hB43_129 := hB43_118.fr hF124 (fun hm => (ho125 _ hm).1 (by simp))
   refine V.nil ?_
   refine ⟨(fun _ => held_blk (n := 1) (hx := (o8 rfl (o4 rfl (o2 rfl (o1 rfl (sm hz90.p4 rfl)))))) hB_114 hB_126 (by kernel_rfl) rfl (by simp only [List.length]; omega)), ?_⟩
   refine V.go (V.ixa gA 0 T1.a.length T1.a.length .i64 ((bkt T1.seed T1.a.length k : Nat) : Int) 1 (o8 rfl (o4 rfl (o2 rfl (o1 rfl (sm hz90.p4.p1 rfl))))) (o8 rfl (o4 rfl (o2 rfl (sm hz90.p4.p2 rfl)))) (by omega) (by omega) (by kernel_rfl) ?_)
   refine V.nil ?_
   refine ⟨chk [] trivial (by kernel_rfl), ?_⟩
   refine V.go (V.strow (enc := idV) gA (((bkt T1.seed T1.a.length k : Nat) : Int).toNat) (.slice A120 ((T1.a.getD (bkt T1.seed T1.a.length k) []).length + 1) c121) (sm hz90.p16.p4.p1 rfl) (o1 rfl (sm hz90.p16.p4 rfl)) rfl rfl (by kernel_rfl) hRA_127 (by first | omega | (simp only [List.length_set, List.length_replicate]; omega)) ?_)
   intro w130 hR131 hF132 hsw130
   have hB_133 := hB_126.fr1 hF132 (by omega)
   have hE_134 := hE_128.tr1 hF132 (by first | exact .inl (by assumption) | exact .inr (by omega) | exact .inl (.inl rfl))
   have hB43_135 := hB43_129.fr1 hF132 (by omega)
   have hK123_136 := hK123.fr hF132 (by simp)
   refine V.nil ?_
   refine ⟨trivial, ?_⟩
   refine V.nil ?_
   refine ⟨chk [] trivial (by kernel_rfl), ?_⟩
   refine V.then_n (hK98 _ _ ?_)
   refine V.flushW hz90.p16.p4.p2 (fun a137 hz138 up139 => ?_)
   have s0_140 := up139 0 _ (o16 rfl (o4 rfl (o2 rfl s0_92)))
   clear up139
   refine V.seq (fun K141 hK142 => ?_)
   refine V.rg ?_
   refine V.gm (s0_140) ?_
   refine V.ge_ [(67, .pointer (some ⟨t, 0, none⟩))] ⟨(sm hz138 rfl), trivial⟩ (.pointer (some ⟨t, 0, none⟩)) ?_
   refine V.ge_ [(68, .pointer (some ⟨t, 0, none⟩))] ⟨(sm hz138.p1 rfl), trivial⟩ (.pointer (some ⟨t, 4, none⟩)) ?_
   refine V.go (V.ld ⟨t, 4, none⟩ (.int .i64 (T1.n : Int)) (sm hz138.p2 rfl) (by kernel_rfl) (hB_133.at 4 rfl) ?_)
   refine V.gf_ [(70, .int .i64 (T1.n : Int))] ⟨(sm hz138.p2.p1 rfl), trivial⟩ (.int .i64 (IntKind.i64.wrap ((T1.n : Int) + 1))) (.int .i64 ((T1.n : Int) + 1)) (V.w_i64 (by omega) (by omega)) ?_
   refine V.ge_ [(67, .pointer (some ⟨t, 0, none⟩))] ⟨(o4 rfl (sm hz138 rfl)), trivial⟩ (.pointer (some ⟨t, 0, none⟩)) ?_
   refine V.ge_ [(72, .pointer (some ⟨t, 0, none⟩))] ⟨(sm hz138.p4.p1 rfl), trivial⟩ (.pointer (some ⟨t, 4, none⟩)) ?_
   refine V.go (V.stn t 4 (.int .i64 ((T1.n : Int) + 1)) [.int .i64 ((T1.n : Int) + 1)] (sm hz138.p4.p2 rfl) (o2 rfl (sm hz138.p4 rfl)) rfl rfl (by kernel_rfl) hB_133 (by simp) [.int .u64 (T1.seed : Int), .slice (some ⟨gA, 0, none⟩) T1.a.length T1.a.length, .slice none 0 0, .int .i64 (T1.moved : Int), .int .i64 ((T1.n : Int) + 1)] rfl ?_)
   intro w143 hB144 hF145 hsw143
   have hE_146 := hE_134.tr1 hF145 (by first | exact .inl (by assumption) | exact .inr (by omega) | exact .inl (.inl rfl))
   have hB43_147 := hB43_135.fr1 hF145 (by omega)
   have hK123_148 := hK123_136.fr hF145 (by simp)
   have hR131_149 := hR131.fr1 hF145 (by omega)
   refine V.nil ?_
   refine V.then_n (hK142 _ _ ?_)
   refine V.flushW hz138.p4.p2.p1 (fun a150 hz151 up152 => ?_)
   have s0_153 := up152 0 _ (o4 rfl (o2 rfl (o1 rfl s0_140)))
   clear up152
   refine V.seq (fun K154 hK155 => ?_)
   refine V.seq (fun K156 hK157 => ?_)
   refine V.plan [[], [0], [0, 1], [0, 1, 2], [0, 1, 2, 3], [0, 1, 2, 3, 4], [0, 1, 2, 3, 4, 5], [0, 1, 2, 3, 4, 5, 6], [0, 1, 2, 3], [0, 1, 2, 3, 8], [0, 1, 2, 3, 8, 9], [0, 1, 2, 3, 8, 9, 10], [0, 1, 2, 3, 8, 9, 10, 11], [0, 1, 2, 3, 8, 9, 10, 11, 12], [0, 1, 2, 3, 4, 5, 6, 7, 8, 9, 10, 11, 12, 13], [0, 1, 2, 3, 4, 5, 6, 7, 8, 9, 10, 11, 12, 13, 14]] [([0], some (1, [])), ([2, 3, 4, 5, 6, 7, 8, 9, 10, 11, 12, 13, 14, 15], none)] (by kernel_rfl) (by kernel_rfl) (by exact fun _ _ _ _ h => h) ?_
   simp only [Plan.wpSegs, Plan.pickAll, Plan.nth, V.L_eq]
   obtain ⟨w158, hF159e⟩ : ∃ w1, w1 = w143.drew := ⟨_, rfl⟩
   rw [← hF159e]
   have hF159 : Fr [] w143 w158 := by rw [hF159e]; exact Fr.drew _ _
   have hsw158 : w158.heap.size = w143.heap.size := by rw [hF159e]; rfl
   clear hF159e
   have hE_160 := hE_146.tr0 hF159
   have hB43_161 := hB43_147.fr0 hF159
   have hK123_162 := hK123_148.fr0 hF159
   have hR131_163 := hR131_149.fr0 hF159
   have hB144_164 := hB144.fr0 hF159
   refine V.gm (s0_153) ?_
   refine V.nil ?_
   refine ⟨chk [] trivial (by kernel_rfl), ?_⟩
   refine V.go (V.call 65 #[] #[.pointer (some ⟨t, 0, none⟩)] evf (args1 (sm hz151 rfl)) (Go.Proofs.enters_of Try.func65 (by kernel_rfl) rfl) (moves_N w158 t T1.seed T1.a.length 0 0 gA 0 (.int .i64 (T1.moved : Int)) (.int .i64 ((T1.n : Int) + 1)) hB144_164) ?_)
   rintro _ w166 ⟨rfl, hF165⟩
   refine ⟨_, rfl, ?_⟩
   have hsw166 := hF165.size
   have hE_167 := hE_160.tr0 hF165
   have hB43_168 := hB43_161.fr0 hF165
   have hK123_169 := hK123_162.fr0 hF165
   have hR131_170 := hR131_163.fr0 hF165
   have hB144_171 := hB144_164.fr0 hF165
   refine V.nil ?_
   refine ⟨trivial, ?_⟩
   refine V.ge_ [(75, .bool false)] ⟨(sm hz151.p1 rfl), trivial⟩ (.bool true) ?_
   refine V.gm (sm hz151.p2 rfl) ?_
   refine V.go_on 77 (by kernel_rfl) (sm hz151.p2.p1 rfl) (V.mv (o4 rfl s0_153) ?_)
   refine V.go_on 77 (by kernel_rfl) (o1 rfl (sm hz151.p2.p1 rfl)) (V.pv [(78, .pointer (some ⟨t, 0, none⟩))] ⟨(sm hz151.p4 rfl), trivial⟩ (by kernel_rfl) (.pointer (some ⟨t, 0, none⟩)) (by kernel_rfl) ?_)
   refine V.go_on 77 (by kernel_rfl) (o2 rfl (sm hz151.p2.p1 rfl)) (V.pv [(79, .pointer (some ⟨t, 0, none⟩))] ⟨(sm hz151.p4.p1 rfl), trivial⟩ (by kernel_rfl) (.pointer (some ⟨t, 4, none⟩)) (by kernel_rfl) ?_)
   refine V.go_on 77 (by kernel_rfl) (o2 rfl (o1 rfl (sm hz151.p2.p1 rfl))) (V.ld ⟨t, 4, none⟩ (.int .i64 ((T1.n : Int) + 1)) (sm hz151.p4.p2 rfl) (by kernel_rfl) (hB144_171.at 4 rfl) ?_)
   refine V.go_on 77 (by kernel_rfl) (o4 rfl (sm hz151.p2.p1 rfl)) (V.mv (o8 rfl s0_153) ?_)
   refine V.go_on 77 (by kernel_rfl) (o4 rfl (o1 rfl (sm hz151.p2.p1 rfl))) (V.pv [(82, .pointer (some ⟨t, 0, none⟩))] ⟨(sm hz151.p8 rfl), trivial⟩ (by kernel_rfl) (.pointer (some ⟨t, 0, none⟩)) (by kernel_rfl) ?_)
   refine V.go_on 77 (by kernel_rfl) (o4 rfl (o2 rfl (sm hz151.p2.p1 rfl))) (V.pv [(83, .pointer (some ⟨t, 0, none⟩))] ⟨(sm hz151.p8.p1 rfl), trivial⟩ (by kernel_rfl) (.pointer (some ⟨t, 1, none⟩)) (by kernel_rfl) ?_)
   refine V.go_on 77 (by kernel_rfl) (o4 rfl (o2 rfl (o1 rfl (sm hz151.p2.p1 rfl)))) (V.pv [(84, .pointer (some ⟨t, 1, none⟩))] ⟨(sm hz151.p8.p2 rfl), trivial⟩ (by kernel_rfl) (.pointer (some ⟨t, 1, none⟩)) (by kernel_rfl) ?_)
   refine V.go_on 77 (by kernel_rfl) (o8 rfl (sm hz151.p2.p1 rfl)) (V.ld ⟨t, 1, none⟩ (.slice (some ⟨gA, 0, none⟩) T1.a.length T1.a.length) (sm hz151.p8.p2.p1 rfl) (by kernel_rfl) (hB144_171.at 1 rfl) ?_)
   refine V.go_on 77 (by kernel_rfl) (o8 rfl (o1 rfl (sm hz151.p2.p1 rfl))) (V.pv [(86, .slice (some ⟨gA, 0, none⟩) T1.a.length T1.a.length)] ⟨(sm hz151.p8.p4 rfl), trivial⟩ (by kernel_rfl) (.int .i64 ((T1.a.length : Nat) : Int)) (by kernel_rfl) ?_)
   refine V.go_on 77 (by kernel_rfl) (o8 rfl (o2 rfl (sm hz151.p2.p1 rfl))) (V.pv [(81, .int .i64 ((T1.n : Int) + 1)), (87, .int .i64 ((T1.a.length : Nat) : Int))] ⟨(o4 rfl (o2 rfl (sm hz151.p4.p2.p1 rfl))), (sm hz151.p8.p4.p1 rfl), trivial⟩ (by kernel_rfl) (.bool (decide (((T1.n : Int) + 1) > ((T1.a.length : Nat) : Int)))) (by kernel_rfl) ?_)
   refine V.go (V.pk_t (o8 rfl (o2 rfl (o1 rfl (sm hz151.p2.p1 rfl)))) (v := (.bool (decide (((T1.n : Int) + 1) > ((T1.a.length : Nat) : Int))))) (sm hz151.p8.p4.p2 rfl) ?_)
   refine V.nil ?_
   refine ⟨chk [(78, .pointer (some ⟨t, 0, none⟩)), (82, .pointer (some ⟨t, 0, none⟩)), (86, .slice (some ⟨gA, 0, none⟩) T1.a.length T1.a.length), (81, .int .i64 ((T1.n : Int) + 1)), (87, .int .i64 ((T1.a.length : Nat) : Int)), (77, .bool true)] ⟨(o8 rfl (o2 rfl (o1 rfl (sm hz151.p4 rfl)))), (o4 rfl (o2 rfl (o1 rfl (sm hz151.p8 rfl)))), (o2 rfl (o1 rfl (sm hz151.p8.p4 rfl))), (o8 rfl (sm hz151.p4.p2.p1 rfl)), (o2 rfl (sm hz151.p8.p4.p1 rfl)), (o8 rfl (o4 rfl (sm hz151.p2.p1 rfl))), trivial⟩ (by kernel_rfl), ?_⟩
   refine V.then_n (hK157 _ _ ?_)
   refine V.flushW hz151.p16 (fun a172 hz173 up174 => ?_)
   have s0_175 := up174 0 _ (o16 rfl s0_153)
   have s89_176 := up174 89 _ (sm hz151.p8.p4.p2.p1 rfl)
   clear up174
   refine V.condP (p := ((T1.n : Int) + 1) > ((T1.a.length : Nat) : Int)) (s89_176) (fun ht177 => ?_) (fun ht177 => ?_)
   ·
    refine V.rg ?_
    refine V.gm (s0_175) ?_
    refine V.gm (o1 rfl s0_175) ?_
    refine V.ge_ [(91, .pointer (some ⟨t, 0, none⟩))] ⟨(sm hz173.p1 rfl), trivial⟩ (.pointer (some ⟨t, 0, none⟩)) ?_
    refine V.ge_ [(92, .pointer (some ⟨t, 0, none⟩))] ⟨(sm hz173.p2 rfl), trivial⟩ (.pointer (some ⟨t, 1, none⟩)) ?_
    refine V.ge_ [(93, .pointer (some ⟨t, 1, none⟩))] ⟨(sm hz173.p2.p1 rfl), trivial⟩ (.pointer (some ⟨t, 1, none⟩)) ?_
    refine V.go (V.ld ⟨t, 1, none⟩ (.slice (some ⟨gA, 0, none⟩) T1.a.length T1.a.length) (sm hz173.p4 rfl) (by kernel_rfl) (hB144_171.at 1 rfl) ?_)
    refine V.ge_ [(95, .slice (some ⟨gA, 0, none⟩) T1.a.length T1.a.length)] ⟨(sm hz173.p4.p1 rfl), trivial⟩ (.int .i64 ((T1.a.length : Nat) : Int)) ?_
    refine V.go (V.mulN 2 T1.a.length evc (sm hz173.p4.p2 rfl) (by omega) ?_)
    have hins := insT_ok0 hok1 hb1 (by omega) k hkz v
    have hlp : (putB T1.seed T1.a (k, v)).length = T1.a.length := putB_length _ _ _
    have hN178 : TabN 67 87 86 itI w166 (gh (gr H w w22) w22) av t gA (vsA.set (((bkt T1.seed T1.a.length k : Nat) : Int).toNat) (.slice A120 ((T1.a.getD (bkt T1.seed T1.a.length k) []).length + 1) c121)) ({ T1 with a := putB T1.seed T1.a (k, v), n := T1.n + 1 } : Tb Int) := TabN.mk2 hB144_171 hR131_170 (by simpa [putB] using hK123_169) (mem3 (by simp) (by simp) (by intro k hk; simp [hk])) hne ⟨.inl hpt.1, hpt.2⟩ ⟨.inl hpg.1, hpg.2⟩ rfl hlp.symm rfl (by simp) rfl
    refine V.go (V.call 67 #[] #[.pointer (some ⟨t, 0, none⟩), .int .i64 ((2 * T1.a.length : Nat) : Int)] evf (args2 (o4 rfl (o2 rfl (o1 rfl (sm hz173 rfl)))) (sm hz173.p4.p2.p1 rfl)) (Go.Proofs.enters_of Try.func67 (by kernel_rfl) rfl) (start_N w166 (gh (gr H w w22) w22) av t gA _ ({ T1 with a := putB T1.seed T1.a (k, v), n := T1.n + 1 } : Tb Int) hins hN178 (2 * T1.a.length) hb0 (by omega) (by omega)) ?_)
    rintro _ w181 ⟨rfl, hT179, hfp180⟩
    refine ⟨_, rfl, ?_⟩
    have hsw181 := hfp180.size
    have hE_182 := hE_167.trP hfp180 (fun k hk => hk.1.imp (fun h => ⟨h, hk.2⟩) id)
    refine V.nil ?_
    refine V.then_n (hK155 _ _ ?_)
    refine V.flushW hz173.p8.p1 (fun a183 hz184 up185 => ?_)
    clear up185
    refine V.seq (fun K186 hK187 => ?_)
    refine V.rg ?_
    refine V.ga evc ?_
    refine V.nil ?_
    refine V.then_n (hK187 _ _ ?_)
    refine V.ret ?_
    refine V.ret1 hz184.p1 rfl (sm hz184 rfl) ?_
    have hst : putT T k v = insT T1 k v := by (unfold putT; rw [← hT1]; unfold put1T; rw [hf, if_neg (by simp)])
    have hup := (insT_ok hok1 hm1 (by omega) k hkz v).1
    rw [hst]
    have hu2 : insT T1 k v = startT ({ T1 with a := putB T1.seed T1.a (k, v), n := T1.n + 1 } : Tb Int) (2 * T1.a.length) := by (unfold insT; rw [if_pos hb1, if_pos (by omega)])
    rw [hu2]
    exact ⟨by rw [hf], (hT179.gr2 (by omega)).gr3 (by omega), (hFPE.gr hE_182)⟩
   ·
    refine V.skip ?_
    refine V.then_n (hK155 _ _ ?_)
    refine V.seq (fun K188 hK189 => ?_)
    refine V.rg ?_
    refine V.ga evc ?_
    refine V.nil ?_
    refine V.then_n (hK189 _ _ ?_)
    refine V.ret ?_
    refine V.ret1 hz173.p1 rfl (sm hz173 rfl) ?_
    have hst : putT T k v = insT T1 k v := by (unfold putT; rw [← hT1]; unfold put1T; rw [hf, if_neg (by simp)])
    have hup := (insT_ok hok1 hm1 (by omega) k hkz v).1
    rw [hst]
    have hu2 : insT T1 k v = ({ T1 with a := putB T1.seed T1.a (k, v), n := T1.n + 1 } : Tb Int) := by (unfold insT; rw [if_pos hb1, if_neg (by omega)])
    rw [hu2] at hup ⊢
    exact ⟨by rw [hf], (TabN.fin (T := ({ T1 with a := putB T1.seed T1.a (k, v), n := T1.n + 1 })) hup hb0 hB144_171 hR131_170 (by have h := hK123_169; rw [List.append_nil, List.append_nil] at h; exact h) (mem3 (l := (b110 :: b34 :: t :: gA :: av)) (by simp) (by simp) (by intro k hk; simp [hk])) (by first | assumption | exact Ne.symm (by assumption) | omega) hpt ⟨.inl hpg.1, hpg.2⟩ rfl (putB_length _ _ _).symm rfl (by simp) rfl).gr3 (by omega), (hFPE.gr hE_167)⟩
  ·
   have hb1 : T1.b.length ≠ 0 := fun h => hb0 (List.eq_nil_of_length_eq_zero h)
   obtain ⟨hB, hRA, hRB, hlA, hlB, hK, hne, hne2, hne3, hpt, hpg, hph⟩ := hN
   replace hK := hK.toH
   have hltt := hB.lt
   have hltg := hRA.lt
   have hltg2 := hRB.lt
   have hE : FrP (gp (gr H w w22) av) w22 w22 := FrP.refl _ _
   have hK0 : ∀ k ∈ av, k < w22.heap.size := fun k hk => hK.avl k (by simp [hk])
   obtain ⟨hsd, hpa, hla, hlb, hmv, hmz, hnn, hcn, hks⟩ := (show T1.Ok from hok1)
   have hbl := hok1.bl
   have hFPE := hFP_23
   refine V.go (V.call 53 #[] #[.pointer (some ⟨t, 0, none⟩), .string k] evf (args2 (o1 rfl (sm hz12.p2 rfl)) (sm hz12.p2.p1 rfl)) (Go.Proofs.enters_of Try.func53 (by kernel_rfl) rfl) (by have h := find_any w22 (gr H w w22) (av) t T1 hT20q k hkz; rw [hf] at h; exact h) ?_)
   rintro _ w191 ⟨rfl, hF190⟩
   refine ⟨_, rfl, ?_⟩
   have hsw191 := hF190.size
   have hB_192 := hB.fr0 hF190
   have hRA_193 := hRA.fr0 hF190
   have hRB_194 := hRB.fr0 hF190
   have hK_195 := hK.fr0 hF190
   have hE_196 := hE.tr0 hF190
   refine V.gm (sm hz12.p4 rfl) ?_
   refine V.ge_ [(16, .tuple #[.agg #[.int .i64 0, .int .i64 0, .int .i64 0], .bool false])] ⟨(sm hz12.p4.p1 rfl), trivial⟩ (.agg #[.int .i64 0, .int .i64 0, .int .i64 0]) ?_
   refine V.ge_ [(16, .tuple #[.agg #[.int .i64 0, .int .i64 0, .int .i64 0], .bool false])] ⟨(o1 rfl (sm hz12.p4.p1 rfl)), trivial⟩ (.bool false) ?_
   refine V.go (V.mk [] trivial (by kernel_rfl) [.int .i64 0, .int .i64 0, .int .i64 0] 82 (fun b => .pointer (some ⟨b, 0, none⟩)) (by kernel_rfl) ?_)
   intro w198 b197 heb197 hB199 hF200 hsb197
   have hB_201 := hB_192.fr0 hF200
   have hRA_202 := hRA_193.fr0 hF200
   have hRB_203 := hRB_194.fr0 hF200
   have hK_204 := hK_195.alloc hF200 heb197 (by omega)
   have hE_205 := hE_196.tr0 hF200
   refine V.go (V.stn b197 0 (.agg #[.int .i64 0, .int .i64 0, .int .i64 0]) [.int .i64 0, .int .i64 0, .int .i64 0] (sm hz12.p8 rfl) (o2 rfl (sm hz12.p4.p2 rfl)) rfl rfl (by kernel_rfl) hB199 (by simp) [.int .i64 0, .int .i64 0, .int .i64 0] rfl ?_)
   intro w206 hB207 hF208 hsw206
   have hB_209 := hB_201.fr1 hF208 (by omega)
   have hRA_210 := hRA_202.fr1 hF208 (by omega)
   have hRB_211 := hRB_203.fr1 hF208 (by omega)
   have hK_212 := hK_204.fr hF208 (by simp)
   have hE_213 := hE_205.tr1 hF208 (by first | exact .inl (by assumption) | exact .inr (by omega) | exact .inl (.inl rfl))
   refine V.ga (o1 rfl (sm hz12.p4.p2.p1 rfl)) ?_
   refine V.nil ?_
   refine V.then_n (hK27 _ _ ?_)
   refine V.flushW hz12.p8.p2 (fun a214 hz215 up216 => ?_)
   have s0_217 := up216 0 _ (o8 rfl (o2 rfl s0_14))
   have s1_218 := up216 1 _ (o8 rfl (o2 rfl s1_15))
   have s2_219 := up216 2 _ (o8 rfl (o2 rfl s2_16))
   have s7_220 := up216 7 _ (o1 rfl (sm hz12.p8 rfl))
   have s8_221 := up216 8 _ (sm hz12.p8.p1 rfl)
   clear up216
   refine V.seq (fun K222 hK223 => ?_)
   refine V.rg ?_
   refine V.gm (s8_221) ?_
   refine V.nil ?_
   refine V.then_n (hK223 _ _ ?_)
   refine V.cond_f (sm hz215 rfl) ?_
   refine V.skip ?_
   refine V.then_n (hK25 _ _ ?_)
   refine V.seq (fun K224 hK225 => ?_)
   refine V.rg ?_
   refine V.ga evc ?_
   refine V.nil ?_
   refine V.then_n (hK225 _ _ ?_)
   refine V.seq (fun K226 hK227 => ?_)
   refine V.seq (fun K228 hK229 => ?_)
   refine V.rg ?_
   refine V.gm (o2 rfl s0_217) ?_
   refine V.go (V.call 65 #[] #[.pointer (some ⟨t, 0, none⟩)] evf (args1 (sm hz215.p2 rfl)) (Go.Proofs.enters_of Try.func65 (by kernel_rfl) rfl) (moves_M w206 t T1.seed T1.a.length T1.b.length 0 gA gB (.int .i64 (T1.moved : Int)) (.int .i64 (T1.n : Int)) hB_209) ?_)
   rintro _ w231 ⟨rfl, hF230⟩
   refine ⟨_, rfl, ?_⟩
   have hsw231 := hF230.size
   have hB_232 := hB_209.fr0 hF230
   have hRA_233 := hRA_210.fr0 hF230
   have hRB_234 := hRB_211.fr0 hF230
   have hK_235 := hK_212.fr0 hF230
   have hE_236 := hE_213.tr0 hF230
   have hB207_237 := hB207.fr0 hF230
   refine V.nil ?_
   refine V.then_n (hK229 _ _ ?_)
   refine V.flushW hz215.p4 (fun a238 hz239 up240 => ?_)
   have s0_241 := up240 0 _ (o4 rfl s0_217)
   have s1_242 := up240 1 _ (o4 rfl s1_218)
   have s2_243 := up240 2 _ (o4 rfl s2_219)
   have s9_244 := up240 9 _ (o2 rfl (sm hz215.p1 rfl))
   have s40_245 : a238.eval (.tmp 40) = (.bool true) := up240 _ _ (sm hz215.p2.p1 rfl)
   clear up240
   refine V.cond_t (s40_245) ?_
   refine V.rg ?_
   refine V.ga evc ?_
   refine V.nil ?_
   refine V.then_n (hK227 _ _ ?_)
   refine V.seq (fun K246 hK247 => ?_)
   refine V.rg ?_
   refine V.gm (o1 rfl s0_241) ?_
   refine V.gm (o1 rfl (sm hz239 rfl)) ?_
   refine V.gm (o2 rfl (o1 rfl s1_242)) ?_
   refine V.go (V.call 66 #[] #[.pointer (some ⟨t, 0, none⟩), .int .i64 1, .string k] evf (args3 (o2 rfl (sm hz239.p1 rfl)) (o1 rfl (sm hz239.p2 rfl)) (sm hz239.p2.p1 rfl)) (Go.Proofs.enters_of Try.func66 (by kernel_rfl) rfl) (bucket_M1 w231 t T1.seed T1.a.length T1.b.length 0 gA gB (.int .i64 (T1.moved : Int)) (.int .i64 (T1.n : Int)) hB_232 k (by omega) (by omega) (by omega) (by omega)) ?_)
   rintro _ w249 ⟨rfl, hF248⟩
   refine ⟨_, rfl, ?_⟩
   have hsw249 := hF248.size
   have hB_250 := hB_232.fr0 hF248
   have hRA_251 := hRA_233.fr0 hF248
   have hRB_252 := hRB_234.fr0 hF248
   have hK_253 := hK_235.fr0 hF248
   have hE_254 := hE_236.tr0 hF248
   have hB207_255 := hB207_237.fr0 hF248
   have hbl248 := bkt_lt T1.seed k (n := T1.b.length) (by omega)
   refine V.ga (v := (.int .i64 ((bkt T1.seed T1.b.length k : Nat) : Int))) (sm hz239.p4 rfl) ?_
   refine V.nil ?_
   refine V.then_n (hK247 _ _ ?_)
   refine V.flushW hz239.p4.p2 (fun a256 hz257 up258 => ?_)
   have s0_259 := up258 0 _ (o4 rfl (o2 rfl s0_241))
   have s1_260 := up258 1 _ (o4 rfl (o2 rfl s1_242))
   have s2_261 := up258 2 _ (o4 rfl (o2 rfl s2_243))
   have s9_262 := up258 9 _ (o4 rfl (o1 rfl (sm hz239 rfl)))
   have s10_263 : a256.eval (.tmp 10) = (.int .i64 ((bkt T1.seed T1.b.length k : Nat) : Int)) := up258 _ _ (sm hz239.p4.p1 rfl)
   clear up258
   refine V.seq (fun K264 hK265 => ?_)
   have hbq := hbl (bkt T1.seed T1.b.length k)
   refine V.plan [[], [], [0], [0, 2], [0, 1, 2, 3], [0, 1, 2, 3, 4], [], [], [], [7], [7, 9], [7, 8, 9, 10], [7, 8, 9, 10, 11], [], [7, 8, 9, 10, 11, 12, 13], [7, 8, 9, 10, 11, 12, 13, 14], [], [], [16, 17], [16, 17, 18], [7, 8, 9, 10, 11, 12, 13, 14, 15, 16, 17, 18, 19], [0, 1, 2, 3, 4, 5, 6, 7, 8, 9, 10, 11, 12, 13, 14, 15, 16, 17, 18, 19, 20], [0, 1, 2, 3, 4, 5, 6, 7, 8, 9, 10, 11, 12, 13, 14, 15, 16, 17, 18, 19, 20, 21]] [([0, 1, 2, 3, 4, 5, 6, 7, 8, 9, 10, 11, 12, 13, 14, 15, 16, 17, 18], some (19, [5, 12, 15])), ([], some (20, [5])), ([21], some (22, [])), ([], none)] (by kernel_rfl) (by kernel_rfl) (by exact fun _ _ _ _ h => h) ?_
   simp only [Plan.wpSegs, Plan.pickAll, Plan.nth, V.L_eq]
   obtain ⟨w266, hF267e⟩ : ∃ w1, w1 = w249.drew := ⟨_, rfl⟩
   rw [← hF267e]
   have hF267 : Fr [] w249 w266 := by rw [hF267e]; exact Fr.drew _ _
   have hsw266 : w266.heap.size = w249.heap.size := by rw [hF267e]; rfl
   clear hF267e
   have hB_268 := hB_250.fr0 hF267
   have hRA_269 := hRA_251.fr0 hF267
   have hRB_270 := hRB_252.fr0 hF267
   have hK_271 := hK_253.fr0 hF267
   have hE_272 := hE_254.tr0 hF267
   have hB207_273 := hB207_255.fr0 hF267
   refine V.gm (s0_259) ?_
   refine V.gm (o1 rfl s9_262) ?_
   refine V.ge_ [(45, .pointer (some ⟨t, 0, none⟩))] ⟨(o1 rfl (sm hz257 rfl)), trivial⟩ (.pointer (some ⟨t, 0, none⟩)) ?_
   refine V.ge_ [(47, .pointer (some ⟨t, 0, none⟩))] ⟨(sm hz257.p2 rfl), trivial⟩ (.pointer (some ⟨t, 1, none⟩)) ?_
   refine V.ge_ [(48, .pointer (some ⟨t, 1, none⟩)), (46, .int .i64 1)] ⟨(sm hz257.p2.p1 rfl), (o2 rfl (sm hz257.p1 rfl)), trivial⟩ (.pointer (some ⟨t, 2, none⟩)) ?_
   refine V.go (V.ld ⟨t, 2, none⟩ (.slice (some ⟨gB, 0, none⟩) T1.b.length T1.b.length) (sm hz257.p4 rfl) (by kernel_rfl) (hB_268.at 2 rfl) ?_)
   refine V.gm (v := (.int .i64 ((bkt T1.seed T1.b.length k : Nat) : Int))) (o4 rfl (o2 rfl s10_263)) ?_
   refine V.gm (o4 rfl (o2 rfl (o1 rfl s0_259))) ?_
   refine V.gm (o8 rfl s9_262) ?_
   refine V.ge_ [(52, .pointer (some ⟨t, 0, none⟩))] ⟨(o1 rfl (sm hz257.p4.p2.p1 rfl)), trivial⟩ (.pointer (some ⟨t, 0, none⟩)) ?_
   refine V.ge_ [(54, .pointer (some ⟨t, 0, none⟩))] ⟨(sm hz257.p8.p1 rfl), trivial⟩ (.pointer (some ⟨t, 1, none⟩)) ?_
   refine V.ge_ [(55, .pointer (some ⟨t, 1, none⟩)), (53, .int .i64 1)] ⟨(sm hz257.p8.p2 rfl), (o2 rfl (sm hz257.p8 rfl)), trivial⟩ (.pointer (some ⟨t, 2, none⟩)) ?_
   refine V.go (V.ld ⟨t, 2, none⟩ (.slice (some ⟨gB, 0, none⟩) T1.b.length T1.b.length) (sm hz257.p8.p2.p1 rfl) (by kernel_rfl) (hB_268.at 2 rfl) ?_)
   refine V.gm (v := (.int .i64 ((bkt T1.seed T1.b.length k : Nat) : Int))) (o8 rfl (o4 rfl (o1 rfl s10_263))) ?_
   refine V.go (V.ixa gB 0 T1.b.length T1.b.length .i64 ((bkt T1.seed T1.b.length k : Nat) : Int) 1 (o1 rfl (sm hz257.p8.p4 rfl)) (sm hz257.p8.p4.p1 rfl) (by omega) (by omega) (by kernel_rfl) ?_)
   obtain ⟨A274, c275, hv276⟩ := hK_271.getB hlA (i := (bkt T1.seed T1.b.length k)) (by omega) nilS
   refine V.go (V.ld ⟨gB, 0 + ((bkt T1.seed T1.b.length k : Nat) : Int).toNat * 1, none⟩ (.slice A274 ((T1.b.getD (bkt T1.seed T1.b.length k) []).length) c275) (sm hz257.p8.p4.p2 rfl) (by kernel_rfl) ((hRB_270.at (bkt T1.seed T1.b.length k) nilS (by omega)).trans (congrArg some hv276)) ?_)
   have hS277 := hK_271.slB hlA (i := (bkt T1.seed T1.b.length k)) (by omega) hv276
   refine V.gm (o16 rfl s1_260) ?_
   refine V.gm (o16 rfl (o1 rfl s2_261)) ?_
   refine V.ge_ [(61, .string k), (62, .int .i64 v)] ⟨(o1 rfl (sm hz257.p16 rfl)), (sm hz257.p16.p1 rfl), trivial⟩ (.agg #[.string k, .int .i64 v]) ?_
   refine V.nil ?_
   refine ⟨chk [(45, .pointer (some ⟨t, 0, none⟩)), (52, .pointer (some ⟨t, 0, none⟩))] ⟨(o16 rfl (o2 rfl (sm hz257 rfl))), (o8 rfl (o2 rfl (o1 rfl (sm hz257.p4.p2.p1 rfl)))), trivial⟩ (by kernel_rfl), ?_⟩
   refine V.go (V.mk [(63, .agg #[.string k, .int .i64 v])] ⟨(sm hz257.p16.p2 rfl), trivial⟩ (by kernel_rfl) [.string k, .int .i64 v] 86 (fun b => .slice (some ⟨b, 0, none⟩) 1 1) (by kernel_rfl) ?_)
   intro w279 b278 heb278 hB280 hF281 hsb278
   have hB_282 := hB_268.fr0 hF281
   have hRA_283 := hRA_269.fr0 hF281
   have hRB_284 := hRB_270.fr0 hF281
   have hK_285 := hK_271.alloc hF281 heb278 (by omega)
   have hE_286 := hE_272.tr0 hF281
   have hB207_287 := hB207_273.fr0 hF281
   have hS277_288 := hS277.fr0 hF281
   refine V.nil ?_
   refine ⟨⟨(fun _ => held_blk (n := 1) (hx := (o8 rfl (o4 rfl (o2 rfl (sm hz257.p4 rfl))))) hB_268 hB_282 (by kernel_rfl) rfl (by simp only [List.length]; omega)), (fun _ => held_blk (n := 1) (hx := (o4 rfl (o2 rfl (o1 rfl (sm hz257.p8.p2.p1 rfl))))) hB_268 hB_282 (by kernel_rfl) rfl (by simp only [List.length]; omega)), (fun _ => held_row (hx := (o4 rfl (sm hz257.p8.p4.p2 rfl))) hRB_270 hRB_284 (by kernel_rfl) (by omega))⟩, ?_⟩
   refine V.nil ?_
   refine ⟨chk [] trivial (by kernel_rfl), ?_⟩
   refine V.go (V.appRB (R := itI) (ys := ([(k, v)])) (news := [.string k, .int .i64 v]) hK_285 hlA (i := (bkt T1.seed T1.b.length k)) (by omega) hv276 (o4 rfl (sm hz257.p8.p4.p2.p1 rfl)) ⟨b278, 0, none⟩ 1 1 (sm hz257.p16.p2.p1 rfl) (by kernel_rfl) (info86) (by kernel_rfl) (by decide) rfl ⟨[.string k, .int .i64 v], [], rfl, rfl, rfl⟩ (blk_cells hB280 0 _ rfl) (by omega) (by decide) (.inr (by omega)) ?_)
   intro A289 c290 w291 hK292 hF293 ho294
   have hsw291 := hF293.size
   have hB_295 := hB_282.fr hF293 (fun hm => (ho294 _ hm).1 (by simp))
   have hRA_296 := hRA_283.fr hF293 (fun hm => (ho294 _ hm).1 (by simp))
   have hRB_297 := hRB_284.fr hF293 (fun hm => (ho294 _ hm).1 (by simp))
   have hE_298 := hE_286.tr hF293 (fun k hk => ((ho294 k hk).2).imp (fun h => ⟨h, fun hm => (ho294 k hk).1 (by simp [hm])⟩) id)
   have hB207_299 := hB207_287.fr hF293 (fun hm => (ho294 _ hm).1 (by simp))
   refine V.nil ?_
   refine ⟨(fun _ => held_blk (n := 1) (hx := (o8 rfl (o4 rfl (o2 rfl (o1 rfl (sm hz257.p4 rfl)))))) hB_282 hB_295 (by kernel_rfl) rfl (by simp only [List.length]; omega)), ?_⟩
   refine V.go (V.ixa gB 0 T1.b.length T1.b.length .i64 ((bkt T1.seed T1.b.length k : Nat) : Int) 1 (o8 rfl (o4 rfl (o2 rfl (o1 rfl (sm hz257.p4.p1 rfl))))) (o8 rfl (o4 rfl (o2 rfl (sm hz257.p4.p2 rfl)))) (by omega) (by omega) (by kernel_rfl) ?_)
   refine V.nil ?_
   refine ⟨chk [] trivial (by kernel_rfl), ?_⟩
   refine V.go (V.strow (enc := idV) gB (((bkt T1.seed T1.b.length k : Nat) : Int).toNat) (.slice A289 ((T1.b.getD (bkt T1.seed T1.b.length k) []).length + 1) c290) (sm hz257.p16.p4.p1 rfl) (o1 rfl (sm hz257.p16.p4 rfl)) rfl rfl (by kernel_rfl) hRB_297 (by first | omega | (simp only [List.length_set, List.length_replicate]; omega)) ?_)
   intro w300 hR301 hF302 hsw300
   have hB_303 := hB_295.fr1 hF302 (by omega)
   have hRA_304 := hRA_296.fr1 hF302 (by omega)
   have hE_305 := hE_298.tr1 hF302 (by first | exact .inl (by assumption) | exact .inr (by omega) | exact .inl (.inl rfl))
   have hB207_306 := hB207_299.fr1 hF302 (by omega)
   have hK292_307 := hK292.fr hF302 (by simp)
   refine V.nil ?_
   refine ⟨trivial, ?_⟩
   refine V.nil ?_
   refine ⟨chk [] trivial (by kernel_rfl), ?_⟩
   refine V.then_n (hK265 _ _ ?_)
   refine V.flushW hz257.p16.p4.p2 (fun a308 hz309 up310 => ?_)
   have s0_311 := up310 0 _ (o16 rfl (o4 rfl (o2 rfl s0_259)))
   clear up310
   refine V.seq (fun K312 hK313 => ?_)
   refine V.rg ?_
   refine V.gm (s0_311) ?_
   refine V.ge_ [(67, .pointer (some ⟨t, 0, none⟩))] ⟨(sm hz309 rfl), trivial⟩ (.pointer (some ⟨t, 0, none⟩)) ?_
   refine V.ge_ [(68, .pointer (some ⟨t, 0, none⟩))] ⟨(sm hz309.p1 rfl), trivial⟩ (.pointer (some ⟨t, 4, none⟩)) ?_
   refine V.go (V.ld ⟨t, 4, none⟩ (.int .i64 (T1.n : Int)) (sm hz309.p2 rfl) (by kernel_rfl) (hB_303.at 4 rfl) ?_)
   refine V.gf_ [(70, .int .i64 (T1.n : Int))] ⟨(sm hz309.p2.p1 rfl), trivial⟩ (.int .i64 (IntKind.i64.wrap ((T1.n : Int) + 1))) (.int .i64 ((T1.n : Int) + 1)) (V.w_i64 (by omega) (by omega)) ?_
   refine V.ge_ [(67, .pointer (some ⟨t, 0, none⟩))] ⟨(o4 rfl (sm hz309 rfl)), trivial⟩ (.pointer (some ⟨t, 0, none⟩)) ?_
   refine V.ge_ [(72, .pointer (some ⟨t, 0, none⟩))] ⟨(sm hz309.p4.p1 rfl), trivial⟩ (.pointer (some ⟨t, 4, none⟩)) ?_
   refine V.go (V.stn t 4 (.int .i64 ((T1.n : Int) + 1)) [.int .i64 ((T1.n : Int) + 1)] (sm hz309.p4.p2 rfl) (o2 rfl (sm hz309.p4 rfl)) rfl rfl (by kernel_rfl) hB_303 (by simp) [.int .u64 (T1.seed : Int), .slice (some ⟨gA, 0, none⟩) T1.a.length T1.a.length, .slice (some ⟨gB, 0, none⟩) T1.b.length T1.b.length, .int .i64 (T1.moved : Int), .int .i64 ((T1.n : Int) + 1)] rfl ?_)
   intro w314 hB315 hF316 hsw314
   have hRA_317 := hRA_304.fr1 hF316 (by omega)
   have hE_318 := hE_305.tr1 hF316 (by first | exact .inl (by assumption) | exact .inr (by omega) | exact .inl (.inl rfl))
   have hB207_319 := hB207_306.fr1 hF316 (by omega)
   have hK292_320 := hK292_307.fr hF316 (by simp)
   have hR301_321 := hR301.fr1 hF316 (by omega)
   refine V.nil ?_
   refine V.then_n (hK313 _ _ ?_)
   refine V.flushW hz309.p4.p2.p1 (fun a322 hz323 up324 => ?_)
   have s0_325 := up324 0 _ (o4 rfl (o2 rfl (o1 rfl s0_311)))
   clear up324
   refine V.seq (fun K326 hK327 => ?_)
   refine V.seq (fun K328 hK329 => ?_)
   refine V.plan [[], [0], [0, 1], [0, 1, 2], [0, 1, 2, 3], [0, 1, 2, 3, 4], [0, 1, 2, 3, 4, 5], [0, 1, 2, 3, 4, 5, 6], [0, 1, 2, 3], [0, 1, 2, 3, 8], [0, 1, 2, 3, 8, 9], [0, 1, 2, 3, 8, 9, 10], [0, 1, 2, 3, 8, 9, 10, 11], [0, 1, 2, 3, 8, 9, 10, 11, 12], [0, 1, 2, 3, 4, 5, 6, 7, 8, 9, 10, 11, 12, 13], [0, 1, 2, 3, 4, 5, 6, 7, 8, 9, 10, 11, 12, 13, 14]] [([0], some (1, [])), ([2, 3, 4, 5, 6, 7, 8, 9, 10, 11, 12, 13, 14, 15], none)] (by kernel_rfl) (by kernel_rfl) (by exact fun _ _ _ _ h => h) ?_
   simp only [Plan.wpSegs, Plan.pickAll, Plan.nth, V.L_eq]
   obtain ⟨w330, hF331e⟩ : ∃ w1, w1 = w314.drew := ⟨_, rfl⟩
   rw [← hF331e]
   have hF331 : Fr [] w314 w330 := by rw [hF331e]; exact Fr.drew _ _
   have hsw330 : w330.heap.size = w314.heap.size := by rw [hF331e]; rfl
   clear hF331e
   have hRA_332 := hRA_317.fr0 hF331
   have hE_333 := hE_318.tr0 hF331
   have hB207_334 := hB207_319.fr0 hF331
   have hK292_335 := hK292_320.fr0 hF331
   have hR301_336 := hR301_321.fr0 hF331
   have hB315_337 := hB315.fr0 hF331
   refine V.gm (s0_325) ?_
   refine V.nil ?_
   refine ⟨chk [] trivial (by kernel_rfl), ?_⟩
   refine V.go (V.call 65 #[] #[.pointer (some ⟨t, 0, none⟩)] evf (args1 (sm hz323 rfl)) (Go.Proofs.enters_of Try.func65 (by kernel_rfl) rfl) (moves_M w330 t T1.seed T1.a.length T1.b.length 0 gA gB (.int .i64 (T1.moved : Int)) (.int .i64 ((T1.n : Int) + 1)) hB315_337) ?_)
   rintro _ w339 ⟨rfl, hF338⟩
   refine ⟨_, rfl, ?_⟩
   have hsw339 := hF338.size
   have hRA_340 := hRA_332.fr0 hF338
   have hE_341 := hE_333.tr0 hF338
   have hB207_342 := hB207_334.fr0 hF338
   have hK292_343 := hK292_335.fr0 hF338
   have hR301_344 := hR301_336.fr0 hF338
   have hB315_345 := hB315_337.fr0 hF338
   refine V.nil ?_
   refine ⟨trivial, ?_⟩
   refine V.ge_ [(75, .bool true)] ⟨(sm hz323.p1 rfl), trivial⟩ (.bool false) ?_
   refine V.gm (sm hz323.p2 rfl) ?_
   refine V.go_off 77 (by kernel_rfl) (sm hz323.p2.p1 rfl) (by kernel_rfl) ?_
   refine V.go_off 77 (by kernel_rfl) (o1 rfl (sm hz323.p2.p1 rfl)) (by kernel_rfl) ?_
   refine V.go_off 77 (by kernel_rfl) (o2 rfl (sm hz323.p2.p1 rfl)) (by kernel_rfl) ?_
   refine V.go_off 77 (by kernel_rfl) (o2 rfl (o1 rfl (sm hz323.p2.p1 rfl))) (by kernel_rfl) ?_
   refine V.go_off 77 (by kernel_rfl) (o4 rfl (sm hz323.p2.p1 rfl)) (by kernel_rfl) ?_
   refine V.go_off 77 (by kernel_rfl) (o4 rfl (o1 rfl (sm hz323.p2.p1 rfl))) (by kernel_rfl) ?_
   refine V.go_off 77 (by kernel_rfl) (o4 rfl (o2 rfl (sm hz323.p2.p1 rfl))) (by kernel_rfl) ?_
   refine V.go_off 77 (by kernel_rfl) (o4 rfl (o2 rfl (o1 rfl (sm hz323.p2.p1 rfl)))) (by kernel_rfl) ?_
   refine V.go_off 77 (by kernel_rfl) (o8 rfl (sm hz323.p2.p1 rfl)) (by kernel_rfl) ?_
   refine V.go_off 77 (by kernel_rfl) (o8 rfl (o1 rfl (sm hz323.p2.p1 rfl))) (by kernel_rfl) ?_
   refine V.go_off 77 (by kernel_rfl) (o8 rfl (o2 rfl (sm hz323.p2.p1 rfl))) (by kernel_rfl) ?_
   refine V.go (V.pk_f (o8 rfl (o2 rfl (o1 rfl (sm hz323.p2.p1 rfl)))) (v := (.bool false)) evc ?_)
   refine V.nil ?_
   refine ⟨chk [(78, undef), (82, undef), (86, undef), (81, undef), (87, undef), (77, .bool false)] ⟨(o8 rfl (o2 rfl (o1 rfl (sm hz323.p4 rfl)))), (o4 rfl (o2 rfl (o1 rfl (sm hz323.p8 rfl)))), (o2 rfl (o1 rfl (sm hz323.p8.p4 rfl))), (o8 rfl (sm hz323.p4.p2.p1 rfl)), (o2 rfl (sm hz323.p8.p4.p1 rfl)), (o8 rfl (o4 rfl (sm hz323.p2.p1 rfl))), trivial⟩ (by kernel_rfl), ?_⟩
   refine V.then_n (hK329 _ _ ?_)
   refine V.flushW hz323.p16 (fun a346 hz347 up348 => ?_)
   have s0_349 := up348 0 _ (o16 rfl s0_325)
   have s89_350 := up348 89 _ (sm hz323.p8.p4.p2.p1 rfl)
   clear up348
   refine V.cond_f (s89_350) ?_
   refine V.skip ?_
   refine V.then_n (hK327 _ _ ?_)
   refine V.seq (fun K351 hK352 => ?_)
   refine V.rg ?_
   refine V.ga evc ?_
   refine V.nil ?_
   refine V.then_n (hK352 _ _ ?_)
   refine V.ret ?_
   refine V.ret1 hz347.p1 rfl (sm hz347 rfl) ?_
   have hst : putT T k v = insT T1 k v := by (unfold putT; rw [← hT1]; unfold put1T; rw [hf, if_neg (by simp)])
   have hup := (insT_ok hok1 hm1 (by omega) k hkz v).1
   rw [hst]
   have hu2 : insT T1 k v = ({ T1 with b := putB T1.seed T1.b (k, v), n := T1.n + 1 } : Tb Int) := by (unfold insT; rw [if_neg hb1])
   rw [hu2] at hup ⊢
   exact ⟨by rw [hf], (TabM.fin (T := ({ T1 with b := putB T1.seed T1.b (k, v), n := T1.n + 1 })) hup (fun h => hb1 (by have := congrArg List.length h; rwa [putB_length] at this)) hB315_345 hRA_340 hR301_344 (by first | exact hlA | (simp only [List.length_set]; exact hlA)) hK292_343 (mem4 (l := (b278 :: b197 :: t :: gA :: gB :: av)) (by simp) (by simp) (by simp) (by intro k hk; simp [hk])) (by first | assumption | omega) (by first | assumption | omega) (by first | assumption | omega) hpt ⟨.inl hpg.1, hpg.2⟩ ⟨.inl hph.1, hph.2⟩ rfl rfl rfl (by simp) rfl rfl (putB_length _ _ _).symm).gr3 (by omega), (hFPE.gr hE_341)⟩
 ·
  rcases hT20q.2 with ⟨hb0, gA, vsA, hN⟩ | ⟨hb0, gA, gB, vsA, vsB, hN⟩
  ·
   have hb1 : T1.b.length = 0 := by rw [hb0]; rfl
   obtain ⟨hB, hRA, hlA, hK, hne, hpt, hpg⟩ := hN
   replace hK := hK.toH
   have hltt := hB.lt
   have hltg := hRA.lt
   have hE : FrP (gp (gr H w w22) av) w22 w22 := FrP.refl _ _
   have hK0 : ∀ k ∈ av, k < w22.heap.size := fun k hk => hK.avl k (by simp [hk])
   obtain ⟨hsd, hpa, hla, hlb, hmv, hmz, hnn, hcn, hks⟩ := (show T1.Ok from hok1)
   have hbl := hok1.bl
   have hFPE := hFP_23
   refine V.go (V.call 53 #[] #[.pointer (some ⟨t, 0, none⟩), .string k] evf (args2 (o1 rfl (sm hz12.p2 rfl)) (sm hz12.p2.p1 rfl)) (Go.Proofs.enters_of Try.func53 (by kernel_rfl) rfl) (by have h := find_any w22 (gr H w w22) (av) t T1 hT20q k hkz; rw [hf] at h; exact h) ?_)
   rintro _ w354 ⟨rfl, hF353⟩
   refine ⟨_, rfl, ?_⟩
   have hsw354 := hF353.size
   have hB_355 := hB.fr0 hF353
   have hRA_356 := hRA.fr0 hF353
   have hK_357 := hK.fr0 hF353
   have hE_358 := hE.tr0 hF353
   have hbkl := bkt_lt T1.seed k (n := T1.a.length) (by omega)
   refine V.gm (sm hz12.p4 rfl) ?_
   refine V.ge_ [(16, .tuple #[.agg #[.int .i64 0, .int .i64 ((bkt T1.seed T1.a.length k : Nat) : Int), .int .i64 (j : Int)], .bool true])] ⟨(sm hz12.p4.p1 rfl), trivial⟩ (.agg #[.int .i64 0, .int .i64 ((bkt T1.seed T1.a.length k : Nat) : Int), .int .i64 (j : Int)]) ?_
   refine V.ge_ [(16, .tuple #[.agg #[.int .i64 0, .int .i64 ((bkt T1.seed T1.a.length k : Nat) : Int), .int .i64 (j : Int)], .bool true])] ⟨(o1 rfl (sm hz12.p4.p1 rfl)), trivial⟩ (.bool true) ?_
   refine V.go (V.mk [] trivial (by kernel_rfl) [.int .i64 0, .int .i64 0, .int .i64 0] 82 (fun b => .pointer (some ⟨b, 0, none⟩)) (by kernel_rfl) ?_)
   intro w360 b359 heb359 hB361 hF362 hsb359
   have hB_363 := hB_355.fr0 hF362
   have hRA_364 := hRA_356.fr0 hF362
   have hK_365 := hK_357.alloc hF362 heb359 (by omega)
   have hE_366 := hE_358.tr0 hF362
   refine V.go (V.stn b359 0 (.agg #[.int .i64 0, .int .i64 ((bkt T1.seed T1.a.length k : Nat) : Int), .int .i64 (j : Int)]) [.int .i64 0, .int .i64 ((bkt T1.seed T1.a.length k : Nat) : Int), .int .i64 (j : Int)] (sm hz12.p8 rfl) (o2 rfl (sm hz12.p4.p2 rfl)) rfl rfl (by kernel_rfl) hB361 (by simp) [.int .i64 0, .int .i64 ((bkt T1.seed T1.a.length k : Nat) : Int), .int .i64 (j : Int)] rfl ?_)
   intro w367 hB368 hF369 hsw367
   have hB_370 := hB_363.fr1 hF369 (by omega)
   have hRA_371 := hRA_364.fr1 hF369 (by omega)
   have hK_372 := hK_365.fr hF369 (by simp)
   have hE_373 := hE_366.tr1 hF369 (by first | exact .inl (by assumption) | exact .inr (by omega) | exact .inl (.inl rfl))
   refine V.ga (o1 rfl (sm hz12.p4.p2.p1 rfl)) ?_
   refine V.nil ?_
   refine V.then_n (hK27 _ _ ?_)
   refine V.flushW hz12.p8.p2 (fun a374 hz375 up376 => ?_)
   have s0_377 := up376 0 _ (o8 rfl (o2 rfl s0_14))
   have s1_378 := up376 1 _ (o8 rfl (o2 rfl s1_15))
   have s2_379 := up376 2 _ (o8 rfl (o2 rfl s2_16))
   have s7_380 := up376 7 _ (o1 rfl (sm hz12.p8 rfl))
   have s8_381 := up376 8 _ (sm hz12.p8.p1 rfl)
   clear up376
   refine V.seq (fun K382 hK383 => ?_)
   refine V.rg ?_
   refine V.gm (s8_381) ?_
   refine V.nil ?_
   refine V.then_n (hK383 _ _ ?_)
   refine V.cond_t (sm hz375 rfl) ?_
   refine V.seq (fun K384 hK385 => ?_)
   refine V.plan [[], [], [1], [0], [0, 3], [0, 1, 2, 3, 4], [0, 1, 2, 3, 4, 5], [], [7], [0, 1, 2, 3, 4, 5, 6, 7, 8], [0, 1, 2, 3, 4, 5, 6, 7, 8, 9], [], [11], [], [0, 1, 2, 3, 4, 5, 6, 7, 8, 9, 10, 11, 12, 13], [0, 1, 2, 3, 4, 5, 6, 7, 8, 9, 10, 11, 12, 13, 14], [0, 1, 2, 3, 4, 5, 6, 7, 8, 9, 10, 11, 12, 13, 14, 15]] [([0, 1, 2, 3, 4, 5, 6, 7, 8, 9, 10, 11, 12, 13, 14, 15], some (16, [])), ([], none)] (by kernel_rfl) (by kernel_rfl) (by exact fun _ _ _ _ h => h) ?_
   simp only [Plan.wpSegs, Plan.pickAll, Plan.nth, V.L_eq]
   obtain ⟨w386, hF387e⟩ : ∃ w1, w1 = w367.drew := ⟨_, rfl⟩
   rw [← hF387e]
   have hF387 : Fr [] w367 w386 := by rw [hF387e]; exact Fr.drew _ _
   have hsw386 : w386.heap.size = w367.heap.size := by rw [hF387e]; rfl
   clear hF387e
   have hB_388 := hB_370.fr0 hF387
   have hRA_389 := hRA_371.fr0 hF387
   have hK_390 := hK_372.fr0 hF387
   have hE_391 := hE_373.tr0 hF387
   have hB368_392 := hB368.fr0 hF387
   refine V.gm (o1 rfl s0_377) ?_
   refine V.ge_ [(7, .pointer (some ⟨b359, 0, none⟩))] ⟨(o2 rfl s7_380), trivial⟩ (.pointer (some ⟨b359, 0, none⟩)) ?_
   refine V.go (V.ld ⟨b359, 0, none⟩ (.int .i64 0) (sm hz375.p2 rfl) (by kernel_rfl) (hB368_392.at 0 rfl) ?_)
   refine V.ge_ [(23, .pointer (some ⟨t, 0, none⟩))] ⟨(o2 rfl (sm hz375.p1 rfl)), trivial⟩ (.pointer (some ⟨t, 0, none⟩)) ?_
   refine V.ge_ [(26, .pointer (some ⟨t, 0, none⟩))] ⟨(sm hz375.p4 rfl), trivial⟩ (.pointer (some ⟨t, 1, none⟩)) ?_
   refine V.ge_ [(27, .pointer (some ⟨t, 1, none⟩)), (25, .int .i64 0)] ⟨(sm hz375.p4.p1 rfl), (o2 rfl (sm hz375.p2.p1 rfl)), trivial⟩ (.pointer (some ⟨t, 1, none⟩)) ?_
   refine V.go (V.ld ⟨t, 1, none⟩ (.slice (some ⟨gA, 0, none⟩) T1.a.length T1.a.length) (sm hz375.p4.p2 rfl) (by kernel_rfl) (hB_388.at 1 rfl) ?_)
   refine V.ge_ [(7, .pointer (some ⟨b359, 0, none⟩))] ⟨(o8 rfl s7_380), trivial⟩ (.pointer (some ⟨b359, 1, none⟩)) ?_
   refine V.go (V.ld ⟨b359, 1, none⟩ (.int .i64 ((bkt T1.seed T1.a.length k : Nat) : Int)) (sm hz375.p8 rfl) (by kernel_rfl) (hB368_392.at 1 rfl) ?_)
   refine V.go (V.ixa gA 0 T1.a.length T1.a.length .i64 ((bkt T1.seed T1.a.length k : Nat) : Int) 1 (o2 rfl (sm hz375.p4.p2.p1 rfl)) (sm hz375.p8.p1 rfl) (by omega) (by omega) (by kernel_rfl) ?_)
   obtain ⟨A393, c394, hv395⟩ := hK_390.getA hlA (i := (bkt T1.seed T1.a.length k)) (by omega) nilS
   refine V.go (V.ld ⟨gA, 0 + ((bkt T1.seed T1.a.length k : Nat) : Int).toNat * 1, none⟩ (.slice A393 ((T1.a.getD (bkt T1.seed T1.a.length k) []).length) c394) (sm hz375.p8.p2 rfl) (by kernel_rfl) ((hRA_389.at (bkt T1.seed T1.a.length k) nilS (by omega)).trans (congrArg some hv395)) ?_)
   have hS396 := hK_390.slA hlA (i := (bkt T1.seed T1.a.length k)) (by omega) hv395
   refine V.ge_ [(7, .pointer (some ⟨b359, 0, none⟩))] ⟨(o8 rfl (o4 rfl s7_380)), trivial⟩ (.pointer (some ⟨b359, 2, none⟩)) ?_
   refine V.go (V.ld ⟨b359, 2, none⟩ (.int .i64 (j : Int)) (sm hz375.p8.p4 rfl) (by kernel_rfl) (hB368_392.at 2 rfl) ?_)
   refine V.gm (o8 rfl (o4 rfl (o2 rfl s2_379))) ?_
   obtain ⟨g397, o398, hA399, hA399l, hA399z⟩ := hS396.addr (by omega)
   refine V.go (V.ixa g397 o398 ((T1.a.getD (bkt T1.seed T1.a.length k) []).length) c394 .i64 (j : Int) 2 ((o2 rfl (o1 rfl (sm hz375.p8.p2.p1 rfl))).trans (by rw [hA399])) (o1 rfl (sm hz375.p8.p4.p1 rfl)) (by omega) (by omega) (by kernel_rfl) ?_)
   refine V.go (V.fa (sm hz375.p8.p4.p2.p1 rfl) 1 (fun _ _ => by kernel_rfl) ?_)
   refine V.nil ?_
   refine ⟨chk [(23, .pointer (some ⟨t, 0, none⟩))] ⟨(o8 rfl (o4 rfl (o2 rfl (o1 rfl (sm hz375.p1 rfl))))), trivial⟩ (by kernel_rfl), ?_⟩
   refine V.go (V.stRA (R := itI) (j := j) (f := 1) hK_390 hlA (i := (bkt T1.seed T1.a.length k)) (by omega) hv395 hA399 (by omega) (by decide) (.int .i64 v) (fun x => (x.1, v)) (sm hz375.p16 rfl) (o2 rfl (sm hz375.p8.p4.p2 rfl)) rfl rfl (by kernel_rfl) (fun w1 x c hc => by (have hc' : c = [.string x.1, .int .i64 x.2] := hc; subst hc'; rfl)) ?_)
   intro w400 hK401 hF402 hsw400 ho403
   have hB_404 := hB_388.fr hF402 (fun hm => (ho403 _ hm).1 (by simp))
   have hRA_405 := hRA_389.fr hF402 (fun hm => (ho403 _ hm).1 (by simp))
   have hE_406 := hE_391.tr hF402 (fun k hk => ((ho403 k hk).2).imp (fun h => ⟨h, fun hm => (ho403 k hk).1 (by simp [hm])⟩) id)
   have hB368_407 := hB368_392.fr hF402 (fun hm => (ho403 _ hm).1 (by simp))
   refine V.nil ?_
   refine ⟨trivial, ?_⟩
   refine V.nil ?_
   refine ⟨chk [] trivial (by kernel_rfl), ?_⟩
   refine V.then_n (hK385 _ _ ?_)
   refine V.flushW hz375.p16.p1 (fun a408 hz409 up410 => ?_)
   have s0_411 := up410 0 _ (o16 rfl (o1 rfl s0_377))
   have s1_412 := up410 1 _ (o16 rfl (o1 rfl s1_378))
   have s2_413 := up410 2 _ (o16 rfl (o1 rfl s2_379))
   clear up410
   refine V.seq (fun K414 hK415 => ?_)
   refine V.rg ?_
   refine V.ga evc ?_
   refine V.nil ?_
   refine V.then_n (hK415 _ _ ?_)
   refine V.ret ?_
   refine V.then_r ?_
   refine V.ret1 hz409.p1 rfl (sm hz409 rfl) ?_
   have hst : putT T k v = ({ T1 with a := setV T1.a (bkt T1.seed T1.a.length k) j v } : Tb Int) := by (unfold putT; rw [← hT1]; unfold put1T; rw [hf, if_pos rfl]; unfold updT; rw [hf]; simp)
   have hup := (updT_ok hok1 hm1 k v).1
   have hu2 : updT T1 k v = ({ T1 with a := setV T1.a (bkt T1.seed T1.a.length k) j v } : Tb Int) := by (unfold updT; rw [hf]; simp)
   rw [hu2] at hup
   rw [hst]
   exact ⟨by rw [hf], (TabN.fin (T := ({ T1 with a := setV T1.a (bkt T1.seed T1.a.length k) j v })) hup hb0 hB_404 hRA_405 (by have h := hK401; rw [List.append_nil, List.append_nil] at h; exact h) (mem3 (l := (b359 :: t :: gA :: av)) (by simp) (by simp) (by intro k hk; simp [hk])) (by first | assumption | exact Ne.symm (by assumption) | omega) hpt ⟨.inl hpg.1, hpg.2⟩ rfl (setV_length _ _ _ _).symm rfl rfl rfl).gr3 (by omega), (hFPE.gr hE_406)⟩
  ·
   have hb1 : T1.b.length ≠ 0 := fun h => hb0 (List.eq_nil_of_length_eq_zero h)
   obtain ⟨hB, hRA, hRB, hlA, hlB, hK, hne, hne2, hne3, hpt, hpg, hph⟩ := hN
   replace hK := hK.toH
   have hltt := hB.lt
   have hltg := hRA.lt
   have hltg2 := hRB.lt
   have hE : FrP (gp (gr H w w22) av) w22 w22 := FrP.refl _ _
   have hK0 : ∀ k ∈ av, k < w22.heap.size := fun k hk => hK.avl k (by simp [hk])
   obtain ⟨hsd, hpa, hla, hlb, hmv, hmz, hnn, hcn, hks⟩ := (show T1.Ok from hok1)
   have hbl := hok1.bl
   have hFPE := hFP_23
   refine V.go (V.call 53 #[] #[.pointer (some ⟨t, 0, none⟩), .string k] evf (args2 (o1 rfl (sm hz12.p2 rfl)) (sm hz12.p2.p1 rfl)) (Go.Proofs.enters_of Try.func53 (by kernel_rfl) rfl) (by have h := find_any w22 (gr H w w22) (av) t T1 hT20q k hkz; rw [hf] at h; exact h) ?_)
   rintro _ w417 ⟨rfl, hF416⟩
   refine ⟨_, rfl, ?_⟩
   have hsw417 := hF416.size
   have hB_418 := hB.fr0 hF416
   have hRA_419 := hRA.fr0 hF416
   have hRB_420 := hRB.fr0 hF416
   have hK_421 := hK.fr0 hF416
   have hE_422 := hE.tr0 hF416
   have hbkl := bkt_lt T1.seed k (n := T1.a.length) (by omega)
   refine V.gm (sm hz12.p4 rfl) ?_
   refine V.ge_ [(16, .tuple #[.agg #[.int .i64 0, .int .i64 ((bkt T1.seed T1.a.length k : Nat) : Int), .int .i64 (j : Int)], .bool true])] ⟨(sm hz12.p4.p1 rfl), trivial⟩ (.agg #[.int .i64 0, .int .i64 ((bkt T1.seed T1.a.length k : Nat) : Int), .int .i64 (j : Int)]) ?_
   refine V.ge_ [(16, .tuple #[.agg #[.int .i64 0, .int .i64 ((bkt T1.seed T1.a.length k : Nat) : Int), .int .i64 (j : Int)], .bool true])] ⟨(o1 rfl (sm hz12.p4.p1 rfl)), trivial⟩ (.bool true) ?_
   refine V.go (V.mk [] trivial (by kernel_rfl) [.int .i64 0, .int .i64 0, .int .i64 0] 82 (fun b => .pointer (some ⟨b, 0, none⟩)) (by kernel_rfl) ?_)
   intro w424 b423 heb423 hB425 hF426 hsb423
   have hB_427 := hB_418.fr0 hF426
   have hRA_428 := hRA_419.fr0 hF426
   have hRB_429 := hRB_420.fr0 hF426
   have hK_430 := hK_421.alloc hF426 heb423 (by omega)
   have hE_431 := hE_422.tr0 hF426
   refine V.go (V.stn b423 0 (.agg #[.int .i64 0, .int .i64 ((bkt T1.seed T1.a.length k : Nat) : Int), .int .i64 (j : Int)]) [.int .i64 0, .int .i64 ((bkt T1.seed T1.a.length k : Nat) : Int), .int .i64 (j : Int)] (sm hz12.p8 rfl) (o2 rfl (sm hz12.p4.p2 rfl)) rfl rfl (by kernel_rfl) hB425 (by simp) [.int .i64 0, .int .i64 ((bkt T1.seed T1.a.length k : Nat) : Int), .int .i64 (j : Int)] rfl ?_)
   intro w432 hB433 hF434 hsw432
   have hB_435 := hB_427.fr1 hF434 (by omega)
   have hRA_436 := hRA_428.fr1 hF434 (by omega)
   have hRB_437 := hRB_429.fr1 hF434 (by omega)
   have hK_438 := hK_430.fr hF434 (by simp)
   have hE_439 := hE_431.tr1 hF434 (by first | exact .inl (by assumption) | exact .inr (by omega) | exact .inl (.inl rfl))
   refine V.ga (o1 rfl (sm hz12.p4.p2.p1 rfl)) ?_
   refine V.nil ?_
   refine V.then_n (hK27 _ _ ?_)
   refine V.flushW hz12.p8.p2 (fun a440 hz441 up442 => ?_)
   have s0_443 := up442 0 _ (o8 rfl (o2 rfl s0_14))
   have s1_444 := up442 1 _ (o8 rfl (o2 rfl s1_15))
   have s2_445 := up442 2 _ (o8 rfl (o2 rfl s2_16))
   have s7_446 := up442 7 _ (o1 rfl (sm hz12.p8 rfl))
   have s8_447 := up442 8 _ (sm hz12.p8.p1 rfl)
   clear up442
   refine V.seq (fun K448 hK449 => ?_)
   refine V.rg ?_
   refine V.gm (s8_447) ?_
   refine V.nil ?_
   refine V.then_n (hK449 _ _ ?_)
   refine V.cond_t (sm hz441 rfl) ?_
   refine V.seq (fun K450 hK451 => ?_)
   refine V.plan [[], [], [1], [0], [0, 3], [0, 1, 2, 3, 4], [0, 1, 2, 3, 4, 5], [], [7], [0, 1, 2, 3, 4, 5, 6, 7, 8], [0, 1, 2, 3, 4, 5, 6, 7, 8, 9], [], [11], [], [0, 1, 2, 3, 4, 5, 6, 7, 8, 9, 10, 11, 12, 13], [0, 1, 2, 3, 4, 5, 6, 7, 8, 9, 10, 11, 12, 13, 14], [0, 1, 2, 3, 4, 5, 6, 7, 8, 9, 10, 11, 12, 13, 14, 15]] [([0, 1, 2, 3, 4, 5, 6, 7, 8, 9, 10, 11, 12, 13, 14, 15], some (16, [])), ([], none)] (by kernel_rfl) (by kernel_rfl) (by exact fun _ _ _ _ h => h) ?_
   simp only [Plan.wpSegs, Plan.pickAll, Plan.nth, V.L_eq]
   obtain ⟨w452, hF453e⟩ : ∃ w1, w1 = w432.drew := ⟨_, rfl⟩
   rw [← hF453e]
   have hF453 : Fr [] w432 w452 := by rw [hF453e]; exact Fr.drew _ _
   have hsw452 : w452.heap.size = w432.heap.size := by rw [hF453e]; rfl
   clear hF453e
   have hB_454 := hB_435.fr0 hF453
   have hRA_455 := hRA_436.fr0 hF453
   have hRB_456 := hRB_437.fr0 hF453
   have hK_457 := hK_438.fr0 hF453
   have hE_458 := hE_439.tr0 hF453
   have hB433_459 := hB433.fr0 hF453
   refine V.gm (o1 rfl s0_443) ?_
   refine V.ge_ [(7, .pointer (some ⟨b423, 0, none⟩))] ⟨(o2 rfl s7_446), trivial⟩ (.pointer (some ⟨b423, 0, none⟩)) ?_
   refine V.go (V.ld ⟨b423, 0, none⟩ (.int .i64 0) (sm hz441.p2 rfl) (by kernel_rfl) (hB433_459.at 0 rfl) ?_)
   refine V.ge_ [(23, .pointer (some ⟨t, 0, none⟩))] ⟨(o2 rfl (sm hz441.p1 rfl)), trivial⟩ (.pointer (some ⟨t, 0, none⟩)) ?_
   refine V.ge_ [(26, .pointer (some ⟨t, 0, none⟩))] ⟨(sm hz441.p4 rfl), trivial⟩ (.pointer (some ⟨t, 1, none⟩)) ?_
   refine V.ge_ [(27, .pointer (some ⟨t, 1, none⟩)), (25, .int .i64 0)] ⟨(sm hz441.p4.p1 rfl), (o2 rfl (sm hz441.p2.p1 rfl)), trivial⟩ (.pointer (some ⟨t, 1, none⟩)) ?_
   refine V.go (V.ld ⟨t, 1, none⟩ (.slice (some ⟨gA, 0, none⟩) T1.a.length T1.a.length) (sm hz441.p4.p2 rfl) (by kernel_rfl) (hB_454.at 1 rfl) ?_)
   refine V.ge_ [(7, .pointer (some ⟨b423, 0, none⟩))] ⟨(o8 rfl s7_446), trivial⟩ (.pointer (some ⟨b423, 1, none⟩)) ?_
   refine V.go (V.ld ⟨b423, 1, none⟩ (.int .i64 ((bkt T1.seed T1.a.length k : Nat) : Int)) (sm hz441.p8 rfl) (by kernel_rfl) (hB433_459.at 1 rfl) ?_)
   refine V.go (V.ixa gA 0 T1.a.length T1.a.length .i64 ((bkt T1.seed T1.a.length k : Nat) : Int) 1 (o2 rfl (sm hz441.p4.p2.p1 rfl)) (sm hz441.p8.p1 rfl) (by omega) (by omega) (by kernel_rfl) ?_)
   obtain ⟨A460, c461, hv462⟩ := hK_457.getA hlA (i := (bkt T1.seed T1.a.length k)) (by omega) nilS
   refine V.go (V.ld ⟨gA, 0 + ((bkt T1.seed T1.a.length k : Nat) : Int).toNat * 1, none⟩ (.slice A460 ((T1.a.getD (bkt T1.seed T1.a.length k) []).length) c461) (sm hz441.p8.p2 rfl) (by kernel_rfl) ((hRA_455.at (bkt T1.seed T1.a.length k) nilS (by omega)).trans (congrArg some hv462)) ?_)
   have hS463 := hK_457.slA hlA (i := (bkt T1.seed T1.a.length k)) (by omega) hv462
   refine V.ge_ [(7, .pointer (some ⟨b423, 0, none⟩))] ⟨(o8 rfl (o4 rfl s7_446)), trivial⟩ (.pointer (some ⟨b423, 2, none⟩)) ?_
   refine V.go (V.ld ⟨b423, 2, none⟩ (.int .i64 (j : Int)) (sm hz441.p8.p4 rfl) (by kernel_rfl) (hB433_459.at 2 rfl) ?_)
   refine V.gm (o8 rfl (o4 rfl (o2 rfl s2_445))) ?_
   obtain ⟨g464, o465, hA466, hA466l, hA466z⟩ := hS463.addr (by omega)
   refine V.go (V.ixa g464 o465 ((T1.a.getD (bkt T1.seed T1.a.length k) []).length) c461 .i64 (j : Int) 2 ((o2 rfl (o1 rfl (sm hz441.p8.p2.p1 rfl))).trans (by rw [hA466])) (o1 rfl (sm hz441.p8.p4.p1 rfl)) (by omega) (by omega) (by kernel_rfl) ?_)
   refine V.go (V.fa (sm hz441.p8.p4.p2.p1 rfl) 1 (fun _ _ => by kernel_rfl) ?_)
   refine V.nil ?_
   refine ⟨chk [(23, .pointer (some ⟨t, 0, none⟩))] ⟨(o8 rfl (o4 rfl (o2 rfl (o1 rfl (sm hz441.p1 rfl))))), trivial⟩ (by kernel_rfl), ?_⟩
   refine V.go (V.stRA (R := itI) (j := j) (f := 1) hK_457 hlA (i := (bkt T1.seed T1.a.length k)) (by omega) hv462 hA466 (by omega) (by decide) (.int .i64 v) (fun x => (x.1, v)) (sm hz441.p16 rfl) (o2 rfl (sm hz441.p8.p4.p2 rfl)) rfl rfl (by kernel_rfl) (fun w1 x c hc => by (have hc' : c = [.string x.1, .int .i64 x.2] := hc; subst hc'; rfl)) ?_)
   intro w467 hK468 hF469 hsw467 ho470
   have hB_471 := hB_454.fr hF469 (fun hm => (ho470 _ hm).1 (by simp))
   have hRA_472 := hRA_455.fr hF469 (fun hm => (ho470 _ hm).1 (by simp))
   have hRB_473 := hRB_456.fr hF469 (fun hm => (ho470 _ hm).1 (by simp))
   have hE_474 := hE_458.tr hF469 (fun k hk => ((ho470 k hk).2).imp (fun h => ⟨h, fun hm => (ho470 k hk).1 (by simp [hm])⟩) id)
   have hB433_475 := hB433_459.fr hF469 (fun hm => (ho470 _ hm).1 (by simp))
   refine V.nil ?_
   refine ⟨trivial, ?_⟩
   refine V.nil ?_
   refine ⟨chk [] trivial (by kernel_rfl), ?_⟩
   refine V.then_n (hK451 _ _ ?_)
   refine V.flushW hz441.p16.p1 (fun a476 hz477 up478 => ?_)
   have s0_479 := up478 0 _ (o16 rfl (o1 rfl s0_443))
   have s1_480 := up478 1 _ (o16 rfl (o1 rfl s1_444))
   have s2_481 := up478 2 _ (o16 rfl (o1 rfl s2_445))
   clear up478
   refine V.seq (fun K482 hK483 => ?_)
   refine V.rg ?_
   refine V.ga evc ?_
   refine V.nil ?_
   refine V.then_n (hK483 _ _ ?_)
   refine V.ret ?_
   refine V.then_r ?_
   refine V.ret1 hz477.p1 rfl (sm hz477 rfl) ?_
   have hst : putT T k v = ({ T1 with a := setV T1.a (bkt T1.seed T1.a.length k) j v } : Tb Int) := by (unfold putT; rw [← hT1]; unfold put1T; rw [hf, if_pos rfl]; unfold updT; rw [hf]; simp)
   have hup := (updT_ok hok1 hm1 k v).1
   have hu2 : updT T1 k v = ({ T1 with a := setV T1.a (bkt T1.seed T1.a.length k) j v } : Tb Int) := by (unfold updT; rw [hf]; simp)
   rw [hu2] at hup
   rw [hst]
   exact ⟨by rw [hf], (TabM.fin (T := ({ T1 with a := setV T1.a (bkt T1.seed T1.a.length k) j v })) hup hb0 hB_471 hRA_472 hRB_473 (by first | exact hlA | (simp only [List.length_set]; exact hlA)) hK468 (mem4 (l := (b423 :: t :: gA :: gB :: av)) (by simp) (by simp) (by simp) (by intro k hk; simp [hk])) (by first | assumption | omega) (by first | assumption | omega) (by first | assumption | omega) hpt ⟨.inl hpg.1, hpg.2⟩ ⟨.inl hph.1, hph.2⟩ rfl (setV_length _ _ _ _).symm rfl rfl rfl rfl rfl).gr3 (by omega), (hFPE.gr hE_474)⟩
 ·
  rcases hT20q.2 with ⟨hb0, gA, vsA, hN⟩ | ⟨hb0, gA, gB, vsA, vsB, hN⟩
  ·
   exact absurd (by rw [hb0]; rfl) hbn
  ·
   have hb1 : T1.b.length ≠ 0 := fun h => hb0 (List.eq_nil_of_length_eq_zero h)
   obtain ⟨hB, hRA, hRB, hlA, hlB, hK, hne, hne2, hne3, hpt, hpg, hph⟩ := hN
   replace hK := hK.toH
   have hltt := hB.lt
   have hltg := hRA.lt
   have hltg2 := hRB.lt
   have hE : FrP (gp (gr H w w22) av) w22 w22 := FrP.refl _ _
   have hK0 : ∀ k ∈ av, k < w22.heap.size := fun k hk => hK.avl k (by simp [hk])
   obtain ⟨hsd, hpa, hla, hlb, hmv, hmz, hnn, hcn, hks⟩ := (show T1.Ok from hok1)
   have hbl := hok1.bl
   have hFPE := hFP_23
   refine V.go (V.call 53 #[] #[.pointer (some ⟨t, 0, none⟩), .string k] evf (args2 (o1 rfl (sm hz12.p2 rfl)) (sm hz12.p2.p1 rfl)) (Go.Proofs.enters_of Try.func53 (by kernel_rfl) rfl) (by have h := find_any w22 (gr H w w22) (av) t T1 hT20q k hkz; rw [hf] at h; exact h) ?_)
   rintro _ w485 ⟨rfl, hF484⟩
   refine ⟨_, rfl, ?_⟩
   have hsw485 := hF484.size
   have hB_486 := hB.fr0 hF484
   have hRA_487 := hRA.fr0 hF484
   have hRB_488 := hRB.fr0 hF484
   have hK_489 := hK.fr0 hF484
   have hE_490 := hE.tr0 hF484
   have hbkl := bkt_lt T1.seed k (n := T1.b.length) (by omega)
   refine V.gm (sm hz12.p4 rfl) ?_
   refine V.ge_ [(16, .tuple #[.agg #[.int .i64 1, .int .i64 ((bkt T1.seed T1.b.length k : Nat) : Int), .int .i64 (j : Int)], .bool true])] ⟨(sm hz12.p4.p1 rfl), trivial⟩ (.agg #[.int .i64 1, .int .i64 ((bkt T1.seed T1.b.length k : Nat) : Int), .int .i64 (j : Int)]) ?_
   refine V.ge_ [(16, .tuple #[.agg #[.int .i64 1, .int .i64 ((bkt T1.seed T1.b.length k : Nat) : Int), .int .i64 (j : Int)], .bool true])] ⟨(o1 rfl (sm hz12.p4.p1 rfl)), trivial⟩ (.bool true) ?_
   refine V.go (V.mk [] trivial (by kernel_rfl) [.int .i64 0, .int .i64 0, .int .i64 0] 82 (fun b => .pointer (some ⟨b, 0, none⟩)) (by kernel_rfl) ?_)
   intro w492 b491 heb491 hB493 hF494 hsb491
   have hB_495 := hB_486.fr0 hF494
   have hRA_496 := hRA_487.fr0 hF494
   have hRB_497 := hRB_488.fr0 hF494
   have hK_498 := hK_489.alloc hF494 heb491 (by omega)
   have hE_499 := hE_490.tr0 hF494
   refine V.go (V.stn b491 0 (.agg #[.int .i64 1, .int .i64 ((bkt T1.seed T1.b.length k : Nat) : Int), .int .i64 (j : Int)]) [.int .i64 1, .int .i64 ((bkt T1.seed T1.b.length k : Nat) : Int), .int .i64 (j : Int)] (sm hz12.p8 rfl) (o2 rfl (sm hz12.p4.p2 rfl)) rfl rfl (by kernel_rfl) hB493 (by simp) [.int .i64 1, .int .i64 ((bkt T1.seed T1.b.length k : Nat) : Int), .int .i64 (j : Int)] rfl ?_)
   intro w500 hB501 hF502 hsw500
   have hB_503 := hB_495.fr1 hF502 (by omega)
   have hRA_504 := hRA_496.fr1 hF502 (by omega)
   have hRB_505 := hRB_497.fr1 hF502 (by omega)
   have hK_506 := hK_498.fr hF502 (by simp)
   have hE_507 := hE_499.tr1 hF502 (by first | exact .inl (by assumption) | exact .inr (by omega) | exact .inl (.inl rfl))
   refine V.ga (o1 rfl (sm hz12.p4.p2.p1 rfl)) ?_
   refine V.nil ?_
   refine V.then_n (hK27 _ _ ?_)
   refine V.flushW hz12.p8.p2 (fun a508 hz509 up510 => ?_)
   have s0_511 := up510 0 _ (o8 rfl (o2 rfl s0_14))
   have s1_512 := up510 1 _ (o8 rfl (o2 rfl s1_15))
   have s2_513 := up510 2 _ (o8 rfl (o2 rfl s2_16))
   have s7_514 := up510 7 _ (o1 rfl (sm hz12.p8 rfl))
   have s8_515 := up510 8 _ (sm hz12.p8.p1 rfl)
   clear up510
   refine V.seq (fun K516 hK517 => ?_)
   refine V.rg ?_
   refine V.gm (s8_515) ?_
   refine V.nil ?_
   refine V.then_n (hK517 _ _ ?_)
   refine V.cond_t (sm hz509 rfl) ?_
   refine V.seq (fun K518 hK519 => ?_)
   refine V.plan [[], [], [1], [0], [0, 3], [0, 1, 2, 3, 4], [0, 1, 2, 3, 4, 5], [], [7], [0, 1, 2, 3, 4, 5, 6, 7, 8], [0, 1, 2, 3, 4, 5, 6, 7, 8, 9], [], [11], [], [0, 1, 2, 3, 4, 5, 6, 7, 8, 9, 10, 11, 12, 13], [0, 1, 2, 3, 4, 5, 6, 7, 8, 9, 10, 11, 12, 13, 14], [0, 1, 2, 3, 4, 5, 6, 7, 8, 9, 10, 11, 12, 13, 14, 15]] [([0, 1, 2, 3, 4, 5, 6, 7, 8, 9, 10, 11, 12, 13, 14, 15], some (16, [])), ([], none)] (by kernel_rfl) (by kernel_rfl) (by exact fun _ _ _ _ h => h) ?_
   simp only [Plan.wpSegs, Plan.pickAll, Plan.nth, V.L_eq]
   obtain ⟨w520, hF521e⟩ : ∃ w1, w1 = w500.drew := ⟨_, rfl⟩
   rw [← hF521e]
   have hF521 : Fr [] w500 w520 := by rw [hF521e]; exact Fr.drew _ _
   have hsw520 : w520.heap.size = w500.heap.size := by rw [hF521e]; rfl
   clear hF521e
   have hB_522 := hB_503.fr0 hF521
   have hRA_523 := hRA_504.fr0 hF521
   have hRB_524 := hRB_505.fr0 hF521
   have hK_525 := hK_506.fr0 hF521
   have hE_526 := hE_507.tr0 hF521
   have hB501_527 := hB501.fr0 hF521
   refine V.gm (o1 rfl s0_511) ?_
   refine V.ge_ [(7, .pointer (some ⟨b491, 0, none⟩))] ⟨(o2 rfl s7_514), trivial⟩ (.pointer (some ⟨b491, 0, none⟩)) ?_
   refine V.go (V.ld ⟨b491, 0, none⟩ (.int .i64 1) (sm hz509.p2 rfl) (by kernel_rfl) (hB501_527.at 0 rfl) ?_)
   refine V.ge_ [(23, .pointer (some ⟨t, 0, none⟩))] ⟨(o2 rfl (sm hz509.p1 rfl)), trivial⟩ (.pointer (some ⟨t, 0, none⟩)) ?_
   refine V.ge_ [(26, .pointer (some ⟨t, 0, none⟩))] ⟨(sm hz509.p4 rfl), trivial⟩ (.pointer (some ⟨t, 1, none⟩)) ?_
   refine V.ge_ [(27, .pointer (some ⟨t, 1, none⟩)), (25, .int .i64 1)] ⟨(sm hz509.p4.p1 rfl), (o2 rfl (sm hz509.p2.p1 rfl)), trivial⟩ (.pointer (some ⟨t, 2, none⟩)) ?_
   refine V.go (V.ld ⟨t, 2, none⟩ (.slice (some ⟨gB, 0, none⟩) T1.b.length T1.b.length) (sm hz509.p4.p2 rfl) (by kernel_rfl) (hB_522.at 2 rfl) ?_)
   refine V.ge_ [(7, .pointer (some ⟨b491, 0, none⟩))] ⟨(o8 rfl s7_514), trivial⟩ (.pointer (some ⟨b491, 1, none⟩)) ?_
   refine V.go (V.ld ⟨b491, 1, none⟩ (.int .i64 ((bkt T1.seed T1.b.length k : Nat) : Int)) (sm hz509.p8 rfl) (by kernel_rfl) (hB501_527.at 1 rfl) ?_)
   refine V.go (V.ixa gB 0 T1.b.length T1.b.length .i64 ((bkt T1.seed T1.b.length k : Nat) : Int) 1 (o2 rfl (sm hz509.p4.p2.p1 rfl)) (sm hz509.p8.p1 rfl) (by omega) (by omega) (by kernel_rfl) ?_)
   obtain ⟨A528, c529, hv530⟩ := hK_525.getB hlA (i := (bkt T1.seed T1.b.length k)) (by omega) nilS
   refine V.go (V.ld ⟨gB, 0 + ((bkt T1.seed T1.b.length k : Nat) : Int).toNat * 1, none⟩ (.slice A528 ((T1.b.getD (bkt T1.seed T1.b.length k) []).length) c529) (sm hz509.p8.p2 rfl) (by kernel_rfl) ((hRB_524.at (bkt T1.seed T1.b.length k) nilS (by omega)).trans (congrArg some hv530)) ?_)
   have hS531 := hK_525.slB hlA (i := (bkt T1.seed T1.b.length k)) (by omega) hv530
   refine V.ge_ [(7, .pointer (some ⟨b491, 0, none⟩))] ⟨(o8 rfl (o4 rfl s7_514)), trivial⟩ (.pointer (some ⟨b491, 2, none⟩)) ?_
   refine V.go (V.ld ⟨b491, 2, none⟩ (.int .i64 (j : Int)) (sm hz509.p8.p4 rfl) (by kernel_rfl) (hB501_527.at 2 rfl) ?_)
   refine V.gm (o8 rfl (o4 rfl (o2 rfl s2_513))) ?_
   obtain ⟨g532, o533, hA534, hA534l, hA534z⟩ := hS531.addr (by omega)
   refine V.go (V.ixa g532 o533 ((T1.b.getD (bkt T1.seed T1.b.length k) []).length) c529 .i64 (j : Int) 2 ((o2 rfl (o1 rfl (sm hz509.p8.p2.p1 rfl))).trans (by rw [hA534])) (o1 rfl (sm hz509.p8.p4.p1 rfl)) (by omega) (by omega) (by kernel_rfl) ?_)
   refine V.go (V.fa (sm hz509.p8.p4.p2.p1 rfl) 1 (fun _ _ => by kernel_rfl) ?_)
   refine V.nil ?_
   refine ⟨chk [(23, .pointer (some ⟨t, 0, none⟩))] ⟨(o8 rfl (o4 rfl (o2 rfl (o1 rfl (sm hz509.p1 rfl))))), trivial⟩ (by kernel_rfl), ?_⟩
   refine V.go (V.stRB (R := itI) (j := j) (f := 1) hK_525 hlA (i := (bkt T1.seed T1.b.length k)) (by omega) hv530 hA534 (by omega) (by decide) (.int .i64 v) (fun x => (x.1, v)) (sm hz509.p16 rfl) (o2 rfl (sm hz509.p8.p4.p2 rfl)) rfl rfl (by kernel_rfl) (fun w1 x c hc => by (have hc' : c = [.string x.1, .int .i64 x.2] := hc; subst hc'; rfl)) ?_)
   intro w535 hK536 hF537 hsw535 ho538
   have hB_539 := hB_522.fr hF537 (fun hm => (ho538 _ hm).1 (by simp))
   have hRA_540 := hRA_523.fr hF537 (fun hm => (ho538 _ hm).1 (by simp))
   have hRB_541 := hRB_524.fr hF537 (fun hm => (ho538 _ hm).1 (by simp))
   have hE_542 := hE_526.tr hF537 (fun k hk => ((ho538 k hk).2).imp (fun h => ⟨h, fun hm => (ho538 k hk).1 (by simp [hm])⟩) id)
   have hB501_543 := hB501_527.fr hF537 (fun hm => (ho538 _ hm).1 (by simp))
   refine V.nil ?_
   refine ⟨trivial, ?_⟩
   refine V.nil ?_
   refine ⟨chk [] trivial (by kernel_rfl), ?_⟩
   refine V.then_n (hK519 _ _ ?_)
   refine V.flushW hz509.p16.p1 (fun a544 hz545 up546 => ?_)
   have s0_547 := up546 0 _ (o16 rfl (o1 rfl s0_511))
   have s1_548 := up546 1 _ (o16 rfl (o1 rfl s1_512))
   have s2_549 := up546 2 _ (o16 rfl (o1 rfl s2_513))
   clear up546
   refine V.seq (fun K550 hK551 => ?_)
   refine V.rg ?_
   refine V.ga evc ?_
   refine V.nil ?_
   refine V.then_n (hK551 _ _ ?_)
   refine V.ret ?_
   refine V.then_r ?_
   refine V.ret1 hz545.p1 rfl (sm hz545 rfl) ?_
   have hst : putT T k v = ({ T1 with b := setV T1.b (bkt T1.seed T1.b.length k) j v } : Tb Int) := by (unfold putT; rw [← hT1]; unfold put1T; rw [hf, if_pos rfl]; unfold updT; rw [hf]; simp)
   have hup := (updT_ok hok1 hm1 k v).1
   have hu2 : updT T1 k v = ({ T1 with b := setV T1.b (bkt T1.seed T1.b.length k) j v } : Tb Int) := by (unfold updT; rw [hf]; simp)
   rw [hu2] at hup
   rw [hst]
   exact ⟨by rw [hf], (TabM.fin (T := ({ T1 with b := setV T1.b (bkt T1.seed T1.b.length k) j v })) hup (fun h => hb1 (by have := congrArg List.length h; rwa [setV_length] at this)) hB_539 hRA_540 hRB_541 (by first | exact hlA | (simp only [List.length_set]; exact hlA)) hK536 (mem4 (l := (b491 :: t :: gA :: gB :: av)) (by simp) (by simp) (by simp) (by intro k hk; simp [hk])) (by first | assumption | omega) (by first | assumption | omega) (by first | assumption | omega) hpt ⟨.inl hpg.1, hpg.2⟩ ⟨.inl hph.1, hph.2⟩ rfl rfl rfl rfl rfl rfl (setV_length _ _ _ _).symm).gr3 (by omega), (hFPE.gr hE_542)⟩
end Go.Proofs.Ytalhmegjomfbaaa
