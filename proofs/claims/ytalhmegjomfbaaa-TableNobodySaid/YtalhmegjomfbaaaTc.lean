/- Walks: start, step. -/
import Derived.Test.YtalhmegjomfbaaaProg
import Derived.Test.YtalhmegjomfbaaaTb
import Derived.Test.YtalhmegjomfbaaaTabF
namespace Go.Proofs.Ytalhmegjomfbaaa
open Go.V Go.Base
open Go.RowKit (Below)
attribute [local irreducible] Act.put Act.eval
set_option linter.unusedVariables false
set_option linter.unusedSimpArgs false
set_option maxHeartbeats 4000000 in
set_option maxRecDepth 20000 in
theorem start_N (w : World) (H : Nat → Prop) (av : List Nat) (t gA : Nat) (vsA : List Value) (T : Tb Int) (hok : T.Ok) (hT : TabN 67 87 86 itI w H av t gA vsA T) (n : Nat) (hb0 : T.b = []) (hn : 0 < n) (hn2 : n ≤ 4398046511104) : Calls Try.prog 67 #[.pointer (some ⟨t, 0, none⟩), .int .i64 (n : Int)] w (fun e w' => e = .returned (.tuple #[]) ∧ TabX 67 87 86 itI w' (gr H w w') av t (startT T n) ∧ FrP (gp H av) w w') := by
 have hK0 : ∀ k ∈ av, k < w.heap.size := fun k hk => hT.bk.avl k (by simp [hk])
 have hok0 := hok
 obtain ⟨hsd, hpa, hla, hlb, hmv, hmz, hnn, hcn, hks⟩ := hok0
 obtain ⟨hB, hRA, hlA, hK, hne, hpt, hpg⟩ := hT
 have hltt := hB.lt
 have hltg := hRA.lt
 have hFP := FrP.refl (gp H av) w
 replace hK := hK.toH
 refine V.enter 13 Try.func67 rfl rfl ?_
 intro a hz ha
 have s0 : a.eval (.tmp 0) = (.pointer (some ⟨t, 0, none⟩)) := ha 0 _ rfl
 have s1 : a.eval (.tmp 1) = (.int .i64 (n : Int)) := ha 1 _ rfl
 clear ha
 refine V.seq (fun K1 hK2 => ?_)
 refine V.plan [[], [], [1], [0], [0, 3], [0, 1, 2, 3, 4], [0, 1, 2, 3, 4, 5]] [([0, 1, 3, 4], some (2, [])), ([5], some (6, [])), ([], none)] (by kernel_rfl) (by kernel_rfl) (by exact fun _ _ _ _ h => h) ?_
 simp only [Plan.wpSegs, Plan.pickAll, Plan.nth, V.L_eq]
 obtain ⟨w3, hF4e⟩ : ∃ w1, w1 = w.drew := ⟨_, rfl⟩
 rw [← hF4e]
 have hF4 : Fr [] w w3 := by rw [hF4e]; exact Fr.drew _ _
 have hsw3 : w3.heap.size = w.heap.size := by rw [hF4e]; rfl
 clear hF4e
 have hB_5 := hB.fr0 hF4
 have hRA_6 := hRA.fr0 hF4
 have hK_7 := hK.fr0 hF4
 have hFP_8 := hFP.tr0 hF4
 refine V.gm (s0) ?_
 refine V.gm (o1 rfl s1) ?_
 refine V.ge_ [(4, .pointer (some ⟨t, 0, none⟩))] ⟨(o1 rfl (sm hz rfl)), trivial⟩ (.pointer (some ⟨t, 0, none⟩)) ?_
 refine V.ge_ [(7, .pointer (some ⟨t, 0, none⟩))] ⟨(sm hz.p2 rfl), trivial⟩ (.pointer (some ⟨t, 1, none⟩)) ?_
 refine V.nil ?_
 refine ⟨chk [(4, .pointer (some ⟨t, 0, none⟩))] ⟨(o2 rfl (o1 rfl (sm hz rfl))), trivial⟩ (by kernel_rfl), ?_⟩
 refine V.go (V.mks (enc := idV) (n) (.slice none 0 0) nilS 24 ((o2 rfl (sm hz.p1 rfl)).trans (V.int_eq (by omega))) ((o2 rfl (sm hz.p1 rfl)).trans (V.int_eq (by omega))) (by kernel_rfl) info87 rfl rfl (by omega) (by omega) ?_)
 intro w10 b9 heb9 hR11 hF12
 have hsb9 := hR11.lt
 have hB_13 := hB_5.fr0 hF12
 have hRA_14 := hRA_6.fr0 hF12
 have hK_15 := hK_7.alloc hF12 heb9 (by omega)
 have hFP_16 := hFP_8.tr0 hF12
 refine V.nil ?_
 refine ⟨trivial, ?_⟩
 refine V.ge_ [(8, .pointer (some ⟨t, 1, none⟩))] ⟨(o1 rfl (sm hz.p2.p1 rfl)), trivial⟩ (.pointer (some ⟨t, 2, none⟩)) ?_
 refine V.nil ?_
 refine ⟨chk [] trivial (by kernel_rfl), ?_⟩
 refine V.go (V.stn t 2 (.slice (some ⟨b9, 0, none⟩) n n) [.slice (some ⟨b9, 0, none⟩) n n] (sm hz.p4.p1 rfl) (o1 rfl (sm hz.p4 rfl)) rfl rfl (by kernel_rfl) hB_13 (by simp) [.int .u64 (T.seed : Int), .slice (some ⟨gA, 0, none⟩) T.a.length T.a.length, .slice (some ⟨b9, 0, none⟩) n n, .int .i64 (T.moved : Int), .int .i64 (T.n : Int)] rfl ?_)
 intro w17 hB18 hF19 hsw17
 have hRA_20 := hRA_14.fr1 hF19 (by omega)
 have hK_21 := hK_15.fr hF19 (by simp)
 have hFP_22 := hFP_16.tr1 hF19 (by first | exact .inl (by assumption) | exact .inr (by omega) | exact .inl (.inl rfl))
 have hR11_23 := hR11.fr1 hF19 (by omega)
 refine V.nil ?_
 refine ⟨trivial, ?_⟩
 refine V.nil ?_
 refine ⟨chk [] trivial (by kernel_rfl), ?_⟩
 refine V.then_n (hK2 _ _ ?_)
 refine V.flushW hz.p4.p2 (fun a24 hz25 up26 => ?_)
 have s0_27 := up26 0 _ (o4 rfl (o2 rfl s0))
 clear up26
 refine V.rg ?_
 refine V.gm (s0_27) ?_
 refine V.ge_ [(10, .pointer (some ⟨t, 0, none⟩))] ⟨(sm hz25 rfl), trivial⟩ (.pointer (some ⟨t, 0, none⟩)) ?_
 refine V.ge_ [(11, .pointer (some ⟨t, 0, none⟩))] ⟨(sm hz25.p1 rfl), trivial⟩ (.pointer (some ⟨t, 3, none⟩)) ?_
 refine V.go (V.stn t 3 (.int .i64 0) [.int .i64 0] (sm hz25.p2 rfl) evc rfl rfl (by kernel_rfl) hB18 (by simp) [.int .u64 (T.seed : Int), .slice (some ⟨gA, 0, none⟩) T.a.length T.a.length, .slice (some ⟨b9, 0, none⟩) n n, .int .i64 0, .int .i64 (T.n : Int)] rfl ?_)
 intro w28 hB29 hF30 hsw28
 have hRA_31 := hRA_20.fr1 hF30 (by omega)
 have hK_32 := hK_21.fr hF30 (by simp)
 have hFP_33 := hFP_22.tr1 hF30 (by first | exact .inl (by assumption) | exact .inr (by omega) | exact .inl (.inl rfl))
 have hR11_34 := hR11_23.fr1 hF30 (by omega)
 refine V.nil ?_
 refine V.end0 hz25.p2.p1 rfl ?_
 have hK35 := hK_32.addNil n
 simp only [List.append_nil] at hK35
 have hgB : gh H w b9 ∧ b9 ∉ av := ⟨.inr (by omega), fun hm => by have := hK0 _ hm; omega⟩
 exact ⟨rfl, TabM.fin (T := (startT T n)) (startT_ok hok hb0 hn hn2) (by simp only [startT]; intro h; have := congrArg List.length h; simp at this; omega) hB29 hRA_31 hR11_34 (by first | exact hlA | (simp only [List.length_set]; exact hlA)) hK35 (mem4 (l := (b9 :: t :: gA :: av)) (by simp) (by simp) (by simp) (by intro k hk; simp [hk])) (by first | assumption | omega) (by first | assumption | omega) (by first | assumption | omega) hpt ⟨.inl hpg.1, hpg.2⟩ hgB rfl rfl rfl rfl rfl rfl (by simp [startT]), hFP_33⟩
theorem swapT_ok {α : Type} {T : Tb α} (h : T.Ok) (hm : T.Mv) (hb : T.b.length ≠ 0) (hl : ¬ T.moved + 1 < T.a.length) : (swapT (movedT T)).Ok := by
  obtain ⟨h1, h2⟩ := h.moved hb
  have hmm : ∀ i, i < T.moved + 1 → (movedT T).a.getD i [] = [] := by
    intro i hi
    by_cases he : i = T.moved
    · subst he; exact h2
    · show (T.a.set T.moved []).getD i [] = []
      rw [Go.V.getD_set_ne (fun e => he e.symm)]; exact hm i (by omega)
  have hz : (movedT T).a.flatten.length = 0 := flat_zero _ fun i => by
    rcases Nat.lt_or_ge i T.a.length with hi | hi
    · exact hmm i (by omega)
    · rw [List.getD_eq_getElem?_getD, List.getElem?_eq_none (by rw [movedT_a]; exact hi)]; rfl
  exact ⟨h.sd, by show 0 < (movedT T).b.length; rw [movedT_b]; omega, by show (movedT T).b.length ≤ _; rw [movedT_b]; exact h.lb, by show 0 ≤ _; omega, fun h0 => absurd rfl h0, fun _ => rfl, h.nn, by
    show ((movedT T).b ++ []).flatten.length = T.n
    rw [List.append_nil]; omega, KsR.puts _ h.ks.2 (h.ks.1 T.moved), fun i x hx => by rw [getD_nil (Nat.zero_le _)] at hx; cases hx⟩
set_option maxHeartbeats 4000000 in
set_option maxRecDepth 20000 in
theorem step_M (w : World) (H : Nat → Prop) (av : List Nat) (t gA gB : Nat) (vsA vsB : List Value) (T : Tb Int) (hok : T.Ok) (hT : TabM 67 87 86 itI w H av t gA gB vsA vsB T) (hb : T.b.length ≠ 0) (hm : T.Mv) : Calls Try.prog 64 #[.pointer (some ⟨t, 0, none⟩)] w (fun e w' => e = .returned (.tuple #[]) ∧ TabX 67 87 86 itI w' (gr H w w') av t (tbStep T) ∧ FrP (gp H av) w w') := by
 have hok0 := hok
 have hK0 : ∀ k ∈ av, k < w.heap.size := fun k hk => hT.bk.avl k (by simp [hk])
 obtain ⟨hsd, hpa, hla, hlb, hmv, hmz, hnn, hcn, hks⟩ := hok0
 obtain ⟨hB, hRA, hRB, hlA, hlB, hK, hne, hne2, hne3, hpt, hpg, hph⟩ := hT
 have hltg2 := hRB.lt
 have hltt := hB.lt
 have hltg := hRA.lt
 have hFP := FrP.refl (gp H av) w
 replace hK := hK.toH
 refine V.enter 111 Try.func64 rfl rfl ?_
 intro a hz ha
 have s0 : a.eval (.tmp 0) = (.pointer (some ⟨t, 0, none⟩)) := ha 0 _ rfl
 clear ha
 refine V.seq (fun K1 hK2 => ?_)
 refine V.seq (fun K3 hK4 => ?_)
 refine V.rg ?_
 refine V.gm (s0) ?_
 refine V.go (V.call 65 #[] #[.pointer (some ⟨t, 0, none⟩)] evf (args1 (sm hz rfl)) (Go.Proofs.enters_of Try.func65 (by kernel_rfl) rfl) (moves_M w t T.seed T.a.length T.b.length 0 gA gB (.int .i64 (T.moved : Int)) (.int .i64 (T.n : Int)) hB) ?_)
 rintro _ w6 ⟨rfl, hF5⟩
 refine ⟨_, rfl, ?_⟩
 have hsw6 := hF5.size
 have hB_7 := hB.fr0 hF5
 have hRA_8 := hRA.fr0 hF5
 have hRB_9 := hRB.fr0 hF5
 have hK_10 := hK.fr0 hF5
 have hFP_11 := hFP.tr0 hF5
 refine V.ge_ [(6, .bool true)] ⟨(sm hz.p1 rfl), trivial⟩ (.bool false) ?_
 refine V.nil ?_
 refine V.then_n (hK4 _ _ ?_)
 refine V.cond_f (sm hz.p2 rfl) ?_
 refine V.skip ?_
 refine V.then_n (hK2 _ _ ?_)
 refine V.seq (fun K12 hK13 => ?_)
 refine V.seq (fun K14 hK15 => ?_)
 refine V.plan [[], [0], [0, 1], [0, 1, 2], [0, 1, 2, 3], [], [5], [5, 6], [5, 6, 7], [0, 1, 2, 3, 4, 5, 6, 7, 8], [0, 1, 2, 3, 4, 5, 6, 7, 8, 9], [0, 1, 2, 3, 4, 5, 6, 7, 8, 9, 10], []] [([0, 1, 2, 3, 4, 5, 6, 7, 8, 9, 10, 11, 12], none)] (by kernel_rfl) (by kernel_rfl) (by exact fun _ _ _ _ h => h) ?_
 simp only [Plan.wpSegs, Plan.pickAll, Plan.nth, V.L_eq]
 obtain ⟨w16, hF17e⟩ : ∃ w1, w1 = w6.drew := ⟨_, rfl⟩
 rw [← hF17e]
 have hF17 : Fr [] w6 w16 := by rw [hF17e]; exact Fr.drew _ _
 have hsw16 : w16.heap.size = w6.heap.size := by rw [hF17e]; rfl
 clear hF17e
 have hB_18 := hB_7.fr0 hF17
 have hRA_19 := hRA_8.fr0 hF17
 have hRB_20 := hRB_9.fr0 hF17
 have hK_21 := hK_10.fr0 hF17
 have hFP_22 := hFP_11.tr0 hF17
 refine V.gm (o2 rfl (o1 rfl s0)) ?_
 refine V.ge_ [(8, .pointer (some ⟨t, 0, none⟩))] ⟨(sm hz.p2.p1 rfl), trivial⟩ (.pointer (some ⟨t, 0, none⟩)) ?_
 refine V.ge_ [(9, .pointer (some ⟨t, 0, none⟩))] ⟨(sm hz.p4 rfl), trivial⟩ (.pointer (some ⟨t, 1, none⟩)) ?_
 refine V.ge_ [(10, .pointer (some ⟨t, 1, none⟩))] ⟨(sm hz.p4.p1 rfl), trivial⟩ (.pointer (some ⟨t, 1, none⟩)) ?_
 refine V.go (V.ld ⟨t, 1, none⟩ (.slice (some ⟨gA, 0, none⟩) T.a.length T.a.length) (sm hz.p4.p2 rfl) (by kernel_rfl) (hB_18.at 1 rfl) ?_)
 refine V.gm (o8 rfl s0) ?_
 refine V.ge_ [(13, .pointer (some ⟨t, 0, none⟩))] ⟨(sm hz.p8 rfl), trivial⟩ (.pointer (some ⟨t, 0, none⟩)) ?_
 refine V.ge_ [(14, .pointer (some ⟨t, 0, none⟩))] ⟨(sm hz.p8.p1 rfl), trivial⟩ (.pointer (some ⟨t, 3, none⟩)) ?_
 refine V.go (V.ld ⟨t, 3, none⟩ (.int .i64 (T.moved : Int)) (sm hz.p8.p2 rfl) (by kernel_rfl) (hB_18.at 3 rfl) ?_)
 refine V.go (V.ixa gA 0 T.a.length T.a.length .i64 (T.moved : Int) 1 (o4 rfl (sm hz.p4.p2.p1 rfl)) (sm hz.p8.p2.p1 rfl) (by omega) (by omega) (by kernel_rfl) ?_)
 obtain ⟨A23, c24, hv25⟩ := hK_21.getA hlA (i := T.moved) (by omega) nilS
 refine V.go (V.ld ⟨gA, 0 + (T.moved : Int).toNat * 1, none⟩ (.slice A23 ((T.a.getD T.moved []).length) c24) (sm hz.p8.p4 rfl) (by kernel_rfl) ((hRA_19.at T.moved nilS (by omega)).trans (congrArg some hv25)) ?_)
 have hS26 := hK_21.slA hlA (i := T.moved) (by omega) hv25
 refine V.ge_ [(18, .slice A23 ((T.a.getD T.moved []).length) c24)] ⟨(sm hz.p8.p4.p1 rfl), trivial⟩ (.int .i64 (((T.a.getD T.moved []).length : Nat) : Int)) ?_
 refine V.gm evc ?_
 refine V.nil ?_
 refine ⟨chk [(8, .pointer (some ⟨t, 0, none⟩)), (13, .pointer (some ⟨t, 0, none⟩)), (18, .slice A23 ((T.a.getD T.moved []).length) c24)] ⟨(o8 rfl (o4 rfl (sm hz.p2.p1 rfl))), (o4 rfl (o2 rfl (o1 rfl (sm hz.p8 rfl)))), (o2 rfl (sm hz.p8.p4.p1 rfl)), trivial⟩ (by kernel_rfl), ?_⟩
 refine V.then_n (hK15 _ _ ?_)
 refine V.flushW hz.p16 (fun a27 hz28 up29 => ?_)
 have s0_30 := up29 0 _ (o16 rfl s0)
 have s18_31 := up29 18 _ (o2 rfl (sm hz.p8.p4.p1 rfl))
 have s19_32 := up29 19 _ (o1 rfl (sm hz.p8.p4.p2 rfl))
 have s20_33 := up29 20 _ (sm hz.p8.p4.p2.p1 rfl)
 clear up29
 refine V.block ?_
 obtain ⟨hK9, hS9, hoh⟩ := hK_21.takeA hlA (i := T.moved) (by omega) hv25
 have hlA2 : (vsA.set T.moved nilS).length = (T.a.set T.moved []).length := by simp [hlA]
 refine V.loop3 (fun (i : Nat) (vb : List Value) (xb : List (List (ByteArray × Int))) a_ w_ => Sz 111 a_ ∧ a_.eval (.tmp 0) = (.pointer (some ⟨t, 0, none⟩)) ∧ a_.eval (.tmp 18) = (.slice A23 ((T.a.getD T.moved []).length) c24) ∧ a_.eval (.tmp 19) = (.int .i64 (((T.a.getD T.moved []).length : Nat) : Int)) ∧ a_.eval (.tmp 20) = (.int .i64 (i : Int)) ∧ Row idV w_ gB vb 87 ∧ Bks itI w_ 86 (gh H w) (((Value.slice A23 ((T.a.getD T.moved []).length) c24).ownBlock.toList ++ (t :: gA :: gB :: av))) (vsA.set T.moved nilS ++ vb) (T.a.set T.moved [] ++ xb) ∧ FrP (fun _ => True) w16 w_ ∧ Blk w_ t [.int .u64 (T.seed : Int), .slice (some ⟨gA, 0, none⟩) T.a.length T.a.length, .slice (some ⟨gB, 0, none⟩) T.b.length T.b.length, .int .i64 (T.moved : Int), .int .i64 (T.n : Int)] 67 ∧ Row idV w_ gA vsA 87 ∧ FrP (gp H av) w w_ ∧ SlR itI (fun k => k ∈ (Value.slice A23 ((T.a.getD T.moved []).length) c24).ownBlock.toList) w_ (.slice A23 ((T.a.getD T.moved []).length) c24) (T.a.getD T.moved []) ∧ (i ≤ (T.a.getD T.moved []).length) ∧ (vb.length = xb.length) ∧ (((T.a.getD T.moved []).take i).foldl (putB T.seed) T.b = xb)) (fun (i : Nat) (vb : List Value) (xb : List (List (ByteArray × Int))) => (T.a.getD T.moved []).length - i) 0 vsB T.b ?_ ?_
 ·
  refine ⟨hz28, ?_, ?_, ?_, ?_, hRB_20, hK9, (FrP.refl _ _), hB_18, hRA_19, hFP_22, hS9, (by omega), hlB, (by simp)⟩
  · exact (s0_30)
  · exact (s18_31)
  · exact Eq.trans (s19_32) (V.int_eq (by omega))
  · exact Eq.trans (s20_33) (V.int_eq (by omega))
 ·
  rintro i vb xb a34 w35 ⟨hz36, s0_37, s18_38, s19_39, s20_40, hRB_41, hK_42, hF0_43, hB_44, hRA_45, hFP_46, hS9_47, hi, hlb, hxb⟩
  have hlt48 := hRB_41.lt
  have hfs49 := hF0_43.size
  have hlt50 := hB_44.lt
  have hlt51 := hRA_45.lt
  have hfs52 := hFP_46.size
  have hxl : xb.length = T.b.length := by rw [← hxb, putBs_length]
  have hfl : xb.flatten.length = T.b.flatten.length + i := by (rw [← hxb, putBs_flat _ _ (by omega), List.length_take]; omega)
  have hsum := hok.sum
  have hfa := flat_getD T.a T.moved
  refine V.seq (fun K53 hK54 => ?_)
  refine V.rg ?_
  refine V.ge_ [(20, .int .i64 (i : Int)), (19, .int .i64 (((T.a.getD T.moved []).length : Nat) : Int))] ⟨(s20_40), (s19_39), trivial⟩ (.bool (decide ((i : Int) < (((T.a.getD T.moved []).length : Nat) : Int)))) ?_
  refine V.nil ?_
  refine V.then_n (hK54 _ _ ?_)
  refine V.seq (fun K55 hK56 => ?_)
  refine V.condP (p := (i : Int) < (((T.a.getD T.moved []).length : Nat) : Int)) (sm hz36 rfl) (fun ht57 => ?_) (fun ht57 => ?_)
  ·
   refine V.skip ?_
   refine V.then_n (hK56 _ _ ?_)
   refine V.seq (fun K58 hK59 => ?_)
   refine V.block ?_
   refine V.seq (fun K60 hK61 => ?_)
   refine V.rg ?_
   obtain ⟨g62, o63, hA64, hA64l, hA64z⟩ := hS9_47.addr (by omega)
   refine V.go (V.ixa g62 o63 ((T.a.getD T.moved []).length) c24 .i64 (i : Int) 2 ((o1 rfl s18_38).trans (by rw [hA64])) (o1 rfl s20_40) (by omega) (by omega) (by kernel_rfl) ?_)
   obtain ⟨cs65, hok66, hE67⟩ := hS9_47.els hA64 (i : Int) (by omega) (by omega)
   obtain rfl : cs65 = [.string (at_ itI (T.a.getD T.moved []) (i : Int)).1, .int .i64 (at_ itI (T.a.getD T.moved []) (i : Int)).2] := hok66
   refine V.go (V.lds ⟨g62, o63 + (i : Int).toNat * 2, none⟩ [.string ((at_ itI (T.a.getD T.moved []) (i : Int)).1), .int .i64 ((at_ itI (T.a.getD T.moved []) (i : Int)).2)] (sm hz36.p1 rfl) (by kernel_rfl) (hE67.cells 0 _ rfl) ?_)
   refine V.go (V.mk [] trivial (by kernel_rfl) [.string ⟨#[]⟩, .int .i64 0] 86 (fun b => .pointer (some ⟨b, 0, none⟩)) (by kernel_rfl) ?_)
   intro w69 b68 heb68 hB70 hF71 hsb68
   have hRB_72 := hRB_41.fr0 hF71
   have hK_73 := hK_42.alloc hF71 heb68 (by omega)
   have hF0_74 := hF0_43.tr hF71 (fun _ _ => .inl trivial)
   have hB_75 := hB_44.fr0 hF71
   have hRA_76 := hRA_45.fr0 hF71
   have hFP_77 := hFP_46.tr0 hF71
   have hS9_78 := hS9_47.fr0 hF71
   have hE67_79 := hE67.fr0 hF71
   refine V.go (V.stn b68 0 (.agg #[.string ((at_ itI (T.a.getD T.moved []) (i : Int)).1), .int .i64 ((at_ itI (T.a.getD T.moved []) (i : Int)).2)]) [.string ((at_ itI (T.a.getD T.moved []) (i : Int)).1), .int .i64 ((at_ itI (T.a.getD T.moved []) (i : Int)).2)] (sm hz36.p2.p1 rfl) (o1 rfl (sm hz36.p2 rfl)) rfl rfl (by kernel_rfl) hB70 (by simp) [.string ((at_ itI (T.a.getD T.moved []) (i : Int)).1), .int .i64 ((at_ itI (T.a.getD T.moved []) (i : Int)).2)] rfl ?_)
   intro w80 hB81 hF82 hsw80
   have hRB_83 := hRB_72.fr1 hF82 (by omega)
   have hK_84 := hK_73.fr hF82 (by simp)
   have hF0_85 := hF0_74.tr hF82 (fun _ _ => .inl trivial)
   have hB_86 := hB_75.fr1 hF82 (by omega)
   have hRA_87 := hRA_76.fr1 hF82 (by omega)
   have hFP_88 := hFP_77.tr1 hF82 (by first | exact .inl (by assumption) | exact .inr (by omega) | exact .inl (.inl rfl))
   have hS9_89 := hS9_78.fr hF82 (by intro x hx hz; simp only [List.mem_singleton] at hx; subst hx; first | (have := (hoh _ hz).2; omega) | exact (hoh _ hz).1 (by simp))
   have hE67_90 := hE67_79.fr hF82 (by simp <;> omega)
   refine V.nil ?_
   refine V.then_n (hK61 _ _ ?_)
   refine V.flushW hz36.p4 (fun a91 hz92 up93 => ?_)
   have s0_94 := up93 0 _ (o4 rfl s0_37)
   have s3_95 := up93 3 _ (sm hz36.p2.p1 rfl)
   have s18_96 := up93 18 _ (o4 rfl s18_38)
   have s19_97 := up93 19 _ (o4 rfl s19_39)
   have s20_98 := up93 20 _ (o4 rfl s20_40)
   clear up93
   refine V.seq (fun K99 hK100 => ?_)
   have hkz := ks_at (R := itI) (hks.1 T.moved) (i := (i : Int)) (by omega) (by omega)
   refine V.rg ?_
   refine V.gm (s0_94) ?_
   refine V.ge_ [(3, .pointer (some ⟨b68, 0, none⟩))] ⟨(o1 rfl s3_95), trivial⟩ (.pointer (some ⟨b68, 0, none⟩)) ?_
   refine V.go (V.ld ⟨b68, 0, none⟩ (.string ((at_ itI (T.a.getD T.moved []) (i : Int)).1)) (sm hz92.p1 rfl) (by kernel_rfl) (hB81.at 0 rfl) ?_)
   refine V.go (V.call 66 #[] #[.pointer (some ⟨t, 0, none⟩), .int .i64 1, .string ((at_ itI (T.a.getD T.moved []) (i : Int)).1)] evf (args3 (o2 rfl (sm hz92 rfl)) evc (sm hz92.p2 rfl)) (Go.Proofs.enters_of Try.func66 (by kernel_rfl) rfl) (bucket_M1 w80 t T.seed T.a.length T.b.length 0 gA gB (.int .i64 (T.moved : Int)) (.int .i64 (T.n : Int)) hB_86 ((at_ itI (T.a.getD T.moved []) (i : Int)).1) (by omega) (by omega) (by omega) (by omega)) ?_)
   rintro _ w102 ⟨rfl, hF101⟩
   refine ⟨_, rfl, ?_⟩
   have hsw102 := hF101.size
   have hRB_103 := hRB_83.fr0 hF101
   have hK_104 := hK_84.fr0 hF101
   have hF0_105 := hF0_85.tr hF101 (fun _ _ => .inl trivial)
   have hB_106 := hB_86.fr0 hF101
   have hRA_107 := hRA_87.fr0 hF101
   have hFP_108 := hFP_88.tr0 hF101
   have hS9_109 := hS9_89.fr0 hF101
   have hE67_110 := hE67_90.fr0 hF101
   have hB81_111 := hB81.fr0 hF101
   have hbl101 := bkt_lt T.seed ((at_ itI (T.a.getD T.moved []) (i : Int)).1) (n := T.b.length) (by omega)
   refine V.ga (v := (.int .i64 ((bkt T.seed T.b.length ((at_ itI (T.a.getD T.moved []) (i : Int)).1) : Nat) : Int))) (sm hz92.p2.p1 rfl) ?_
   refine V.nil ?_
   refine V.then_n (hK100 _ _ ?_)
   refine V.flushW hz92.p4.p1 (fun a112 hz113 up114 => ?_)
   have s0_115 := up114 0 _ (o4 rfl (o1 rfl s0_94))
   have s3_116 := up114 3 _ (o4 rfl (o1 rfl s3_95))
   have s4_117 : a112.eval (.tmp 4) = (.int .i64 ((bkt T.seed T.b.length ((at_ itI (T.a.getD T.moved []) (i : Int)).1) : Nat) : Int)) := up114 _ _ (sm hz92.p4 rfl)
   have s18_118 := up114 18 _ (o4 rfl (o1 rfl s18_96))
   have s19_119 := up114 19 _ (o4 rfl (o1 rfl s19_97))
   have s20_120 := up114 20 _ (o4 rfl (o1 rfl s20_98))
   clear up114
   have hfg := flat_getD xb (bkt T.seed T.b.length ((at_ itI (T.a.getD T.moved []) (i : Int)).1))
   refine V.plan [[], [0], [0, 1], [0, 1, 2], [0, 1, 2, 3], [], [], [6], [6, 7], [6, 7, 8], [6, 7, 8, 9], [], [6, 7, 8, 9, 10, 11], [6, 7, 8, 9, 10, 11, 12], [], [14], [6, 7, 8, 9, 10, 11, 12, 13, 14, 15], [0, 1, 2, 3, 4, 5, 6, 7, 8, 9, 10, 11, 12, 13, 14, 15, 16], [0, 1, 2, 3, 4, 5, 6, 7, 8, 9, 10, 11, 12, 13, 14, 15, 16, 17]] [([0, 1, 2, 3, 4, 5, 6, 7, 8, 9, 10, 11, 12, 13, 14], some (15, [4, 10, 13])), ([], some (16, [4])), ([17], some (18, [])), ([], none)] (by kernel_rfl) (by kernel_rfl) (by exact fun _ _ _ _ h => h) ?_
   simp only [Plan.wpSegs, Plan.pickAll, Plan.nth, V.L_eq]
   obtain ⟨w121, hF122e⟩ : ∃ w1, w1 = w102.drew := ⟨_, rfl⟩
   rw [← hF122e]
   have hF122 : Fr [] w102 w121 := by rw [hF122e]; exact Fr.drew _ _
   have hsw121 : w121.heap.size = w102.heap.size := by rw [hF122e]; rfl
   clear hF122e
   have hRB_123 := hRB_103.fr0 hF122
   have hK_124 := hK_104.fr0 hF122
   have hF0_125 := hF0_105.tr hF122 (fun _ _ => .inl trivial)
   have hB_126 := hB_106.fr0 hF122
   have hRA_127 := hRA_107.fr0 hF122
   have hFP_128 := hFP_108.tr0 hF122
   have hS9_129 := hS9_109.fr0 hF122
   have hE67_130 := hE67_110.fr0 hF122
   have hB81_131 := hB81_111.fr0 hF122
   refine V.gm (s0_115) ?_
   refine V.ge_ [(28, .pointer (some ⟨t, 0, none⟩))] ⟨(sm hz113 rfl), trivial⟩ (.pointer (some ⟨t, 0, none⟩)) ?_
   refine V.ge_ [(29, .pointer (some ⟨t, 0, none⟩))] ⟨(sm hz113.p1 rfl), trivial⟩ (.pointer (some ⟨t, 1, none⟩)) ?_
   refine V.ge_ [(30, .pointer (some ⟨t, 1, none⟩))] ⟨(sm hz113.p2 rfl), trivial⟩ (.pointer (some ⟨t, 2, none⟩)) ?_
   refine V.go (V.ld ⟨t, 2, none⟩ (.slice (some ⟨gB, 0, none⟩) T.b.length T.b.length) (sm hz113.p2.p1 rfl) (by kernel_rfl) (hB_126.at 2 rfl) ?_)
   refine V.gm (v := (.int .i64 ((bkt T.seed T.b.length ((at_ itI (T.a.getD T.moved []) (i : Int)).1) : Nat) : Int))) (o4 rfl (o1 rfl s4_117)) ?_
   refine V.gm (o4 rfl (o2 rfl s0_115)) ?_
   refine V.ge_ [(34, .pointer (some ⟨t, 0, none⟩))] ⟨(sm hz113.p4.p2 rfl), trivial⟩ (.pointer (some ⟨t, 0, none⟩)) ?_
   refine V.ge_ [(35, .pointer (some ⟨t, 0, none⟩))] ⟨(sm hz113.p4.p2.p1 rfl), trivial⟩ (.pointer (some ⟨t, 1, none⟩)) ?_
   refine V.ge_ [(36, .pointer (some ⟨t, 1, none⟩))] ⟨(sm hz113.p8 rfl), trivial⟩ (.pointer (some ⟨t, 2, none⟩)) ?_
   refine V.go (V.ld ⟨t, 2, none⟩ (.slice (some ⟨gB, 0, none⟩) T.b.length T.b.length) (sm hz113.p8.p1 rfl) (by kernel_rfl) (hB_126.at 2 rfl) ?_)
   refine V.gm (v := (.int .i64 ((bkt T.seed T.b.length ((at_ itI (T.a.getD T.moved []) (i : Int)).1) : Nat) : Int))) (o8 rfl (o2 rfl (o1 rfl s4_117))) ?_
   refine V.go (V.ixa gB 0 T.b.length T.b.length .i64 ((bkt T.seed T.b.length ((at_ itI (T.a.getD T.moved []) (i : Int)).1) : Nat) : Int) 1 (o1 rfl (sm hz113.p8.p2 rfl)) (sm hz113.p8.p2.p1 rfl) (by omega) (by omega) (by kernel_rfl) ?_)
   obtain ⟨A132, c133, hv134⟩ := hK_124.getB hlA2 (i := (bkt T.seed T.b.length ((at_ itI (T.a.getD T.moved []) (i : Int)).1))) (by omega) nilS
   refine V.go (V.ld ⟨gB, 0 + ((bkt T.seed T.b.length ((at_ itI (T.a.getD T.moved []) (i : Int)).1) : Nat) : Int).toNat * 1, none⟩ (.slice A132 ((xb.getD (bkt T.seed T.b.length ((at_ itI (T.a.getD T.moved []) (i : Int)).1)) []).length) c133) (sm hz113.p8.p4 rfl) (by kernel_rfl) ((hRB_123.at (bkt T.seed T.b.length ((at_ itI (T.a.getD T.moved []) (i : Int)).1)) nilS (by omega)).trans (congrArg some hv134)) ?_)
   have hS135 := hK_124.slB hlA2 (i := (bkt T.seed T.b.length ((at_ itI (T.a.getD T.moved []) (i : Int)).1))) (by omega) hv134
   refine V.go (V.lds ⟨b68, 0, none⟩ [.string ((at_ itI (T.a.getD T.moved []) (i : Int)).1), .int .i64 ((at_ itI (T.a.getD T.moved []) (i : Int)).2)] (o8 rfl (o4 rfl (o2 rfl s3_116))) (by kernel_rfl) (blk_cells hB81_131 0 _ rfl) ?_)
   refine V.nil ?_
   refine ⟨chk [(28, .pointer (some ⟨t, 0, none⟩)), (34, .pointer (some ⟨t, 0, none⟩))] ⟨(o8 rfl (o4 rfl (o2 rfl (sm hz113 rfl)))), (o8 rfl (sm hz113.p4.p2 rfl)), trivial⟩ (by kernel_rfl), ?_⟩
   refine V.go (V.mk [(42, .agg #[.string ((at_ itI (T.a.getD T.moved []) (i : Int)).1), .int .i64 ((at_ itI (T.a.getD T.moved []) (i : Int)).2)])] ⟨(sm hz113.p8.p4.p2 rfl), trivial⟩ (by kernel_rfl) [.string ((at_ itI (T.a.getD T.moved []) (i : Int)).1), .int .i64 ((at_ itI (T.a.getD T.moved []) (i : Int)).2)] 86 (fun b => .slice (some ⟨b, 0, none⟩) 1 1) (by kernel_rfl) ?_)
   intro w137 b136 heb136 hB138 hF139 hsb136
   have hRB_140 := hRB_123.fr0 hF139
   have hK_141 := hK_124.alloc hF139 heb136 (by omega)
   have hF0_142 := hF0_125.tr hF139 (fun _ _ => .inl trivial)
   have hB_143 := hB_126.fr0 hF139
   have hRA_144 := hRA_127.fr0 hF139
   have hFP_145 := hFP_128.tr0 hF139
   have hS9_146 := hS9_129.fr0 hF139
   have hE67_147 := hE67_130.fr0 hF139
   have hB81_148 := hB81_131.fr0 hF139
   have hS135_149 := hS135.fr0 hF139
   refine V.nil ?_
   refine ⟨⟨(fun _ => held_blk (n := 1) (hx := (o8 rfl (o2 rfl (o1 rfl (sm hz113.p2.p1 rfl))))) hB_126 hB_143 (by kernel_rfl) rfl (by simp only [List.length]; omega)), (fun _ => held_blk (n := 1) (hx := (o4 rfl (o1 rfl (sm hz113.p8.p1 rfl)))) hB_126 hB_143 (by kernel_rfl) rfl (by simp only [List.length]; omega)), (fun _ => held_row (hx := (o2 rfl (sm hz113.p8.p4 rfl))) hRB_123 hRB_140 (by kernel_rfl) (by omega))⟩, ?_⟩
   refine V.nil ?_
   refine ⟨chk [] trivial (by kernel_rfl), ?_⟩
   refine V.go (V.appRB (R := itI) (ys := ([((at_ itI (T.a.getD T.moved []) (i : Int)).1, (at_ itI (T.a.getD T.moved []) (i : Int)).2)])) (news := [.string ((at_ itI (T.a.getD T.moved []) (i : Int)).1), .int .i64 ((at_ itI (T.a.getD T.moved []) (i : Int)).2)]) hK_141 hlA2 (i := (bkt T.seed T.b.length ((at_ itI (T.a.getD T.moved []) (i : Int)).1))) (by omega) hv134 (o2 rfl (sm hz113.p8.p4.p1 rfl)) ⟨b136, 0, none⟩ 1 1 (sm hz113.p8.p4.p2.p1 rfl) (by kernel_rfl) (info86) (by kernel_rfl) (by decide) rfl ⟨[.string ((at_ itI (T.a.getD T.moved []) (i : Int)).1), .int .i64 ((at_ itI (T.a.getD T.moved []) (i : Int)).2)], [], rfl, rfl, rfl⟩ (blk_cells hB138 0 _ rfl) (by omega) (by decide) (.inr (by omega)) ?_)
   intro A150 c151 w152 hK153 hF154 ho155
   have hsw152 := hF154.size
   have hRB_156 := hRB_140.fr hF154 (fun hm => (ho155 _ hm).1 (by simp))
   have hF0_157 := hF0_142.tr hF154 (fun _ _ => .inl trivial)
   have hB_158 := hB_143.fr hF154 (fun hm => (ho155 _ hm).1 (by simp))
   have hRA_159 := hRA_144.fr hF154 (fun hm => (ho155 _ hm).1 (by simp))
   have hFP_160 := hFP_145.tr hF154 (fun k hk => ((ho155 k hk).2).imp (fun h => ⟨h, fun hm => (ho155 k hk).1 (by simp [hm])⟩) id)
   have hS9_161 := hS9_146.fr hF154 (fun k hk hz => (ho155 k hk).1 (by simp at hz; simp [hz]))
   have hB81_162 := hB81_148.fr hF154 (fun hm => (ho155 _ hm).1 (by simp))
   refine V.nil ?_
   refine ⟨(fun _ => held_blk (n := 1) (hx := (o8 rfl (o4 rfl (sm hz113.p2.p1 rfl)))) hB_143 hB_158 (by kernel_rfl) rfl (by simp only [List.length]; omega)), ?_⟩
   refine V.go (V.ixa gB 0 T.b.length T.b.length .i64 ((bkt T.seed T.b.length ((at_ itI (T.a.getD T.moved []) (i : Int)).1) : Nat) : Int) 1 (o8 rfl (o4 rfl (sm hz113.p4 rfl))) (o8 rfl (o2 rfl (o1 rfl (sm hz113.p4.p1 rfl)))) (by omega) (by omega) (by kernel_rfl) ?_)
   refine V.nil ?_
   refine ⟨chk [] trivial (by kernel_rfl), ?_⟩
   refine V.go (V.strow (enc := idV) gB (((bkt T.seed T.b.length ((at_ itI (T.a.getD T.moved []) (i : Int)).1) : Nat) : Int).toNat) (.slice A150 ((xb.getD (bkt T.seed T.b.length ((at_ itI (T.a.getD T.moved []) (i : Int)).1)) []).length + 1) c151) (sm hz113.p16.p1 rfl) (o1 rfl (sm hz113.p16 rfl)) rfl rfl (by kernel_rfl) hRB_156 (by first | omega | (simp only [List.length_set, List.length_replicate]; omega)) ?_)
   intro w163 hR164 hF165 hsw163
   have hF0_166 := hF0_157.tr hF165 (fun _ _ => .inl trivial)
   have hB_167 := hB_158.fr1 hF165 (by omega)
   have hRA_168 := hRA_159.fr1 hF165 (by omega)
   have hFP_169 := hFP_160.tr1 hF165 (by first | exact .inl (by assumption) | exact .inr (by omega) | exact .inl (.inl rfl))
   have hS9_170 := hS9_161.fr hF165 (by intro x hx hz; simp only [List.mem_singleton] at hx; subst hx; first | (have := (hoh _ hz).2; omega) | exact (hoh _ hz).1 (by simp))
   have hB81_171 := hB81_162.fr1 hF165 (by omega)
   have hK153_172 := hK153.fr hF165 (by simp)
   refine V.nil ?_
   refine ⟨trivial, ?_⟩
   refine V.nil ?_
   refine ⟨chk [] trivial (by kernel_rfl), ?_⟩
   refine V.blk_n ?_
   refine V.then_n (hK59 _ _ ?_)
   refine V.flushW hz113.p16.p2 (fun a173 hz174 up175 => ?_)
   have s0_176 := up175 0 _ (o16 rfl (o2 rfl s0_115))
   have s18_177 := up175 18 _ (o16 rfl (o2 rfl s18_118))
   have s19_178 := up175 19 _ (o16 rfl (o2 rfl s19_119))
   have s20_179 := up175 20 _ (o16 rfl (o2 rfl s20_120))
   clear up175
   refine V.rg ?_
   refine V.gf_ [(20, .int .i64 (i : Int))] ⟨(s20_179), trivial⟩ (.int .i64 (IntKind.i64.wrap ((i : Int) + 1))) (.int .i64 ((i : Int) + 1)) (V.w_i64 (by omega) (by omega)) ?_
   refine V.gm (sm hz174 rfl) ?_
   refine V.nil ?_
   refine V.then_n ?_
   refine ⟨i + 1, vb.set (((bkt T.seed T.b.length ((at_ itI (T.a.getD T.moved []) (i : Int)).1) : Nat) : Int).toNat) (.slice A150 ((xb.getD (bkt T.seed T.b.length ((at_ itI (T.a.getD T.moved []) (i : Int)).1)) []).length + 1) c151), (xb.set (bkt T.seed T.b.length ((at_ itI (T.a.getD T.moved []) (i : Int)).1)) (xb.getD (bkt T.seed T.b.length ((at_ itI (T.a.getD T.moved []) (i : Int)).1)) [] ++ [((at_ itI (T.a.getD T.moved []) (i : Int)).1, (at_ itI (T.a.getD T.moved []) (i : Int)).2)])), by omega, ?_⟩
   refine ⟨hz174.p2, ?_, ?_, ?_, ?_, hR164, (hK153_172.sub (fun k hk => List.mem_cons_of_mem _ (List.mem_cons_of_mem _ (hk))) (fun k _ _ q => q)), hF0_166, hB_167, hRA_168, hFP_169, hS9_170, (by omega), (by simp [hlb]), (by rw [take_at itI (by omega), List.foldl_append, hxb, List.foldl_cons, List.foldl_nil]; unfold putB; rw [hxl])⟩
   · exact (o2 rfl s0_176)
   · exact (o2 rfl s18_177)
   · exact Eq.trans (o2 rfl s19_178) (V.int_eq (by omega))
   · exact Eq.trans (sm hz174.p1 rfl) (V.int_eq (by omega))
  ·
   refine V.exit ?_
   refine V.then_e ?_
   refine V.then_e ?_
   refine V.blk_hit ?_
   refine V.then_n (hK13 _ _ ?_)
   refine V.seq (fun K180 hK181 => ?_)
   have hxe : xb = (movedT T).b := by (rw [← hxb, List.take_of_length_le (by omega)]; rfl)
   refine V.plan [[], [0], [0, 1], [0, 1, 2], [0, 1, 2, 3], [], [5], [5, 6], [5, 6, 7], [0, 1, 2, 3, 4, 5, 6, 7, 8], [0, 1, 2, 3, 4, 5, 6, 7, 8, 9]] [([0, 1, 2, 3, 4, 5, 6, 7, 8, 9], some (10, [])), ([], none)] (by kernel_rfl) (by kernel_rfl) (by exact fun _ _ _ _ h => h) ?_
   simp only [Plan.wpSegs, Plan.pickAll, Plan.nth, V.L_eq]
   obtain ⟨w182, hF183e⟩ : ∃ w1, w1 = w35.drew := ⟨_, rfl⟩
   rw [← hF183e]
   have hF183 : Fr [] w35 w182 := by rw [hF183e]; exact Fr.drew _ _
   have hsw182 : w182.heap.size = w35.heap.size := by rw [hF183e]; rfl
   clear hF183e
   have hRB_184 := hRB_41.fr0 hF183
   have hK_185 := hK_42.fr0 hF183
   have hF0_186 := hF0_43.tr hF183 (fun _ _ => .inl trivial)
   have hB_187 := hB_44.fr0 hF183
   have hRA_188 := hRA_45.fr0 hF183
   have hFP_189 := hFP_46.tr0 hF183
   have hS9_190 := hS9_47.fr0 hF183
   refine V.gm (o1 rfl s0_37) ?_
   refine V.ge_ [(47, .pointer (some ⟨t, 0, none⟩))] ⟨(sm hz36.p1 rfl), trivial⟩ (.pointer (some ⟨t, 0, none⟩)) ?_
   refine V.ge_ [(48, .pointer (some ⟨t, 0, none⟩))] ⟨(sm hz36.p2 rfl), trivial⟩ (.pointer (some ⟨t, 1, none⟩)) ?_
   refine V.ge_ [(49, .pointer (some ⟨t, 1, none⟩))] ⟨(sm hz36.p2.p1 rfl), trivial⟩ (.pointer (some ⟨t, 1, none⟩)) ?_
   refine V.go (V.ld ⟨t, 1, none⟩ (.slice (some ⟨gA, 0, none⟩) T.a.length T.a.length) (sm hz36.p4 rfl) (by kernel_rfl) (hB_187.at 1 rfl) ?_)
   refine V.gm (o4 rfl (o2 rfl s0_37)) ?_
   refine V.ge_ [(52, .pointer (some ⟨t, 0, none⟩))] ⟨(sm hz36.p4.p2 rfl), trivial⟩ (.pointer (some ⟨t, 0, none⟩)) ?_
   refine V.ge_ [(53, .pointer (some ⟨t, 0, none⟩))] ⟨(sm hz36.p4.p2.p1 rfl), trivial⟩ (.pointer (some ⟨t, 3, none⟩)) ?_
   refine V.go (V.ld ⟨t, 3, none⟩ (.int .i64 (T.moved : Int)) (sm hz36.p8 rfl) (by kernel_rfl) (hB_187.at 3 rfl) ?_)
   refine V.go (V.ixa gA 0 T.a.length T.a.length .i64 (T.moved : Int) 1 (o4 rfl (sm hz36.p4.p1 rfl)) (sm hz36.p8.p1 rfl) (by omega) (by omega) (by kernel_rfl) ?_)
   refine V.nil ?_
   refine ⟨chk [(47, .pointer (some ⟨t, 0, none⟩)), (52, .pointer (some ⟨t, 0, none⟩))] ⟨(o8 rfl (o1 rfl (sm hz36.p1 rfl))), (o4 rfl (sm hz36.p4.p2 rfl)), trivial⟩ (by kernel_rfl), ?_⟩
   refine V.go (V.strow (enc := idV) gA ((T.moved : Int).toNat) (.slice none 0 0) (sm hz36.p8.p2 rfl) evc rfl rfl (by kernel_rfl) hRA_188 (by first | omega | (simp only [List.length_set, List.length_replicate]; omega)) ?_)
   intro w191 hR192 hF193 hsw191
   have hRB_194 := hRB_184.fr1 hF193 (by omega)
   have hK_195 := hK_185.fr hF193 (by simp)
   have hF0_196 := hF0_186.tr hF193 (fun _ _ => .inl trivial)
   have hB_197 := hB_187.fr1 hF193 (by omega)
   have hFP_198 := hFP_189.tr1 hF193 (by first | exact .inl (by assumption) | exact .inr (by omega) | exact .inl (.inl rfl))
   have hS9_199 := hS9_190.fr hF193 (by intro x hx hz; simp only [List.mem_singleton] at hx; subst hx; first | (have := (hoh _ hz).2; omega) | exact (hoh _ hz).1 (by simp))
   refine V.nil ?_
   refine ⟨trivial, ?_⟩
   refine V.nil ?_
   refine ⟨chk [] trivial (by kernel_rfl), ?_⟩
   refine V.then_n (hK181 _ _ ?_)
   refine V.flushW hz36.p8.p2.p1 (fun a200 hz201 up202 => ?_)
   have s0_203 := up202 0 _ (o8 rfl (o2 rfl (o1 rfl s0_37)))
   clear up202
   refine V.seq (fun K204 hK205 => ?_)
   refine V.rg ?_
   refine V.gm (s0_203) ?_
   refine V.ge_ [(57, .pointer (some ⟨t, 0, none⟩))] ⟨(sm hz201 rfl), trivial⟩ (.pointer (some ⟨t, 0, none⟩)) ?_
   refine V.ge_ [(58, .pointer (some ⟨t, 0, none⟩))] ⟨(sm hz201.p1 rfl), trivial⟩ (.pointer (some ⟨t, 3, none⟩)) ?_
   refine V.go (V.ld ⟨t, 3, none⟩ (.int .i64 (T.moved : Int)) (sm hz201.p2 rfl) (by kernel_rfl) (hB_197.at 3 rfl) ?_)
   refine V.gf_ [(60, .int .i64 (T.moved : Int))] ⟨(sm hz201.p2.p1 rfl), trivial⟩ (.int .i64 (IntKind.i64.wrap ((T.moved : Int) + 1))) (.int .i64 ((T.moved : Int) + 1)) (V.w_i64 (by omega) (by omega)) ?_
   refine V.ge_ [(57, .pointer (some ⟨t, 0, none⟩))] ⟨(o4 rfl (sm hz201 rfl)), trivial⟩ (.pointer (some ⟨t, 0, none⟩)) ?_
   refine V.ge_ [(62, .pointer (some ⟨t, 0, none⟩))] ⟨(sm hz201.p4.p1 rfl), trivial⟩ (.pointer (some ⟨t, 3, none⟩)) ?_
   refine V.go (V.stn t 3 (.int .i64 ((T.moved : Int) + 1)) [.int .i64 ((T.moved : Int) + 1)] (sm hz201.p4.p2 rfl) (o2 rfl (sm hz201.p4 rfl)) rfl rfl (by kernel_rfl) hB_197 (by simp) [.int .u64 (T.seed : Int), .slice (some ⟨gA, 0, none⟩) T.a.length T.a.length, .slice (some ⟨gB, 0, none⟩) T.b.length T.b.length, .int .i64 ((T.moved : Int) + 1), .int .i64 (T.n : Int)] rfl ?_)
   intro w206 hB207 hF208 hsw206
   have hRB_209 := hRB_194.fr1 hF208 (by omega)
   have hK_210 := hK_195.fr hF208 (by simp)
   have hF0_211 := hF0_196.tr hF208 (fun _ _ => .inl trivial)
   have hFP_212 := hFP_198.tr1 hF208 (by first | exact .inl (by assumption) | exact .inr (by omega) | exact .inl (.inl rfl))
   have hS9_213 := hS9_199.fr hF208 (by intro x hx hz; simp only [List.mem_singleton] at hx; subst hx; first | (have := (hoh _ hz).2; omega) | exact (hoh _ hz).1 (by simp))
   have hR192_214 := hR192.fr1 hF208 (by omega)
   refine V.nil ?_
   refine V.then_n (hK205 _ _ ?_)
   refine V.flushW hz201.p4.p2.p1 (fun a215 hz216 up217 => ?_)
   have s0_218 := up217 0 _ (o4 rfl (o2 rfl (o1 rfl s0_203)))
   clear up217
   refine V.seq (fun K219 hK220 => ?_)
   refine V.seq (fun K221 hK222 => ?_)
   refine V.plan [[], [0], [0, 1], [0, 1, 2], [], [4], [4, 5], [4, 5, 6], [4, 5, 6, 7], [4, 5, 6, 7, 8], [0, 1, 2, 3, 4, 5, 6, 7, 8, 9]] [([0, 1, 2, 3, 4, 5, 6, 7, 8, 9, 10], none)] (by kernel_rfl) (by kernel_rfl) (by exact fun _ _ _ _ h => h) ?_
   simp only [Plan.wpSegs, Plan.pickAll, Plan.nth, V.L_eq]
   obtain ⟨w223, hF224e⟩ : ∃ w1, w1 = w206.drew := ⟨_, rfl⟩
   rw [← hF224e]
   have hF224 : Fr [] w206 w223 := by rw [hF224e]; exact Fr.drew _ _
   have hsw223 : w223.heap.size = w206.heap.size := by rw [hF224e]; rfl
   clear hF224e
   have hRB_225 := hRB_209.fr0 hF224
   have hK_226 := hK_210.fr0 hF224
   have hF0_227 := hF0_211.tr hF224 (fun _ _ => .inl trivial)
   have hFP_228 := hFP_212.tr0 hF224
   have hS9_229 := hS9_213.fr0 hF224
   have hR192_230 := hR192_214.fr0 hF224
   have hB207_231 := hB207.fr0 hF224
   refine V.gm (s0_218) ?_
   refine V.ge_ [(64, .pointer (some ⟨t, 0, none⟩))] ⟨(sm hz216 rfl), trivial⟩ (.pointer (some ⟨t, 0, none⟩)) ?_
   refine V.ge_ [(65, .pointer (some ⟨t, 0, none⟩))] ⟨(sm hz216.p1 rfl), trivial⟩ (.pointer (some ⟨t, 3, none⟩)) ?_
   refine V.go (V.ld ⟨t, 3, none⟩ (.int .i64 ((T.moved : Int) + 1)) (sm hz216.p2 rfl) (by kernel_rfl) (hB207_231.at 3 rfl) ?_)
   refine V.gm (o4 rfl s0_218) ?_
   refine V.ge_ [(68, .pointer (some ⟨t, 0, none⟩))] ⟨(sm hz216.p4 rfl), trivial⟩ (.pointer (some ⟨t, 0, none⟩)) ?_
   refine V.ge_ [(69, .pointer (some ⟨t, 0, none⟩))] ⟨(sm hz216.p4.p1 rfl), trivial⟩ (.pointer (some ⟨t, 1, none⟩)) ?_
   refine V.ge_ [(70, .pointer (some ⟨t, 1, none⟩))] ⟨(sm hz216.p4.p2 rfl), trivial⟩ (.pointer (some ⟨t, 1, none⟩)) ?_
   refine V.go (V.ld ⟨t, 1, none⟩ (.slice (some ⟨gA, 0, none⟩) T.a.length T.a.length) (sm hz216.p4.p2.p1 rfl) (by kernel_rfl) (hB207_231.at 1 rfl) ?_)
   refine V.ge_ [(72, .slice (some ⟨gA, 0, none⟩) T.a.length T.a.length)] ⟨(sm hz216.p8 rfl), trivial⟩ (.int .i64 ((T.a.length : Nat) : Int)) ?_
   refine V.ge_ [(67, .int .i64 ((T.moved : Int) + 1)), (73, .int .i64 ((T.a.length : Nat) : Int))] ⟨(o4 rfl (o2 rfl (sm hz216.p2.p1 rfl))), (sm hz216.p8.p1 rfl), trivial⟩ (.bool (decide (((T.moved : Int) + 1) < ((T.a.length : Nat) : Int)))) ?_
   refine V.nil ?_
   refine ⟨chk [(64, .pointer (some ⟨t, 0, none⟩)), (68, .pointer (some ⟨t, 0, none⟩)), (72, .slice (some ⟨gA, 0, none⟩) T.a.length T.a.length), (67, .int .i64 ((T.moved : Int) + 1)), (73, .int .i64 ((T.a.length : Nat) : Int))] ⟨(o8 rfl (o2 rfl (sm hz216 rfl))), (o4 rfl (o2 rfl (sm hz216.p4 rfl))), (o2 rfl (sm hz216.p8 rfl)), (o4 rfl (o2 rfl (o1 rfl (sm hz216.p2.p1 rfl)))), (o1 rfl (sm hz216.p8.p1 rfl)), trivial⟩ (by kernel_rfl), ?_⟩
   refine V.then_n (hK222 _ _ ?_)
   refine V.flushW hz216.p8.p2.p1 (fun a232 hz233 up234 => ?_)
   have s0_235 := up234 0 _ (o8 rfl (o2 rfl (o1 rfl s0_218)))
   have s74_236 := up234 74 _ (sm hz216.p8.p2 rfl)
   clear up234
   refine V.condP (p := ((T.moved : Int) + 1) < ((T.a.length : Nat) : Int)) (s74_236) (fun ht237 => ?_) (fun ht237 => ?_)
   ·
    refine V.ret ?_
    refine V.then_r ?_
    refine V.ret0 hz233 rfl ?_
    have hst : tbStep T = movedT T := by (unfold tbStep; rw [if_neg hb, if_pos (by omega)])
    have hsok := (tbStep_ok hok hm).1
    rw [hst] at hsok ⊢
    exact ⟨rfl, TabM.fin (T := (movedT T)) hsok (fun h => hb (by rw [← movedT_b, h]; rfl)) hB207_231 hR192_230 hRB_225 hlA2 hK_226 (mem4 (l := (((Value.slice A23 ((T.a.getD T.moved []).length) c24).ownBlock.toList ++ (t :: gA :: gB :: av)))) (by simp) (by simp) (by simp) (by intro k hk; simp [hk])) (by first | assumption | omega) (by first | assumption | omega) (by first | assumption | omega) hpt ⟨.inl hpg.1, hpg.2⟩ ⟨.inl hph.1, hph.2⟩ rfl (movedT_a T).symm (by simp [movedT]) rfl rfl hxe (movedT_b T).symm, hFP_228⟩
   ·
    refine V.skip ?_
    refine V.then_n (hK220 _ _ ?_)
    refine V.seq (fun K238 hK239 => ?_)
    refine V.plan [[], [], [], [], [3], [3, 4], [3, 4, 5], [3, 4, 5, 6], [0], [0, 8], [0, 3, 4, 5, 6, 7, 8, 9], [0, 3, 4, 5, 6, 7, 8, 9, 10], [1], [1, 12], [0, 1, 3, 4, 5, 6, 7, 8, 9, 10, 11, 12, 13], [0, 1, 3, 4, 5, 6, 7, 8, 9, 10, 11, 12, 13, 14], [0, 1, 2, 3, 4, 5, 6, 7, 8, 9, 10, 11, 12, 13, 14, 15], [0, 1, 2, 3, 4, 5, 6, 7, 8, 9, 10, 11, 12, 13, 14, 15, 16], [0, 1, 2, 3, 4, 5, 6, 7, 8, 9, 10, 11, 12, 13, 14, 15, 16, 17]] [([0, 1, 2, 3, 4, 5, 6, 7, 8, 9, 10, 12, 13], some (11, [])), ([14], some (15, [])), ([16, 17], some (18, [])), ([], none)] (by kernel_rfl) (by kernel_rfl) (by exact fun _ _ _ _ h => h) ?_
    simp only [Plan.wpSegs, Plan.pickAll, Plan.nth, V.L_eq]
    obtain ⟨w240, hF241e⟩ : ∃ w1, w1 = w223.drew := ⟨_, rfl⟩
    rw [← hF241e]
    have hF241 : Fr [] w223 w240 := by rw [hF241e]; exact Fr.drew _ _
    have hsw240 : w240.heap.size = w223.heap.size := by rw [hF241e]; rfl
    clear hF241e
    have hRB_242 := hRB_225.fr0 hF241
    have hK_243 := hK_226.fr0 hF241
    have hF0_244 := hF0_227.tr hF241 (fun _ _ => .inl trivial)
    have hFP_245 := hFP_228.tr0 hF241
    have hS9_246 := hS9_229.fr0 hF241
    have hR192_247 := hR192_230.fr0 hF241
    have hB207_248 := hB207_231.fr0 hF241
    refine V.gm (s0_235) ?_
    refine V.gm (o1 rfl s0_235) ?_
    refine V.gm (o2 rfl s0_235) ?_
    refine V.gm (o2 rfl (o1 rfl s0_235)) ?_
    refine V.ge_ [(78, .pointer (some ⟨t, 0, none⟩))] ⟨(sm hz233.p2.p1 rfl), trivial⟩ (.pointer (some ⟨t, 0, none⟩)) ?_
    refine V.ge_ [(79, .pointer (some ⟨t, 0, none⟩))] ⟨(sm hz233.p4 rfl), trivial⟩ (.pointer (some ⟨t, 1, none⟩)) ?_
    refine V.ge_ [(80, .pointer (some ⟨t, 1, none⟩))] ⟨(sm hz233.p4.p1 rfl), trivial⟩ (.pointer (some ⟨t, 2, none⟩)) ?_
    refine V.go (V.ld ⟨t, 2, none⟩ (.slice (some ⟨gB, 0, none⟩) T.b.length T.b.length) (sm hz233.p4.p2 rfl) (by kernel_rfl) (hB207_248.at 2 rfl) ?_)
    refine V.ge_ [(75, .pointer (some ⟨t, 0, none⟩))] ⟨(o4 rfl (o2 rfl (o1 rfl (sm hz233 rfl)))), trivial⟩ (.pointer (some ⟨t, 0, none⟩)) ?_
    refine V.ge_ [(83, .pointer (some ⟨t, 0, none⟩))] ⟨(sm hz233.p8 rfl), trivial⟩ (.pointer (some ⟨t, 1, none⟩)) ?_
    refine V.ge_ [(84, .pointer (some ⟨t, 1, none⟩))] ⟨(sm hz233.p8.p1 rfl), trivial⟩ (.pointer (some ⟨t, 1, none⟩)) ?_
    refine V.ge_ [(76, .pointer (some ⟨t, 0, none⟩))] ⟨(o8 rfl (o1 rfl (sm hz233.p1 rfl))), trivial⟩ (.pointer (some ⟨t, 0, none⟩)) ?_
    refine V.ge_ [(86, .pointer (some ⟨t, 0, none⟩))] ⟨(sm hz233.p8.p2.p1 rfl), trivial⟩ (.pointer (some ⟨t, 1, none⟩)) ?_
    refine V.nil ?_
    refine ⟨chk [(78, .pointer (some ⟨t, 0, none⟩)), (75, .pointer (some ⟨t, 0, none⟩)), (76, .pointer (some ⟨t, 0, none⟩))] ⟨(o8 rfl (o1 rfl (sm hz233.p2.p1 rfl))), (o8 rfl (o4 rfl (sm hz233 rfl))), (o8 rfl (o2 rfl (o1 rfl (sm hz233.p1 rfl)))), trivial⟩ (by kernel_rfl), ?_⟩
    refine V.go (V.stn t 1 (.slice (some ⟨gB, 0, none⟩) T.b.length T.b.length) [.slice (some ⟨gB, 0, none⟩) T.b.length T.b.length] (o2 rfl (sm hz233.p8.p2 rfl)) (o4 rfl (o1 rfl (sm hz233.p4.p2.p1 rfl))) rfl rfl (by kernel_rfl) hB207_248 (by simp) [.int .u64 (T.seed : Int), .slice (some ⟨gB, 0, none⟩) T.b.length T.b.length, .slice (some ⟨gB, 0, none⟩) T.b.length T.b.length, .int .i64 ((T.moved : Int) + 1), .int .i64 (T.n : Int)] rfl ?_)
    intro w249 hB250 hF251 hsw249
    have hRB_252 := hRB_242.fr1 hF251 (by omega)
    have hK_253 := hK_243.fr hF251 (by simp)
    have hF0_254 := hF0_244.tr hF251 (fun _ _ => .inl trivial)
    have hFP_255 := hFP_245.tr1 hF251 (by first | exact .inl (by assumption) | exact .inr (by omega) | exact .inl (.inl rfl))
    have hS9_256 := hS9_246.fr hF251 (by intro x hx hz; simp only [List.mem_singleton] at hx; subst hx; first | (have := (hoh _ hz).2; omega) | exact (hoh _ hz).1 (by simp))
    have hR192_257 := hR192_247.fr1 hF251 (by omega)
    refine V.nil ?_
    refine ⟨trivial, ?_⟩
    refine V.ge_ [(87, .pointer (some ⟨t, 1, none⟩))] ⟨(sm hz233.p8.p4 rfl), trivial⟩ (.pointer (some ⟨t, 2, none⟩)) ?_
    refine V.nil ?_
    refine ⟨chk [] trivial (by kernel_rfl), ?_⟩
    refine V.go (V.stn t 2 (.slice none 0 0) [.slice none 0 0] (sm hz233.p8.p4.p1 rfl) evc rfl rfl (by kernel_rfl) hB250 (by simp) [.int .u64 (T.seed : Int), .slice (some ⟨gB, 0, none⟩) T.b.length T.b.length, .slice none 0 0, .int .i64 ((T.moved : Int) + 1), .int .i64 (T.n : Int)] rfl ?_)
    intro w258 hB259 hF260 hsw258
    have hRB_261 := hRB_252.fr1 hF260 (by omega)
    have hK_262 := hK_253.fr hF260 (by simp)
    have hF0_263 := hF0_254.tr hF260 (fun _ _ => .inl trivial)
    have hFP_264 := hFP_255.tr1 hF260 (by first | exact .inl (by assumption) | exact .inr (by omega) | exact .inl (.inl rfl))
    have hS9_265 := hS9_256.fr hF260 (by intro x hx hz; simp only [List.mem_singleton] at hx; subst hx; first | (have := (hoh _ hz).2; omega) | exact (hoh _ hz).1 (by simp))
    have hR192_266 := hR192_257.fr1 hF260 (by omega)
    refine V.nil ?_
    refine ⟨trivial, ?_⟩
    refine V.ge_ [(77, .pointer (some ⟨t, 0, none⟩))] ⟨(o8 rfl (o2 rfl (o1 rfl (sm hz233.p2 rfl)))), trivial⟩ (.pointer (some ⟨t, 0, none⟩)) ?_
    refine V.ge_ [(89, .pointer (some ⟨t, 0, none⟩))] ⟨(sm hz233.p8.p4.p2 rfl), trivial⟩ (.pointer (some ⟨t, 3, none⟩)) ?_
    refine V.nil ?_
    refine ⟨chk [(77, .pointer (some ⟨t, 0, none⟩))] ⟨(o8 rfl (o4 rfl (o1 rfl (sm hz233.p2 rfl)))), trivial⟩ (by kernel_rfl), ?_⟩
    refine V.go (V.stn t 3 (.int .i64 0) [.int .i64 0] (sm hz233.p8.p4.p2.p1 rfl) evc rfl rfl (by kernel_rfl) hB259 (by simp) [.int .u64 (T.seed : Int), .slice (some ⟨gB, 0, none⟩) T.b.length T.b.length, .slice none 0 0, .int .i64 0, .int .i64 (T.n : Int)] rfl ?_)
    intro w267 hB268 hF269 hsw267
    have hRB_270 := hRB_261.fr1 hF269 (by omega)
    have hK_271 := hK_262.fr hF269 (by simp)
    have hF0_272 := hF0_263.tr hF269 (fun _ _ => .inl trivial)
    have hFP_273 := hFP_264.tr1 hF269 (by first | exact .inl (by assumption) | exact .inr (by omega) | exact .inl (.inl rfl))
    have hS9_274 := hS9_265.fr hF269 (by intro x hx hz; simp only [List.mem_singleton] at hx; subst hx; first | (have := (hoh _ hz).2; omega) | exact (hoh _ hz).1 (by simp))
    have hR192_275 := hR192_266.fr1 hF269 (by omega)
    refine V.nil ?_
    refine ⟨trivial, ?_⟩
    refine V.nil ?_
    refine ⟨chk [] trivial (by kernel_rfl), ?_⟩
    refine V.then_n (hK239 _ _ ?_)
    refine V.flushW hz233.p16 (fun a276 hz277 up278 => ?_)
    have s0_279 := up278 0 _ (o16 rfl s0_235)
    clear up278
    refine V.seq (fun K280 hK281 => ?_)
    refine V.plan [[], [0], [0, 1], [0, 1, 2], [], [4], [4, 5], [4, 5, 6], [4, 5, 6, 7], [4, 5, 6, 7, 8], [0, 1, 2, 3, 4, 5, 6, 7, 8, 9]] [([0, 1, 2, 3, 4, 5, 6, 7, 8, 9, 10], none)] (by kernel_rfl) (by kernel_rfl) (by exact fun _ _ _ _ h => h) ?_
    simp only [Plan.wpSegs, Plan.pickAll, Plan.nth, V.L_eq]
    obtain ⟨w282, hF283e⟩ : ∃ w1, w1 = w267.drew := ⟨_, rfl⟩
    rw [← hF283e]
    have hF283 : Fr [] w267 w282 := by rw [hF283e]; exact Fr.drew _ _
    have hsw282 : w282.heap.size = w267.heap.size := by rw [hF283e]; rfl
    clear hF283e
    have hRB_284 := hRB_270.fr0 hF283
    have hK_285 := hK_271.fr0 hF283
    have hF0_286 := hF0_272.tr hF283 (fun _ _ => .inl trivial)
    have hFP_287 := hFP_273.tr0 hF283
    have hS9_288 := hS9_274.fr0 hF283
    have hR192_289 := hR192_275.fr0 hF283
    have hB268_290 := hB268.fr0 hF283
    refine V.gm (s0_279) ?_
    refine V.ge_ [(91, .pointer (some ⟨t, 0, none⟩))] ⟨(sm hz277 rfl), trivial⟩ (.pointer (some ⟨t, 0, none⟩)) ?_
    refine V.ge_ [(92, .pointer (some ⟨t, 0, none⟩))] ⟨(sm hz277.p1 rfl), trivial⟩ (.pointer (some ⟨t, 4, none⟩)) ?_
    refine V.go (V.ld ⟨t, 4, none⟩ (.int .i64 (T.n : Int)) (sm hz277.p2 rfl) (by kernel_rfl) (hB268_290.at 4 rfl) ?_)
    refine V.gm (o4 rfl s0_279) ?_
    refine V.ge_ [(95, .pointer (some ⟨t, 0, none⟩))] ⟨(sm hz277.p4 rfl), trivial⟩ (.pointer (some ⟨t, 0, none⟩)) ?_
    refine V.ge_ [(96, .pointer (some ⟨t, 0, none⟩))] ⟨(sm hz277.p4.p1 rfl), trivial⟩ (.pointer (some ⟨t, 1, none⟩)) ?_
    refine V.ge_ [(97, .pointer (some ⟨t, 1, none⟩))] ⟨(sm hz277.p4.p2 rfl), trivial⟩ (.pointer (some ⟨t, 1, none⟩)) ?_
    refine V.go (V.ld ⟨t, 1, none⟩ (.slice (some ⟨gB, 0, none⟩) T.b.length T.b.length) (sm hz277.p4.p2.p1 rfl) (by kernel_rfl) (hB268_290.at 1 rfl) ?_)
    refine V.ge_ [(99, .slice (some ⟨gB, 0, none⟩) T.b.length T.b.length)] ⟨(sm hz277.p8 rfl), trivial⟩ (.int .i64 ((T.b.length : Nat) : Int)) ?_
    refine V.ge_ [(94, .int .i64 (T.n : Int)), (100, .int .i64 ((T.b.length : Nat) : Int))] ⟨(o4 rfl (o2 rfl (sm hz277.p2.p1 rfl))), (sm hz277.p8.p1 rfl), trivial⟩ (.bool (decide ((T.n : Int) > ((T.b.length : Nat) : Int)))) ?_
    refine V.nil ?_
    refine ⟨chk [(91, .pointer (some ⟨t, 0, none⟩)), (95, .pointer (some ⟨t, 0, none⟩)), (99, .slice (some ⟨gB, 0, none⟩) T.b.length T.b.length), (94, .int .i64 (T.n : Int)), (100, .int .i64 ((T.b.length : Nat) : Int))] ⟨(o8 rfl (o2 rfl (sm hz277 rfl))), (o4 rfl (o2 rfl (sm hz277.p4 rfl))), (o2 rfl (sm hz277.p8 rfl)), (o4 rfl (o2 rfl (o1 rfl (sm hz277.p2.p1 rfl)))), (o1 rfl (sm hz277.p8.p1 rfl)), trivial⟩ (by kernel_rfl), ?_⟩
    refine V.then_n (hK281 _ _ ?_)
    refine V.flushW hz277.p8.p2.p1 (fun a291 hz292 up293 => ?_)
    have s0_294 := up293 0 _ (o8 rfl (o2 rfl (o1 rfl s0_279)))
    have s101_295 := up293 101 _ (sm hz277.p8.p2 rfl)
    clear up293
    refine V.condP (p := (T.n : Int) > ((T.b.length : Nat) : Int)) (s101_295) (fun ht296 => ?_) (fun ht296 => ?_)
    ·
     refine V.rg ?_
     refine V.gm (s0_294) ?_
     refine V.gm (o1 rfl s0_294) ?_
     refine V.ge_ [(103, .pointer (some ⟨t, 0, none⟩))] ⟨(sm hz292.p1 rfl), trivial⟩ (.pointer (some ⟨t, 0, none⟩)) ?_
     refine V.ge_ [(104, .pointer (some ⟨t, 0, none⟩))] ⟨(sm hz292.p2 rfl), trivial⟩ (.pointer (some ⟨t, 1, none⟩)) ?_
     refine V.ge_ [(105, .pointer (some ⟨t, 1, none⟩))] ⟨(sm hz292.p2.p1 rfl), trivial⟩ (.pointer (some ⟨t, 1, none⟩)) ?_
     refine V.go (V.ld ⟨t, 1, none⟩ (.slice (some ⟨gB, 0, none⟩) T.b.length T.b.length) (sm hz292.p4 rfl) (by kernel_rfl) (hB268_290.at 1 rfl) ?_)
     refine V.ge_ [(107, .slice (some ⟨gB, 0, none⟩) T.b.length T.b.length)] ⟨(sm hz292.p4.p1 rfl), trivial⟩ (.int .i64 ((T.b.length : Nat) : Int)) ?_
     refine V.go (V.mulN 2 T.b.length evc (sm hz292.p4.p2 rfl) (by omega) ?_)
     have hKd297 := hK_285.dropNil hlA2
     have hsok2 : (swapT (movedT T)).Ok := swapT_ok hok hm hb (by omega)
     have hN298 : TabN 67 87 86 itI w282 (gh H w) av t gB vb (swapT (movedT T)) := TabN.mk2 hB268_290 hRB_284 hKd297 (mem3 (by simp) (by simp) (by intro k hk; simp [hk])) hne2 ⟨.inl hpt.1, hpt.2⟩ ⟨.inl hph.1, hph.2⟩ rfl (movedT_b T).symm rfl rfl hxe
     have hmb := movedT_b T
     refine V.go (V.call 67 #[] #[.pointer (some ⟨t, 0, none⟩), .int .i64 ((2 * T.b.length : Nat) : Int)] evf (args2 (o4 rfl (o2 rfl (o1 rfl (sm hz292 rfl)))) (sm hz292.p4.p2.p1 rfl)) (Go.Proofs.enters_of Try.func67 (by kernel_rfl) rfl) (start_N w282 (gh H w) av t gB vb (swapT (movedT T)) hsok2 hN298 (2 * T.b.length) rfl (by omega) (by omega)) ?_)
     rintro _ w301 ⟨rfl, hT299, hfp300⟩
     refine ⟨_, rfl, ?_⟩
     have hsw301 := hfp300.size
     have hFP_302 := hFP_287.trP hfp300 (fun k hk => hk.1.imp (fun h => ⟨h, hk.2⟩) id)
     have hT299q := hT299
     rw [show 2 * T.b.length = 2 * (movedT T).b.length by rw [movedT_b]] at hT299q
     refine V.nil ?_
     refine V.end0 hz292.p8.p1 rfl ?_
     have hst : tbStep T = startT (swapT (movedT T)) (2 * (movedT T).b.length) := by (unfold tbStep; rw [if_neg hb, if_neg (by omega), if_pos (by rw [movedT_b]; omega)])
     have hsok := (tbStep_ok hok hm).1
     rw [hst] at hsok ⊢
     exact ⟨rfl, hT299q.gr2 (by omega), hFP_302⟩
    ·
     refine V.skip ?_
     refine V.end0 hz292 rfl ?_
     have hst : tbStep T = swapT (movedT T) := by (unfold tbStep; rw [if_neg hb, if_neg (by omega), if_neg (by rw [movedT_b]; omega)])
     have hsok := (tbStep_ok hok hm).1
     rw [hst] at hsok ⊢
     have hKd303 := hK_285.dropNil hlA2
     exact ⟨rfl, TabN.fin (T := (swapT (movedT T))) hsok rfl hB268_290 hRB_284 hKd303 (mem3 (l := (((Value.slice A23 ((T.a.getD T.moved []).length) c24).ownBlock.toList ++ (t :: gA :: gB :: av)))) (by simp) (by simp) (by intro k hk; simp [hk])) (by first | assumption | exact Ne.symm (by assumption) | omega) hpt ⟨.inl hph.1, hph.2⟩ rfl (movedT_b T).symm rfl rfl hxe, hFP_287⟩
end Go.Proofs.Ytalhmegjomfbaaa
