/- Joined texts: Ec, BksN, AvX, Ed, Del, TabD, Ee, Ef, Ha. -/
import Derived.Test.YtjkegckfncfoaaaGreatProg
import Derived.Deep.DeepAppendRoom
import Derived.Test.YtjkegckfncfoaaaGreatSq93
section
namespace Go.Proofs.YtjkegckfncfoaaaGreat
open Go.V Go.Base
open Go.RowKit (Below)
attribute [local irreducible] Act.put Act.eval
set_option linter.unusedVariables false
set_option linter.unusedSimpArgs false
set_option maxHeartbeats 4000000
set_option maxRecDepth 20000
theorem start_N (w : World) (H : Nat → Prop) (av : List Nat) (t gA : Nat) (vsA : List Value) (T : Tb EntV) (hok : T.Ok) (hT : TabN 122 118 117 itI w H av t gA vsA T) (n : Nat) (hb0 : T.b = []) (hn : 0 < n) (hn2 : n ≤ 4398046511104) : Calls Tryz.prog 84 #[.pointer (some ⟨t, 0, none⟩), .int .i64 (n : Int)] w (fun e w' => e = .returned (.tuple #[]) ∧ TabX 122 118 117 itI w' (gr H w w') av t (startT T n) ∧ FrP (gp H av) w w') := by
 have hK0 : ∀ k ∈ av, k < w.heap.size := fun k hk => hT.bk.avl k (by simp [hk])
 have hok0 := hok
 obtain ⟨hsd, hpa, hla, hlb, hmv, hmz, hnn, hcn, hks⟩ := hok0
 obtain ⟨hB, hRA, hlA, hK, hne, hpt, hpg⟩ := hT
 have hltt := hB.lt
 have hltg := hRA.lt
 have hFP := FrP.refl (gp H av) w
 replace hK := hK.toH
 refine V.en 13 Tryz.func84 fun a h1 => ?_
 refine V.seq fun K2 k3 => ?_
 refine V.pl [([0,1,3,4],some (2,[])),([5],some (6,[])),([],none)] fun w4 hF5 hsw4 => ?_
 have hB_6 := hB.fr0 hF5
 have hRA_7 := hRA.fr0 hF5
 have hK_8 := hK.fr0 hF5
 have hFP_9 := hFP.tr0 hF5
 refine V.pe h1 [] 4 7 [(5, .int .i64 (n : Int)), (8, .pointer (some ⟨t, 1, none⟩))] fun a h10 => ?_
 refine V.go (V.mks (enc := idV) (n) (.slice none 0 0) nilS 24 ((h10.e (v := (.int .i64 (n : Int)))).trans (V.int_eq (by omega))) ((h10.e (v := (.int .i64 (n : Int)))).trans (V.int_eq (by omega))) (by kernel_rfl) info118 rfl rfl (by omega) (by omega) ?_)
 intro w12 b11 heb11 hR13 hF14
 have hsb11 := hR13.lt
 have hB_15 := hB_6.fr0 hF14
 have hRA_16 := hRA_7.fr0 hF14
 have hK_17 := hK_8.alloc hF14 heb11 (by omega)
 have hFP_18 := hFP_9.tr0 hF14
 refine V.pt h10 fun a h19 => ?_
 refine V.eh trivial ?_
 refine V.pe h19 [] 1 0 [(9, .pointer (some ⟨t, 2, none⟩))] fun a h20 => ?_
 refine V.go (V.stn t 2 (.slice (some ⟨b11, 0, none⟩) n n) [.slice (some ⟨b11, 0, none⟩) n n] h20.e h20.e rfl rfl (by kernel_rfl) hB_15 (by simp) [.int .u64 (T.seed : Int), .slice (some ⟨gA, 0, none⟩) T.a.length T.a.length, .slice (some ⟨b11, 0, none⟩) n n, .int .i64 (T.moved : Int), .int .i64 (T.n : Int)] rfl ?_)
 intro w21 hB22 hF23 hsw21
 have hRA_24 := hRA_16.fr1 hF23 (by omega)
 have hK_25 := hK_17.fr hF23 (by simp)
 have hFP_26 := hFP_18.tr1 hF23 (by first | exact .inl (by assumption) | exact .inr (by omega) | exact .inl (.inl rfl))
 have hR13_27 := hR13.fr1 hF23 (by omega)
 refine V.eh trivial ?_
 refine V.pz h20 [] 1 0 [] fun a h28 => k3 _ _ ?_
 refine V.rg ?_
 refine V.run h28 [] 3 10 11 [(12, .pointer (some ⟨t, 3, none⟩))] fun a h32 => ?_
 refine V.go (V.stn t 3 (.int .i64 0) [.int .i64 0] h32.e evc rfl rfl (by kernel_rfl) hB22 (by simp) [.int .u64 (T.seed : Int), .slice (some ⟨gA, 0, none⟩) T.a.length T.a.length, .slice (some ⟨b11, 0, none⟩) n n, .int .i64 0, .int .i64 (T.n : Int)] rfl ?_)
 intro w29 hB30 hF31 hsw29
 have hRA_33 := hRA_24.fr1 hF31 (by omega)
 have hK_34 := hK_25.fr hF31 (by simp)
 have hFP_35 := hFP_26.tr1 hF31 (by first | exact .inl (by assumption) | exact .inr (by omega) | exact .inl (.inl rfl))
 have hR13_36 := hR13_27.fr1 hF31 (by omega)
 refine V.nil ?_
 refine V.e0 h32 ?_
 have hK37 := hK_34.addNil n
 simp only [List.append_nil] at hK37
 have hgB : gh H w b11 ∧ b11 ∉ av := ⟨.inr (by omega), fun hm => by have := hK0 _ hm; omega⟩
 exact ⟨rfl, TabM.fin (T := (startT T n)) (startT_ok hok hb0 hn hn2) (by simp only [startT]; intro h; have := congrArg List.length h; simp at this; omega) hB30 hRA_33 hR13_36 (by first | exact hlA | (simp only [List.length_set]; exact hlA)) hK37 (mem4 (l := (b11 :: t :: gA :: av)) (by simp) (by simp) (by simp) (by intro k hk; simp [hk])) (by first | assumption | omega) (by first | assumption | omega) (by first | assumption | omega) hpt ⟨.inl hpg.1, hpg.2⟩ hgB rfl rfl rfl rfl rfl rfl (by simp [startT]), hFP_35⟩
theorem swapT_ok {α : Type} {T : Tb α} (h : T.Ok) (hm : T.Mv) (hb : T.b.length ≠ 0) (hl : ¬ T.moved + 1 < T.a.length) : (swapT (movedT T)).Ok := by
  obtain ⟨h1, h2⟩ := h.moved hb
  have hmm : ∀ i, i < T.moved + 1 → (movedT T).a.getD i [] = [] := by
    intro i hi
    by_cases he : i = T.moved
    · subst he; exact h2
    · show (T.a.set T.moved []).getD i [] = []
      rw [Go.V.getD_set_ne (fun e => he e.symm)]; exact hm i (by omega)
  have hz : (movedT T).a.flatten.length = 0 := flat_zero _ fun i => by
    rcases Nat.lt_or_ge i T.a.length with hi | hi
    · exact hmm i (by omega)
    · rw [List.getD_eq_getElem?_getD, List.getElem?_eq_none (by rw [movedT_a]; exact hi)]; rfl
  exact ⟨h.sd, by show 0 < (movedT T).b.length; rw [movedT_b]; omega, by show (movedT T).b.length ≤ _; rw [movedT_b]; exact h.lb, by show 0 ≤ _; omega, fun h0 => absurd rfl h0, fun _ => rfl, h.nn, by
    show ((movedT T).b ++ []).flatten.length = T.n
    rw [List.append_nil]; omega, KsR.puts _ h.ks.2 (h.ks.1 T.moved), fun i x hx => by rw [getD_nil (Nat.zero_le _)] at hx; cases hx⟩
theorem step_M (w : World) (H : Nat → Prop) (av : List Nat) (t gA gB : Nat) (vsA vsB : List Value) (T : Tb EntV) (hok : T.Ok) (hT : TabM 122 118 117 itI w H av t gA gB vsA vsB T) (hb : T.b.length ≠ 0) (hm : T.Mv) : Calls Tryz.prog 65 #[.pointer (some ⟨t, 0, none⟩)] w (fun e w' => e = .returned (.tuple #[]) ∧ TabX 122 118 117 itI w' (gr H w w') av t (tbStep T) ∧ FrP (gp H av) w w') := by
 have hok0 := hok
 have hK0 : ∀ k ∈ av, k < w.heap.size := fun k hk => hT.bk.avl k (by simp [hk])
 obtain ⟨hsd, hpa, hla, hlb, hmv, hmz, hnn, hcn, hks⟩ := hok0
 obtain ⟨hB, hRA, hRB, hlA, hlB, hK, hne, hne2, hne3, hpt, hpg, hph⟩ := hT
 have hltg2 := hRB.lt
 have hltt := hB.lt
 have hltg := hRA.lt
 have hFP := FrP.refl (gp H av) w
 replace hK := hK.toH
 refine V.en 111 Tryz.func65 fun a h1 => ?_
 refine V.seq fun K2 k3 => ?_
 refine V.sg fun K4 k5 => ?_
 refine V.run h1 [] 1 1 0 [(5, .pointer (some ⟨t, 0, none⟩))] fun a h6 => ?_
 refine V.cl h6 (Go.Proofs.enters_of Tryz.func82 (by kernel_rfl) rfl) (moves_M w t T.seed T.a.length T.b.length 0 gA gB (.int .i64 (T.moved : Int)) (.int .i64 (T.n : Int)) hB) ?_
 rintro _ w8 ⟨rfl, hF7⟩
 refine ⟨_, rfl, fun a h9 => ?_⟩
 have hsw8 := hF7.size
 have hB_10 := hB.fr0 hF7
 have hRA_11 := hRA.fr0 hF7
 have hRB_12 := hRB.fr0 hF7
 have hK_13 := hK.fr0 hF7
 have hFP_14 := hFP.tr0 hF7
 refine V.re h9 [] 1 0 [(7, .bool false)] fun a h15 => k5 _ _ ?_
 refine V.cf h15 ?_
 refine V.skip ?_
 refine V.then_n (k3 _ _ ?_)
 refine V.seq fun K16 k17 => ?_
 refine V.seq fun K18 k19 => ?_
 refine V.pl [([0,1,2,3,4,5,6,7,8,9,10,11,12],none)] fun w20 hF21 hsw20 => ?_
 have hB_22 := hB_10.fr0 hF21
 have hRA_23 := hRA_11.fr0 hF21
 have hRB_24 := hRB_12.fr0 hF21
 have hK_25 := hK_13.fr0 hF21
 have hFP_26 := hFP_14.tr0 hF21
 obtain ⟨A27, c28, hv29⟩ := hK_25.getA hlA (i := T.moved) (by omega) nilS
 have hS30 := hK_25.slA hlA (i := T.moved) (by omega) hv29
 refine V.pz h15 [(4, .b hB_22 1), (3, .b hB_22 3), (0, .ix gA 0 T.a.length T.a.length .i64 (T.moved : Int) 1 rfl), (0, .l ⟨gA, 0 + (T.moved : Int).toNat * 1, none⟩ (.slice A27 ((T.a.getD T.moved []).length) c28) ((hRA_23.at T.moved nilS (by omega)).trans (congrArg some hv29)))] 8 17 [(18, .slice A27 ((T.a.getD T.moved []).length) c28), (19, .int .i64 (((T.a.getD T.moved []).length : Nat) : Int)), (20, .int .i64 0)] fun a h31 => k19 _ _ ?_
 refine V.block ?_
 obtain ⟨hK9, hS9, hoh⟩ := hK_25.takeA hlA (i := T.moved) (by omega) hv29
 have hlA2 : (vsA.set T.moved nilS).length = (T.a.set T.moved []).length := by simp [hlA]
 refine V.loop3 (fun (i : Nat) (vb : List Value) (xb : List (List (ByteArray × EntV))) a_ w_ => En 111 [] a_ [(0, .pointer (some ⟨t, 0, none⟩)), (18, .slice A27 ((T.a.getD T.moved []).length) c28), (19, .int .i64 (((T.a.getD T.moved []).length : Nat) : Int)), (20, .int .i64 (i : Int))] ∧ Row idV w_ gB vb 118 ∧ Bks itI w_ 117 (gh H w) (((Value.slice A27 ((T.a.getD T.moved []).length) c28).ownBlock.toList ++ (t :: gA :: gB :: av))) (vsA.set T.moved nilS ++ vb) (T.a.set T.moved [] ++ xb) ∧ FrP (fun _ => True) w20 w_ ∧ Blk w_ t [.int .u64 (T.seed : Int), .slice (some ⟨gA, 0, none⟩) T.a.length T.a.length, .slice (some ⟨gB, 0, none⟩) T.b.length T.b.length, .int .i64 (T.moved : Int), .int .i64 (T.n : Int)] 122 ∧ Row idV w_ gA vsA 118 ∧ FrP (gp H av) w w_ ∧ SlR itI (fun k => k ∈ (Value.slice A27 ((T.a.getD T.moved []).length) c28).ownBlock.toList) w_ (.slice A27 ((T.a.getD T.moved []).length) c28) (T.a.getD T.moved []) ∧ (i ≤ (T.a.getD T.moved []).length) ∧ (vb.length = xb.length) ∧ (((T.a.getD T.moved []).take i).foldl (putB T.seed) T.b = xb)) (fun (i : Nat) (vb : List Value) (xb : List (List (ByteArray × EntV))) => (T.a.getD T.moved []).length - i) 0 vsB T.b ?_ ?_
 ·
  refine ⟨(h31.eq 20 (v := (.int .i64 0)) (u := (.int .i64 (0 : Int))) (V.int_eq (by omega))).only _, hRB_24, hK9, (FrP.refl _ _), hB_22, hRA_23, hFP_26, hS9, (by omega), hlB, (by simp)⟩
 ·
  rintro i vb xb a32 w33 ⟨h34, hRB_35, hK_36, hF0_37, hB_38, hRA_39, hFP_40, hS9_41, hi, hlb, hxb⟩
  have hlt42 := hRB_35.lt
  have hfs43 := hF0_37.size
  have hlt44 := hB_38.lt
  have hlt45 := hRA_39.lt
  have hfs46 := hFP_40.size
  have hxl : xb.length = T.b.length := by rw [← hxb, putBs_length]
  have hfl : xb.flatten.length = T.b.flatten.length + i := by (rw [← hxb, putBs_flat _ _ (by omega), List.length_take]; omega)
  have hsum := hok.sum
  have hfa := flat_getD T.a T.moved
  refine V.sr h34 [] 1 0 [(21, .bool (decide ((i : Int) < (((T.a.getD T.moved []).length : Nat) : Int))))] fun a h49 => ?_
  refine V.seq fun K50 k51 => ?_
  refine V.cp h49 ((i : Int) < (((T.a.getD T.moved []).length : Nat) : Int)) (fun ht52 => ?_) (fun ht52 => ?_)
  ·
   refine V.skip ?_
   refine V.then_n (k51 _ _ ?_)
   refine V.seq fun K53 k54 => ?_
   refine V.block ?_
   obtain ⟨g57, o58, hA59, hA59l, hA59z⟩ := hS9_41.addr (by omega)
   obtain ⟨cs60, hok61, hE62⟩ := hS9_41.els hA59 (i : Int) (by omega) (by omega)
   refine V.sg fun K55 k56 => ?_
   refine V.run h49 [(0, .ix g57 o58 ((T.a.getD T.moved []).length) c28 .i64 (i : Int) 7 hA59)] 1 1 0 [(22, .pointer (some ⟨g57, o58 + (i : Int).toNat * 7, none⟩))] fun a h63 => ?_
   obtain rfl : cs60 = [.string (at_ itI (T.a.getD T.moved []) (i : Int)).1, .int .i64 (at_ itI (T.a.getD T.moved []) (i : Int)).2.kind, .string (at_ itI (T.a.getD T.moved []) (i : Int)).2.s, .slice (at_ itI (T.a.getD T.moved []) (i : Int)).2.l.a (at_ itI (T.a.getD T.moved []) (i : Int)).2.l.n (at_ itI (T.a.getD T.moved []) (i : Int)).2.l.c, .slice (at_ itI (T.a.getD T.moved []) (i : Int)).2.z.a (at_ itI (T.a.getD T.moved []) (i : Int)).2.z.n (at_ itI (T.a.getD T.moved []) (i : Int)).2.z.c, .slice (at_ itI (T.a.getD T.moved []) (i : Int)).2.h.a (at_ itI (T.a.getD T.moved []) (i : Int)).2.h.n (at_ itI (T.a.getD T.moved []) (i : Int)).2.h.c, .int .i64 (at_ itI (T.a.getD T.moved []) (i : Int)).2.till] := hok61
   refine V.run h63 [(0, .ls ⟨g57, o58 + (i : Int).toNat * 7, none⟩ [.string ((at_ itI (T.a.getD T.moved []) (i : Int)).1), .int .i64 (((at_ itI (T.a.getD T.moved []) (i : Int)).2).kind), .string (((at_ itI (T.a.getD T.moved []) (i : Int)).2).s), .slice (((at_ itI (T.a.getD T.moved []) (i : Int)).2).l.a) (((at_ itI (T.a.getD T.moved []) (i : Int)).2).l.n) (((at_ itI (T.a.getD T.moved []) (i : Int)).2).l.c), .slice (((at_ itI (T.a.getD T.moved []) (i : Int)).2).z.a) (((at_ itI (T.a.getD T.moved []) (i : Int)).2).z.n) (((at_ itI (T.a.getD T.moved []) (i : Int)).2).z.c), .slice (((at_ itI (T.a.getD T.moved []) (i : Int)).2).h.a) (((at_ itI (T.a.getD T.moved []) (i : Int)).2).h.n) (((at_ itI (T.a.getD T.moved []) (i : Int)).2).h.c), .int .i64 (((at_ itI (T.a.getD T.moved []) (i : Int)).2).till)] (hE62.cells 0 _ rfl))] 1 1 0 [(23, .agg #[.string ((at_ itI (T.a.getD T.moved []) (i : Int)).1), .int .i64 (((at_ itI (T.a.getD T.moved []) (i : Int)).2).kind), .string (((at_ itI (T.a.getD T.moved []) (i : Int)).2).s), .slice (((at_ itI (T.a.getD T.moved []) (i : Int)).2).l.a) (((at_ itI (T.a.getD T.moved []) (i : Int)).2).l.n) (((at_ itI (T.a.getD T.moved []) (i : Int)).2).l.c), .slice (((at_ itI (T.a.getD T.moved []) (i : Int)).2).z.a) (((at_ itI (T.a.getD T.moved []) (i : Int)).2).z.n) (((at_ itI (T.a.getD T.moved []) (i : Int)).2).z.c), .slice (((at_ itI (T.a.getD T.moved []) (i : Int)).2).h.a) (((at_ itI (T.a.getD T.moved []) (i : Int)).2).h.n) (((at_ itI (T.a.getD T.moved []) (i : Int)).2).h.c), .int .i64 (((at_ itI (T.a.getD T.moved []) (i : Int)).2).till)])] fun a h68 => ?_
   refine V.go (V.mk [] trivial (by kernel_rfl) [.string ⟨#[]⟩, .int .i64 0, .string ⟨#[]⟩, .slice none 0 0, .slice none 0 0, .slice none 0 0, .int .i64 0] 117 (fun b => .pointer (some ⟨b, 0, none⟩)) (by kernel_rfl) ?_)
   intro w65 b64 heb64 hB66 hF67 hsb64
   have hRB_69 := hRB_35.fr0 hF67
   have hK_70 := hK_36.alloc hF67 heb64 (by omega)
   have hF0_71 := hF0_37.tr hF67 (fun _ _ => .inl trivial)
   have hB_72 := hB_38.fr0 hF67
   have hRA_73 := hRA_39.fr0 hF67
   have hFP_74 := hFP_40.tr0 hF67
   have hS9_75 := hS9_41.fr0 hF67
   refine V.pt h68 fun a h77 => ?_
   refine V.go (V.stn b64 0 (.agg #[.string ((at_ itI (T.a.getD T.moved []) (i : Int)).1), .int .i64 (((at_ itI (T.a.getD T.moved []) (i : Int)).2).kind), .string (((at_ itI (T.a.getD T.moved []) (i : Int)).2).s), .slice (((at_ itI (T.a.getD T.moved []) (i : Int)).2).l.a) (((at_ itI (T.a.getD T.moved []) (i : Int)).2).l.n) (((at_ itI (T.a.getD T.moved []) (i : Int)).2).l.c), .slice (((at_ itI (T.a.getD T.moved []) (i : Int)).2).z.a) (((at_ itI (T.a.getD T.moved []) (i : Int)).2).z.n) (((at_ itI (T.a.getD T.moved []) (i : Int)).2).z.c), .slice (((at_ itI (T.a.getD T.moved []) (i : Int)).2).h.a) (((at_ itI (T.a.getD T.moved []) (i : Int)).2).h.n) (((at_ itI (T.a.getD T.moved []) (i : Int)).2).h.c), .int .i64 (((at_ itI (T.a.getD T.moved []) (i : Int)).2).till)]) [.string ((at_ itI (T.a.getD T.moved []) (i : Int)).1), .int .i64 (((at_ itI (T.a.getD T.moved []) (i : Int)).2).kind), .string (((at_ itI (T.a.getD T.moved []) (i : Int)).2).s), .slice (((at_ itI (T.a.getD T.moved []) (i : Int)).2).l.a) (((at_ itI (T.a.getD T.moved []) (i : Int)).2).l.n) (((at_ itI (T.a.getD T.moved []) (i : Int)).2).l.c), .slice (((at_ itI (T.a.getD T.moved []) (i : Int)).2).z.a) (((at_ itI (T.a.getD T.moved []) (i : Int)).2).z.n) (((at_ itI (T.a.getD T.moved []) (i : Int)).2).z.c), .slice (((at_ itI (T.a.getD T.moved []) (i : Int)).2).h.a) (((at_ itI (T.a.getD T.moved []) (i : Int)).2).h.n) (((at_ itI (T.a.getD T.moved []) (i : Int)).2).h.c), .int .i64 (((at_ itI (T.a.getD T.moved []) (i : Int)).2).till)] h77.e h77.e rfl rfl (by kernel_rfl) hB66 (by simp) [.string ((at_ itI (T.a.getD T.moved []) (i : Int)).1), .int .i64 (((at_ itI (T.a.getD T.moved []) (i : Int)).2).kind), .string (((at_ itI (T.a.getD T.moved []) (i : Int)).2).s), .slice (((at_ itI (T.a.getD T.moved []) (i : Int)).2).l.a) (((at_ itI (T.a.getD T.moved []) (i : Int)).2).l.n) (((at_ itI (T.a.getD T.moved []) (i : Int)).2).l.c), .slice (((at_ itI (T.a.getD T.moved []) (i : Int)).2).z.a) (((at_ itI (T.a.getD T.moved []) (i : Int)).2).z.n) (((at_ itI (T.a.getD T.moved []) (i : Int)).2).z.c), .slice (((at_ itI (T.a.getD T.moved []) (i : Int)).2).h.a) (((at_ itI (T.a.getD T.moved []) (i : Int)).2).h.n) (((at_ itI (T.a.getD T.moved []) (i : Int)).2).h.c), .int .i64 (((at_ itI (T.a.getD T.moved []) (i : Int)).2).till)] rfl ?_)
   intro w78 hB79 hF80 hsw78
   have hRB_81 := hRB_69.fr1 hF80 (by omega)
   have hK_82 := hK_70.fr hF80 (by simp)
   have hF0_83 := hF0_71.tr hF80 (fun _ _ => .inl trivial)
   have hB_84 := hB_72.fr1 hF80 (by omega)
   have hRA_85 := hRA_73.fr1 hF80 (by omega)
   have hFP_86 := hFP_74.tr1 hF80 (by first | exact .inl (by assumption) | exact .inr (by omega) | exact .inl (.inl rfl))
   have hS9_87 := hS9_75.fr hF80 (by intro x hx hz; simp only [List.mem_singleton] at hx; subst hx; first | (have := (hoh _ hz).2; omega) | exact (hoh _ hz).1 (by simp))
   refine V.nt (k56 _ _ ?_)
   refine V.seq fun K89 k90 => ?_
   have hkz := ks_at (R := itI) (hks.1 T.moved) (i := (i : Int)) (by omega) (by omega)
   refine V.rg ?_
   refine V.run h77 [(2, .b hB79 0)] 3 25 25 [(24, .pointer (some ⟨t, 0, none⟩)), (26, .string ((at_ itI (T.a.getD T.moved []) (i : Int)).1))] fun a h91 => ?_
   refine V.cl h91 (Go.Proofs.enters_of Tryz.func83 (by kernel_rfl) rfl) (bucket_M1 w78 t T.seed T.a.length T.b.length 0 gA gB (.int .i64 (T.moved : Int)) (.int .i64 (T.n : Int)) hB_84 ((at_ itI (T.a.getD T.moved []) (i : Int)).1) (by omega) (by omega) (by omega) (by omega)) ?_
   rintro _ w93 ⟨rfl, hF92⟩
   refine ⟨_, rfl, fun a h94 => ?_⟩
   have hsw93 := hF92.size
   have hRB_95 := hRB_81.fr0 hF92
   have hK_96 := hK_82.fr0 hF92
   have hF0_97 := hF0_83.tr hF92 (fun _ _ => .inl trivial)
   have hB_98 := hB_84.fr0 hF92
   have hRA_99 := hRA_85.fr0 hF92
   have hFP_100 := hFP_86.tr0 hF92
   have hS9_101 := hS9_87.fr0 hF92
   have hB79_103 := hB79.fr0 hF92
   have hbl92 := bkt_lt T.seed ((at_ itI (T.a.getD T.moved []) (i : Int)).1) (n := T.b.length) (by omega)
   refine V.re h94 [] 1 0 [(4, .int .i64 ((bkt T.seed T.b.length ((at_ itI (T.a.getD T.moved []) (i : Int)).1) : Nat) : Int))] fun a h104 => k90 _ _ ?_
   have hfg := flat_getD xb (bkt T.seed T.b.length ((at_ itI (T.a.getD T.moved []) (i : Int)).1))
   refine V.pl [([0,1,2,3,4,5,6,7,8,9,10,11,12,13,14],some (15,[4,10,13])),([],some (16,[4])),([17],some (18,[])),([],none)] fun w105 hF106 hsw105 => ?_
   have hRB_107 := hRB_95.fr0 hF106
   have hK_108 := hK_96.fr0 hF106
   have hF0_109 := hF0_97.tr hF106 (fun _ _ => .inl trivial)
   have hB_110 := hB_98.fr0 hF106
   have hRA_111 := hRA_99.fr0 hF106
   have hFP_112 := hFP_100.tr0 hF106
   have hS9_113 := hS9_101.fr0 hF106
   have hB79_115 := hB79_103.fr0 hF106
   obtain ⟨A116, c117, hv118⟩ := hK_108.getB hlA2 (i := (bkt T.seed T.b.length ((at_ itI (T.a.getD T.moved []) (i : Int)).1))) (by omega) nilS
   have hS119 := hK_108.slB hlA2 (i := (bkt T.seed T.b.length ((at_ itI (T.a.getD T.moved []) (i : Int)).1))) (by omega) hv118
   refine V.pe h104 [(4, .b hB_110 2), (5, .b hB_110 2), (1, .ix gB 0 T.b.length T.b.length .i64 ((bkt T.seed T.b.length ((at_ itI (T.a.getD T.moved []) (i : Int)).1) : Nat) : Int) 1 rfl), (0, .l ⟨gB, 0 + ((bkt T.seed T.b.length ((at_ itI (T.a.getD T.moved []) (i : Int)).1) : Nat) : Int).toNat * 1, none⟩ (.slice A116 ((xb.getD (bkt T.seed T.b.length ((at_ itI (T.a.getD T.moved []) (i : Int)).1)) []).length) c117) ((hRB_107.at (bkt T.seed T.b.length ((at_ itI (T.a.getD T.moved []) (i : Int)).1)) nilS (by omega)).trans (congrArg some hv118))), (0, .bs hB79_115 0 [.string ((at_ itI (T.a.getD T.moved []) (i : Int)).1), .int .i64 (((at_ itI (T.a.getD T.moved []) (i : Int)).2).kind), .string (((at_ itI (T.a.getD T.moved []) (i : Int)).2).s), .slice (((at_ itI (T.a.getD T.moved []) (i : Int)).2).l.a) (((at_ itI (T.a.getD T.moved []) (i : Int)).2).l.n) (((at_ itI (T.a.getD T.moved []) (i : Int)).2).l.c), .slice (((at_ itI (T.a.getD T.moved []) (i : Int)).2).z.a) (((at_ itI (T.a.getD T.moved []) (i : Int)).2).z.n) (((at_ itI (T.a.getD T.moved []) (i : Int)).2).z.c), .slice (((at_ itI (T.a.getD T.moved []) (i : Int)).2).h.a) (((at_ itI (T.a.getD T.moved []) (i : Int)).2).h.n) (((at_ itI (T.a.getD T.moved []) (i : Int)).2).h.c), .int .i64 (((at_ itI (T.a.getD T.moved []) (i : Int)).2).till)])] 28 39 [(31, .pointer (some ⟨t, 2, none⟩)), (32, .slice (some ⟨gB, 0, none⟩) T.b.length T.b.length), (33, .int .i64 ((bkt T.seed T.b.length ((at_ itI (T.a.getD T.moved []) (i : Int)).1) : Nat) : Int)), (37, .pointer (some ⟨t, 2, none⟩)), (40, .pointer (some ⟨gB, 0 + ((bkt T.seed T.b.length ((at_ itI (T.a.getD T.moved []) (i : Int)).1) : Nat) : Int).toNat * 1, none⟩)), (41, .slice A116 ((xb.getD (bkt T.seed T.b.length ((at_ itI (T.a.getD T.moved []) (i : Int)).1)) []).length) c117), (42, .agg #[.string ((at_ itI (T.a.getD T.moved []) (i : Int)).1), .int .i64 (((at_ itI (T.a.getD T.moved []) (i : Int)).2).kind), .string (((at_ itI (T.a.getD T.moved []) (i : Int)).2).s), .slice (((at_ itI (T.a.getD T.moved []) (i : Int)).2).l.a) (((at_ itI (T.a.getD T.moved []) (i : Int)).2).l.n) (((at_ itI (T.a.getD T.moved []) (i : Int)).2).l.c), .slice (((at_ itI (T.a.getD T.moved []) (i : Int)).2).z.a) (((at_ itI (T.a.getD T.moved []) (i : Int)).2).z.n) (((at_ itI (T.a.getD T.moved []) (i : Int)).2).z.c), .slice (((at_ itI (T.a.getD T.moved []) (i : Int)).2).h.a) (((at_ itI (T.a.getD T.moved []) (i : Int)).2).h.n) (((at_ itI (T.a.getD T.moved []) (i : Int)).2).h.c), .int .i64 (((at_ itI (T.a.getD T.moved []) (i : Int)).2).till)])] fun a h120 => ?_
   refine V.go (V.mk [(42, .agg #[.string ((at_ itI (T.a.getD T.moved []) (i : Int)).1), .int .i64 (((at_ itI (T.a.getD T.moved []) (i : Int)).2).kind), .string (((at_ itI (T.a.getD T.moved []) (i : Int)).2).s), .slice (((at_ itI (T.a.getD T.moved []) (i : Int)).2).l.a) (((at_ itI (T.a.getD T.moved []) (i : Int)).2).l.n) (((at_ itI (T.a.getD T.moved []) (i : Int)).2).l.c), .slice (((at_ itI (T.a.getD T.moved []) (i : Int)).2).z.a) (((at_ itI (T.a.getD T.moved []) (i : Int)).2).z.n) (((at_ itI (T.a.getD T.moved []) (i : Int)).2).z.c), .slice (((at_ itI (T.a.getD T.moved []) (i : Int)).2).h.a) (((at_ itI (T.a.getD T.moved []) (i : Int)).2).h.n) (((at_ itI (T.a.getD T.moved []) (i : Int)).2).h.c), .int .i64 (((at_ itI (T.a.getD T.moved []) (i : Int)).2).till)])] ⟨h120.e, trivial⟩ (by kernel_rfl) [.string ((at_ itI (T.a.getD T.moved []) (i : Int)).1), .int .i64 (((at_ itI (T.a.getD T.moved []) (i : Int)).2).kind), .string (((at_ itI (T.a.getD T.moved []) (i : Int)).2).s), .slice (((at_ itI (T.a.getD T.moved []) (i : Int)).2).l.a) (((at_ itI (T.a.getD T.moved []) (i : Int)).2).l.n) (((at_ itI (T.a.getD T.moved []) (i : Int)).2).l.c), .slice (((at_ itI (T.a.getD T.moved []) (i : Int)).2).z.a) (((at_ itI (T.a.getD T.moved []) (i : Int)).2).z.n) (((at_ itI (T.a.getD T.moved []) (i : Int)).2).z.c), .slice (((at_ itI (T.a.getD T.moved []) (i : Int)).2).h.a) (((at_ itI (T.a.getD T.moved []) (i : Int)).2).h.n) (((at_ itI (T.a.getD T.moved []) (i : Int)).2).h.c), .int .i64 (((at_ itI (T.a.getD T.moved []) (i : Int)).2).till)] 117 (fun b => .slice (some ⟨b, 0, none⟩) 1 1) (by kernel_rfl) ?_)
   intro w122 b121 heb121 hB123 hF124 hsb121
   have hRB_125 := hRB_107.fr0 hF124
   have hK_126 := hK_108.alloc hF124 heb121 (by omega)
   have hF0_127 := hF0_109.tr hF124 (fun _ _ => .inl trivial)
   have hB_128 := hB_110.fr0 hF124
   have hRA_129 := hRA_111.fr0 hF124
   have hFP_130 := hFP_112.tr0 hF124
   have hS9_131 := hS9_113.fr0 hF124
   refine V.pt h120 fun a h135 => ?_
   refine V.eh ⟨(fun _ => held_blk (n := 1) (hx := (h120.e (v := (.pointer (some ⟨t, 2, none⟩))))) hB_110 hB_128 (by kernel_rfl) rfl (by simp only [List.length]; omega)), (fun _ => held_blk (n := 1) (hx := (h120.e (v := (.pointer (some ⟨t, 2, none⟩))))) hB_110 hB_128 (by kernel_rfl) rfl (by simp only [List.length]; omega)), (fun _ => held_row (hx := (h120.e (v := (.pointer (some ⟨gB, 0 + ((bkt T.seed T.b.length ((at_ itI (T.a.getD T.moved []) (i : Int)).1) : Nat) : Int).toNat * 1, none⟩))))) hRB_107 hRB_125 (by kernel_rfl) (by omega))⟩ ?_
   refine V.pe h135 [] 1 0 [] fun a h136 => ?_
   refine V.go (V.appRB (R := itI) (ys := ([((at_ itI (T.a.getD T.moved []) (i : Int)).1, ((at_ itI (T.a.getD T.moved []) (i : Int)).2))])) (news := [.string ((at_ itI (T.a.getD T.moved []) (i : Int)).1), .int .i64 (((at_ itI (T.a.getD T.moved []) (i : Int)).2).kind), .string (((at_ itI (T.a.getD T.moved []) (i : Int)).2).s), .slice (((at_ itI (T.a.getD T.moved []) (i : Int)).2).l.a) (((at_ itI (T.a.getD T.moved []) (i : Int)).2).l.n) (((at_ itI (T.a.getD T.moved []) (i : Int)).2).l.c), .slice (((at_ itI (T.a.getD T.moved []) (i : Int)).2).z.a) (((at_ itI (T.a.getD T.moved []) (i : Int)).2).z.n) (((at_ itI (T.a.getD T.moved []) (i : Int)).2).z.c), .slice (((at_ itI (T.a.getD T.moved []) (i : Int)).2).h.a) (((at_ itI (T.a.getD T.moved []) (i : Int)).2).h.n) (((at_ itI (T.a.getD T.moved []) (i : Int)).2).h.c), .int .i64 (((at_ itI (T.a.getD T.moved []) (i : Int)).2).till)]) hK_126 hlA2 (i := (bkt T.seed T.b.length ((at_ itI (T.a.getD T.moved []) (i : Int)).1))) (by omega) hv118 (h136.e (v := (.slice A116 ((xb.getD (bkt T.seed T.b.length ((at_ itI (T.a.getD T.moved []) (i : Int)).1)) []).length) c117))) ⟨b121, 0, none⟩ 1 1 (h136.e (v := (.slice (some ⟨b121, 0, none⟩) 1 1))) (by kernel_rfl) (info117) (by kernel_rfl) (by decide) rfl ⟨[.string ((at_ itI (T.a.getD T.moved []) (i : Int)).1), .int .i64 (((at_ itI (T.a.getD T.moved []) (i : Int)).2).kind), .string (((at_ itI (T.a.getD T.moved []) (i : Int)).2).s), .slice (((at_ itI (T.a.getD T.moved []) (i : Int)).2).l.a) (((at_ itI (T.a.getD T.moved []) (i : Int)).2).l.n) (((at_ itI (T.a.getD T.moved []) (i : Int)).2).l.c), .slice (((at_ itI (T.a.getD T.moved []) (i : Int)).2).z.a) (((at_ itI (T.a.getD T.moved []) (i : Int)).2).z.n) (((at_ itI (T.a.getD T.moved []) (i : Int)).2).z.c), .slice (((at_ itI (T.a.getD T.moved []) (i : Int)).2).h.a) (((at_ itI (T.a.getD T.moved []) (i : Int)).2).h.n) (((at_ itI (T.a.getD T.moved []) (i : Int)).2).h.c), .int .i64 (((at_ itI (T.a.getD T.moved []) (i : Int)).2).till)], [], rfl, rfl, rfl⟩ (blk_cells hB123 0 _ rfl) (by omega) (by decide) (.inr (by omega)) ?_)
   intro A137 c138 w139 hK140 hF141 ho142
   have hsw139 := hF141.size
   have hRB_143 := hRB_125.fr hF141 (fun hm => (ho142 _ hm).1 (by simp))
   have hF0_144 := hF0_127.tr hF141 (fun _ _ => .inl trivial)
   have hB_145 := hB_128.fr hF141 (fun hm => (ho142 _ hm).1 (by simp))
   have hRA_146 := hRA_129.fr hF141 (fun hm => (ho142 _ hm).1 (by simp))
   have hFP_147 := hFP_130.tr hF141 (fun k hk => ((ho142 k hk).2).imp (fun h => ⟨h, fun hm => (ho142 k hk).1 (by simp [hm])⟩) id)
   have hS9_148 := hS9_131.fr hF141 (fun k hk hz => (ho142 k hk).1 (by simp at hz; simp [hz]))
   refine V.pt h136 fun a h150 => ?_
   refine V.eh (fun _ => held_blk (n := 1) (hx := (h136.e (v := (.pointer (some ⟨t, 2, none⟩))))) hB_128 hB_145 (by kernel_rfl) rfl (by simp only [List.length]; omega)) ?_
   refine V.pe h150 [(0, .ix gB 0 T.b.length T.b.length .i64 ((bkt T.seed T.b.length ((at_ itI (T.a.getD T.moved []) (i : Int)).1) : Nat) : Int) 1 rfl)] 1 0 [(45, .pointer (some ⟨gB, 0 + ((bkt T.seed T.b.length ((at_ itI (T.a.getD T.moved []) (i : Int)).1) : Nat) : Int).toNat * 1, none⟩))] fun a h151 => ?_
   refine V.go (V.strow (enc := idV) gB (((bkt T.seed T.b.length ((at_ itI (T.a.getD T.moved []) (i : Int)).1) : Nat) : Int).toNat) (.slice A137 ((xb.getD (bkt T.seed T.b.length ((at_ itI (T.a.getD T.moved []) (i : Int)).1)) []).length + 1) c138) h151.e h151.e rfl rfl (by kernel_rfl) hRB_143 (by first | omega | (simp only [List.length_set, List.length_replicate]; omega)) ?_)
   intro w152 hR153 hF154 hsw152
   have hF0_155 := hF0_144.tr hF154 (fun _ _ => .inl trivial)
   have hB_156 := hB_145.fr1 hF154 (by omega)
   have hRA_157 := hRA_146.fr1 hF154 (by omega)
   have hFP_158 := hFP_147.tr1 hF154 (by first | exact .inl (by assumption) | exact .inr (by omega) | exact .inl (.inl rfl))
   have hS9_159 := hS9_148.fr hF154 (by intro x hx hz; simp only [List.mem_singleton] at hx; subst hx; first | (have := (hoh _ hz).2; omega) | exact (hoh _ hz).1 (by simp))
   have hK140_161 := hK140.fr hF154 (by simp)
   refine V.eh trivial ?_
   refine V.pz h151 [] 1 0 [] fun a h162 => ?_
   refine V.blk_n ?_
   refine V.then_n (k54 _ _ ?_)
   refine V.rr h162 [(0, .i ((i : Int) + 1))] 46 46 [(20, .int .i64 ((i : Int) + 1))] fun a h163 => ?_
   refine V.then_n ?_
   refine ⟨i + 1, vb.set (((bkt T.seed T.b.length ((at_ itI (T.a.getD T.moved []) (i : Int)).1) : Nat) : Int).toNat) (.slice A137 ((xb.getD (bkt T.seed T.b.length ((at_ itI (T.a.getD T.moved []) (i : Int)).1)) []).length + 1) c138), (xb.set (bkt T.seed T.b.length ((at_ itI (T.a.getD T.moved []) (i : Int)).1)) (xb.getD (bkt T.seed T.b.length ((at_ itI (T.a.getD T.moved []) (i : Int)).1)) [] ++ [((at_ itI (T.a.getD T.moved []) (i : Int)).1, ((at_ itI (T.a.getD T.moved []) (i : Int)).2))])), by omega, ?_⟩
   refine ⟨(h163.eq 20 (v := (.int .i64 ((i : Int) + 1))) (u := (.int .i64 ((i + 1) : Int))) (V.int_eq (by omega))).only _, hR153, (hK140_161.sub (fun k hk => List.mem_cons_of_mem _ (List.mem_cons_of_mem _ (hk))) (fun k _ _ q => q)), hF0_155, hB_156, hRA_157, hFP_158, hS9_159, (by omega), (by simp [hlb]), (by rw [take_at itI (by omega), List.foldl_append, hxb, List.foldl_cons, List.foldl_nil]; unfold putB; rw [hxl])⟩
  ·
   refine V.exit (V.then_e (V.then_e (V.blk_hit ?_)))
   refine V.then_n (k17 _ _ ?_)
   refine V.seq fun K164 k165 => ?_
   have hxe : xb = (movedT T).b := by (rw [← hxb, List.take_of_length_le (by omega)]; rfl)
   refine V.pl [([0,1,2,3,4,5,6,7,8,9],some (10,[])),([],none)] fun w166 hF167 hsw166 => ?_
   have hRB_168 := hRB_35.fr0 hF167
   have hK_169 := hK_36.fr0 hF167
   have hB_171 := hB_38.fr0 hF167
   have hRA_172 := hRA_39.fr0 hF167
   have hFP_173 := hFP_40.tr0 hF167
   refine V.pe h49 [(4, .b hB_171 1), (3, .b hB_171 3), (0, .ix gA 0 T.a.length T.a.length .i64 (T.moved : Int) 1 rfl)] 47 55 [(56, .pointer (some ⟨gA, 0 + (T.moved : Int).toNat * 1, none⟩))] fun a h175 => ?_
   refine V.go (V.strow (enc := idV) gA ((T.moved : Int).toNat) (.slice none 0 0) h175.e evc rfl rfl (by kernel_rfl) hRA_172 (by first | omega | (simp only [List.length_set, List.length_replicate]; omega)) ?_)
   intro w176 hR177 hF178 hsw176
   have hRB_179 := hRB_168.fr1 hF178 (by omega)
   have hK_180 := hK_169.fr hF178 (by simp)
   have hB_182 := hB_171.fr1 hF178 (by omega)
   have hFP_183 := hFP_173.tr1 hF178 (by first | exact .inl (by assumption) | exact .inr (by omega) | exact .inl (.inl rfl))
   refine V.eh trivial ?_
   refine V.pz h175 [] 1 0 [] fun a h185 => k165 _ _ ?_
   refine V.sg fun K186 k187 => ?_
   refine V.run h185 [(3, .b hB_182 3), (0, .i ((T.moved : Int) + 1))] 7 57 62 [(61, .int .i64 ((T.moved : Int) + 1)), (63, .pointer (some ⟨t, 3, none⟩))] fun a h191 => ?_
   refine V.go (V.stn t 3 (.int .i64 ((T.moved : Int) + 1)) [.int .i64 ((T.moved : Int) + 1)] h191.e h191.e rfl rfl (by kernel_rfl) hB_182 (by simp) [.int .u64 (T.seed : Int), .slice (some ⟨gA, 0, none⟩) T.a.length T.a.length, .slice (some ⟨gB, 0, none⟩) T.b.length T.b.length, .int .i64 ((T.moved : Int) + 1), .int .i64 (T.n : Int)] rfl ?_)
   intro w188 hB189 hF190 hsw188
   have hRB_192 := hRB_179.fr1 hF190 (by omega)
   have hK_193 := hK_180.fr hF190 (by simp)
   have hFP_195 := hFP_183.tr1 hF190 (by first | exact .inl (by assumption) | exact .inr (by omega) | exact .inl (.inl rfl))
   have hR177_197 := hR177.fr1 hF190 (by omega)
   refine V.nt (k187 _ _ ?_)
   refine V.seq fun K198 k199 => ?_
   refine V.seq fun K200 k201 => ?_
   refine V.pl [([0,1,2,3,4,5,6,7,8,9,10],none)] fun w202 hF203 hsw202 => ?_
   have hRB_204 := hRB_192.fr0 hF203
   have hK_205 := hK_193.fr0 hF203
   have hFP_207 := hFP_195.tr0 hF203
   have hR177_209 := hR177_197.fr0 hF203
   have hB189_210 := hB189.fr0 hF203
   refine V.pz h191 [(3, .b hB189_210 3), (4, .b hB189_210 1)] 64 73 [(74, .bool (decide (((T.moved : Int) + 1) < ((T.a.length : Nat) : Int))))] fun a h211 => k201 _ _ ?_
   refine V.cp h211 (((T.moved : Int) + 1) < ((T.a.length : Nat) : Int)) (fun ht212 => ?_) (fun ht212 => ?_)
   ·
    refine V.ret (V.then_r ?_)
    refine V.r0 h211 ?_
    have hst : tbStep T = movedT T := by (unfold tbStep; rw [if_neg hb, if_pos (by omega)])
    have hsok := (tbStep_ok hok hm).1
    rw [hst] at hsok ⊢
    exact ⟨rfl, TabM.fin (T := (movedT T)) hsok (fun h => hb (by rw [← movedT_b, h]; rfl)) hB189_210 hR177_209 hRB_204 hlA2 hK_205 (mem4 (l := (((Value.slice A27 ((T.a.getD T.moved []).length) c28).ownBlock.toList ++ (t :: gA :: gB :: av)))) (by simp) (by simp) (by simp) (by intro k hk; simp [hk])) (by first | assumption | omega) (by first | assumption | omega) (by first | assumption | omega) hpt ⟨.inl hpg.1, hpg.2⟩ ⟨.inl hph.1, hph.2⟩ rfl (movedT_a T).symm (by simp [movedT]) rfl rfl hxe (movedT_b T).symm, hFP_207⟩
   ·
    refine V.skip ?_
    refine V.then_n (k199 _ _ ?_)
    refine V.seq fun K213 k214 => ?_
    refine V.pl [([0,1,2,3,4,5,6,7,8,9,10,12,13],some (11,[])),([14],some (15,[])),([16,17],some (18,[])),([],none)] fun w215 hF216 hsw215 => ?_
    have hRB_217 := hRB_204.fr0 hF216
    have hK_218 := hK_205.fr0 hF216
    have hFP_220 := hFP_207.tr0 hF216
    have hB189_223 := hB189_210.fr0 hF216
    refine V.pe h211 [(7, .b hB189_223 2)] 75 86 [(77, .pointer (some ⟨t, 0, none⟩)), (82, .slice (some ⟨gB, 0, none⟩) T.b.length T.b.length), (85, .pointer (some ⟨t, 1, none⟩)), (87, .pointer (some ⟨t, 1, none⟩))] fun a h224 => ?_
    refine V.go (V.stn t 1 (.slice (some ⟨gB, 0, none⟩) T.b.length T.b.length) [.slice (some ⟨gB, 0, none⟩) T.b.length T.b.length] h224.e h224.e rfl rfl (by kernel_rfl) hB189_223 (by simp) [.int .u64 (T.seed : Int), .slice (some ⟨gB, 0, none⟩) T.b.length T.b.length, .slice (some ⟨gB, 0, none⟩) T.b.length T.b.length, .int .i64 ((T.moved : Int) + 1), .int .i64 (T.n : Int)] rfl ?_)
    intro w225 hB226 hF227 hsw225
    have hRB_228 := hRB_217.fr1 hF227 (by omega)
    have hK_229 := hK_218.fr hF227 (by simp)
    have hFP_231 := hFP_220.tr1 hF227 (by first | exact .inl (by assumption) | exact .inr (by omega) | exact .inl (.inl rfl))
    refine V.eh trivial ?_
    refine V.pe h224 [] 1 0 [(88, .pointer (some ⟨t, 2, none⟩))] fun a h234 => ?_
    refine V.go (V.stn t 2 (.slice none 0 0) [.slice none 0 0] h234.e evc rfl rfl (by kernel_rfl) hB226 (by simp) [.int .u64 (T.seed : Int), .slice (some ⟨gB, 0, none⟩) T.b.length T.b.length, .slice none 0 0, .int .i64 ((T.moved : Int) + 1), .int .i64 (T.n : Int)] rfl ?_)
    intro w235 hB236 hF237 hsw235
    have hRB_238 := hRB_228.fr1 hF237 (by omega)
    have hK_239 := hK_229.fr hF237 (by simp)
    have hFP_241 := hFP_231.tr1 hF237 (by first | exact .inl (by assumption) | exact .inr (by omega) | exact .inl (.inl rfl))
    refine V.eh trivial ?_
    refine V.pe h234 [] 89 89 [(90, .pointer (some ⟨t, 3, none⟩))] fun a h244 => ?_
    refine V.go (V.stn t 3 (.int .i64 0) [.int .i64 0] h244.e evc rfl rfl (by kernel_rfl) hB236 (by simp) [.int .u64 (T.seed : Int), .slice (some ⟨gB, 0, none⟩) T.b.length T.b.length, .slice none 0 0, .int .i64 0, .int .i64 (T.n : Int)] rfl ?_)
    intro w245 hB246 hF247 hsw245
    have hRB_248 := hRB_238.fr1 hF247 (by omega)
    have hK_249 := hK_239.fr hF247 (by simp)
    have hFP_251 := hFP_241.tr1 hF247 (by first | exact .inl (by assumption) | exact .inr (by omega) | exact .inl (.inl rfl))
    refine V.eh trivial ?_
    refine V.pz h244 [] 1 0 [] fun a h254 => k214 _ _ ?_
    have h255 := h254.only [(0, .pointer (some ⟨t, 0, none⟩))]
    refine V.seq fun K256 k257 => ?_
    refine V.pl [([0,1,2,3,4,5,6,7,8,9,10],none)] fun w258 hF259 hsw258 => ?_
    have hRB_260 := hRB_248.fr0 hF259
    have hK_261 := hK_249.fr0 hF259
    have hFP_263 := hFP_251.tr0 hF259
    have hB246_266 := hB246.fr0 hF259
    refine V.pz h255 [(3, .b hB246_266 4), (4, .b hB246_266 1)] 91 100 [(101, .bool (decide ((T.n : Int) > ((T.b.length : Nat) : Int))))] fun a h267 => k257 _ _ ?_
    refine V.cp h267 ((T.n : Int) > ((T.b.length : Nat) : Int)) (fun ht268 => ?_) (fun ht268 => ?_)
    ·
     refine V.rg ?_
     refine V.run h267 [(5, .b hB246_266 1), (1, .q (.int .i64 ((2 * T.b.length : Nat) : Int)) (w_mulN (by omega)))] 8 103 108 [(102, .pointer (some ⟨t, 0, none⟩)), (109, .int .i64 ((2 * T.b.length : Nat) : Int))] fun a h269 => ?_
     have hKd270 := hK_261.dropNil hlA2
     have hsok2 : (swapT (movedT T)).Ok := swapT_ok hok hm hb (by omega)
     have hN271 : TabN 122 118 117 itI w258 (gh H w) av t gB vb (swapT (movedT T)) := TabN.mk2 hB246_266 hRB_260 hKd270 (mem3 (by simp) (by simp) (by intro k hk; simp [hk])) hne2 ⟨.inl hpt.1, hpt.2⟩ ⟨.inl hph.1, hph.2⟩ rfl (movedT_b T).symm rfl rfl hxe
     have hmb := movedT_b T
     refine V.cl h269 (Go.Proofs.enters_of Tryz.func84 (by kernel_rfl) rfl) (start_N w258 (gh H w) av t gB vb (swapT (movedT T)) hsok2 hN271 (2 * T.b.length) rfl (by omega) (by omega)) ?_
     rintro _ w274 ⟨rfl, hT272, hfp273⟩
     refine ⟨_, rfl, fun a h275 => ?_⟩
     have hsw274 := hfp273.size
     have hFP_276 := hFP_263.trP hfp273 (fun k hk => hk.1.imp (fun h => ⟨h, hk.2⟩) id)
     have hT272q := hT272
     rw [show 2 * T.b.length = 2 * (movedT T).b.length by rw [movedT_b]] at hT272q
     refine V.nil ?_
     refine V.e0 h275 ?_
     have hst : tbStep T = startT (swapT (movedT T)) (2 * (movedT T).b.length) := by (unfold tbStep; rw [if_neg hb, if_neg (by omega), if_pos (by rw [movedT_b]; omega)])
     have hsok := (tbStep_ok hok hm).1
     rw [hst] at hsok ⊢
     exact ⟨rfl, hT272q.gr2 (by omega), hFP_276⟩
    ·
     refine V.skip ?_
     refine V.e0 h267 ?_
     have hst : tbStep T = swapT (movedT T) := by (unfold tbStep; rw [if_neg hb, if_neg (by omega), if_neg (by rw [movedT_b]; omega)])
     have hsok := (tbStep_ok hok hm).1
     rw [hst] at hsok ⊢
     have hKd277 := hK_261.dropNil hlA2
     exact ⟨rfl, TabN.fin (T := (swapT (movedT T))) hsok rfl hB246_266 hRB_260 hKd277 (mem3 (l := (((Value.slice A27 ((T.a.getD T.moved []).length) c28).ownBlock.toList ++ (t :: gA :: gB :: av)))) (by simp) (by simp) (by intro k hk; simp [hk])) (by first | assumption | exact Ne.symm (by assumption) | omega) hpt ⟨.inl hph.1, hph.2⟩ rfl (movedT_b T).symm rfl rfl hxe, hFP_263⟩
end Go.Proofs.YtjkegckfncfoaaaGreat
end
section
namespace Go.V
open Go.Base Go.RowKit
set_option linter.unusedVariables false
theorem over_left : ∀ (us a b : List Value) (k : Nat), k + us.length ≤ a.length → over (a ++ b) k us = over a k us ++ b
  | [], a, b, k, h => rfl
  | u :: us, a, b, k, h => by
    simp only [List.length_cons] at h
    show over ((a ++ b).set k u) (k + 1) us = over (a.set k u) (k + 1) us ++ b
    rw [List.set_append_left _ _ (by omega)]
    exact over_left us (a.set k u) b (k + 1) (by rw [List.length_set]; omega)
theorem over_right : ∀ (us a b : List Value) (k : Nat), over (a ++ b) (a.length + k) us = a ++ over b k us
  | [], a, b, k => rfl
  | u :: us, a, b, k => by
    show over ((a ++ b).set (a.length + k) u) (a.length + k + 1) us = a ++ over (b.set k u) (k + 1) us
    rw [List.set_append_right _ _ (by omega), Nat.add_sub_cancel_left, Nat.add_assoc]
    exact over_right us a (b.set k u) (k + 1)
theorem over_takes : ∀ (us cs : List Value) (k n : Nat), k + us.length ≤ n → n ≤ cs.length → (over cs k us).take n = over (cs.take n) k us := by
  intro us cs k n h1 h2
  conv => lhs; rw [← List.take_append_drop n cs]
  have hl : (cs.take n).length = n := by rw [List.length_take]; omega
  rw [over_left us (cs.take n) (cs.drop n) k (by omega), List.take_append_of_le_length (by rw [over_length]; omega), List.take_of_length_le (by rw [over_length]; omega)]
section
variable {α : Type} {R : Rp α} {w w1 : World}
theorem Cells.setn (hs : w.heap.size ≤ w1.heap.size) {f : Nat} {us : List Value} (hf : f + us.length ≤ R.sz) {y : α} : ∀ {xs : List α} {cs : List Value} {j : Nat} {x : α}, Cells R NoZ w xs cs → xs[j]? = some x → (∀ c, R.ok NoZ w x c → R.ok NoZ w1 y (over c f us)) → Cells R NoZ w1 (xs.set j y) (over cs (j * R.sz + f) us)
  | [], cs, j, x, _, hj, _ => by simp at hj
  | z :: xs, cs, 0, x, ⟨c, r, e, h1, h2⟩, hj, hok => by
    simp at hj; subst hj; subst e
    refine ⟨over c f us, r, ?_, hok c h1, h2.mono (fun b hb hz => hz.elim) hs⟩
    rw [Nat.zero_mul, Nat.zero_add, over_left _ _ _ _ (by rw [R.len h1]; exact hf)]
  | z :: xs, cs, j + 1, x, ⟨c, r, e, h1, h2⟩, hj, hok => by
    subst e
    have hl := R.len h1
    refine ⟨c, over r (j * R.sz + f) us, ?_, R.mono (fun b hb hz => hz.elim) hs h1, Cells.setn hs hf h2 (by simpa using hj) hok⟩
    have he : (j + 1) * R.sz + f = c.length + (j * R.sz + f) := by rw [hl, Nat.add_mul]; omega
    rw [he, over_right]
theorem own_setn {base g o n c : Nat} {e : TypeId} {xs : List α} (ho : OwR R NoZ w base e (.slice (some ⟨g, o, none⟩) n c) xs) {j f : Nat} {x : α} (hx : xs[j]? = some x) {us : List Value} (hf : f + us.length ≤ R.sz) {y : α} :
    ∃ cur : List Value, o = 0 ∧ Blk w g cur e ∧ j * R.sz + f + us.length ≤ cur.length ∧ ∀ w1, Blk w1 g (over cur (j * R.sz + f) us) e → w.heap.size ≤ w1.heap.size → (∀ c, R.ok NoZ w x c → R.ok NoZ w1 y (over c f us)) → OwR R NoZ w1 base e (.slice (some ⟨g, o, none⟩) n c) (xs.set j y) := by
  obtain ⟨cs, h1, h2, h3⟩ := ho
  have hj : j < xs.length := (List.getElem?_eq_some_iff.1 hx).1
  rcases h1.2 with ⟨h, _⟩ | ⟨g', cap, cur, he, hb, hh, hnc, hcm, hsz, htk⟩
  · cases h
  · injection he with e1 e2 e3
    injection e1 with e1
    injection e1 with e1 e4
    subst e1; subst e4; subst e2; subst e3
    have hjs : j * R.sz + f + us.length ≤ xs.length * R.sz := Nat.le_trans (show j * R.sz + f + us.length ≤ (j + 1) * R.sz by rw [Nat.add_mul]; omega) (Nat.mul_le_mul_right _ hj)
    have hcl : xs.length * R.sz ≤ cur.size := by rw [hsz]; exact Nat.mul_le_mul_right _ hnc
    refine ⟨cur.toList, rfl, by unfold Blk; rw [hh], by rw [Array.length_toList]; exact Nat.le_trans hjs hcl, fun w1 hB1 hs hok => ?_⟩
    refine ⟨over cs (j * R.sz + f) us, ⟨by rw [over_length, List.length_set]; exact h1.1, .inr ⟨g, c, (over cur.toList (j * R.sz + f) us).toArray, by rw [List.length_set], hb, hB1, by rw [List.length_set]; exact hnc, hcm, by simp [hsz, over_length], ?_⟩⟩, Cells.setn hs hf h2 hx hok, fun b hb' hz => hz.elim⟩
    rw [List.length_set, List.toList_toArray, over_takes _ _ _ _ hjs (by rw [Array.length_toList]; exact hcl), htk]
end
section
variable {α : Type} {R : Rp α} {w : World} {e : TypeId} {H : Nat → Prop} {av : List Nat} {vs vsA vsB : List Value} {xs xa xb : List (List α)} {i j f : Nat} {d v : Value}
variable {ro : Option Nat} {P : Program} {Q : Exit → Act → World → Prop} {a : Act} {ops : Array Oper} {rest : List Oper} {ty : TypeId} {pos : String} {aft : Array Edge} {g : Option (Nat × Bool)}
theorem stBn {t : TypeId} {x y : Operand} {g0 o0 n c : Nat} (h : Bks R w e H av vs xs) (hi : i < xs.length) (hv : vs[i]? = some (.slice (some ⟨g0, o0, none⟩) n c)) (hj : j < (xs.getD i []).length) (u : Value) (us : List Value) (hf : f + us.length ≤ R.sz) (fy : α → α)
    (hx : a.eval x = .pointer (some ⟨g0, o0 + j * R.sz + f, none⟩)) (hy : a.eval y = u) (hu : u.cells = us.toArray) (h1 : us.all Value.oneCell' = true) (ht : (P.info? t).map (·.size) = some us.length) (hok : ∀ w1 x c, R.ok NoZ w x c → R.ok NoZ w1 (fy x) (over c f us))
    (k : ∀ w1, Bks R w1 e H av vs (xs.set i ((xs.getD i []).modify j fy)) → Fr [g0] w w1 → w1.heap.size = w.heap.size → (∀ k ∈ [g0], k ∉ av ∧ H k) → L ro P ops Q rest a w1) : St ro P ops Q rest ⟨none, .store t x y, ty, pos, aft, g⟩ a w := by
  have hxj : (xs.getD i [])[j]? = some (xs.getD i [])[j] := List.getElem?_eq_getElem hj
  obtain ⟨cur, rfl, hB, hlt, hset⟩ := own_setn (R := R) (us := us) (y := fy (xs.getD i [])[j]) (h.own i _ hv) hxj hf
  rw [Nat.zero_add] at hx
  refine stn g0 (j * R.sz + f) u us hx hy hu h1 ht hB hlt (over cur (j * R.sz + f) us) rfl fun w1 hB1 hF hs => ?_
  have ho := hset w1 hB1 (by omega) (hok w1 _)
  have hmod : (xs.getD i []).modify j fy = (xs.getD i []).set j (fy (xs.getD i [])[j]) := by
    apply List.ext_getElem?
    intro q
    rw [List.getElem?_modify, List.getElem?_set]
    by_cases hq : j = q
    · subst hq; rw [hxj]; simp only [if_true, if_pos hj]; rfl
    · simp [hq]
  refine k w1 (by rw [hmod]; exact h.setE hi hv hF ho) hF hs fun q hq => ?_
  simp at hq; subst hq
  exact h.hom i _ q hv rfl
theorem stRAn {t : TypeId} {x y : Operand} {g0 o0 n c : Nat} {A : Option Addr} (h : Bks R w e H av (vsA ++ vsB) (xa ++ xb)) (hl : vsA.length = xa.length) (hi : i < xa.length) (hv : vsA.getD i d = .slice A n c) (hA : A = some ⟨g0, o0, none⟩) (hj : j < (xa.getD i []).length) (us : List Value) (hf : f + us.length ≤ R.sz) (u : Value) (fy : α → α)
    (hx : a.eval x = .pointer (some ⟨g0, o0 + j * R.sz + f, none⟩)) (hy : a.eval y = u) (hu : u.cells = us.toArray) (h1 : us.all Value.oneCell' = true) (ht : (P.info? t).map (·.size) = some us.length) (hok : ∀ w1 x c, R.ok NoZ w x c → R.ok NoZ w1 (fy x) (over c f us))
    (k : ∀ w1, Bks R w1 e H av (vsA ++ vsB) (xa.set i ((xa.getD i []).modify j fy) ++ xb) → Fr [g0] w w1 → w1.heap.size = w.heap.size → (∀ k ∈ [g0], k ∉ av ∧ H k) → L ro P ops Q rest a w1) : St ro P ops Q rest ⟨none, .store t x y, ty, pos, aft, g⟩ a w := by
  subst hA
  refine stBn h (i := i) (by simp; omega) (h.atA hl hi hv) (by rw [appA_get hi]; exact hj) u us hf fy hx hy hu h1 ht hok fun w1 hk hF hs hh => k w1 ?_ hF hs hh
  rw [appA_get hi, List.set_append_left _ _ hi] at hk
  exact hk
theorem stRBn {t : TypeId} {x y : Operand} {g0 o0 n c : Nat} {A : Option Addr} (h : Bks R w e H av (vsA ++ vsB) (xa ++ xb)) (hl : vsA.length = xa.length) (hi : i < xb.length) (hv : vsB.getD i d = .slice A n c) (hA : A = some ⟨g0, o0, none⟩) (hj : j < (xb.getD i []).length) (us : List Value) (hf : f + us.length ≤ R.sz) (u : Value) (fy : α → α)
    (hx : a.eval x = .pointer (some ⟨g0, o0 + j * R.sz + f, none⟩)) (hy : a.eval y = u) (hu : u.cells = us.toArray) (h1 : us.all Value.oneCell' = true) (ht : (P.info? t).map (·.size) = some us.length) (hok : ∀ w1 x c, R.ok NoZ w x c → R.ok NoZ w1 (fy x) (over c f us))
    (k : ∀ w1, Bks R w1 e H av (vsA ++ vsB) (xa ++ xb.set i ((xb.getD i []).modify j fy)) → Fr [g0] w w1 → w1.heap.size = w.heap.size → (∀ k ∈ [g0], k ∉ av ∧ H k) → L ro P ops Q rest a w1) : St ro P ops Q rest ⟨none, .store t x y, ty, pos, aft, g⟩ a w := by
  subst hA
  refine stBn h (i := xa.length + i) (by simp; omega) (h.atB hl hi hv) (by rw [appB_get]; exact hj) u us hf fy hx hy hu h1 ht hok fun w1 hk hF hs hh => k w1 ?_ hF hs hh
  rw [appB_get, List.set_append_right _ _ (by omega), Nat.add_sub_cancel_left] at hk
  exact hk
end
end Go.V
end
section
namespace Go.V
open Go.Base
set_option linter.unusedVariables false
section
variable {α : Type} {tt te e : TypeId} {R : Rp (ByteArray × α)} {w w1 : World} {H : Nat → Prop} {av av0 : List Nat} {b t : Nat} {T : Tb α}
theorem TabX.dropav (h : TabX tt te e R w H av t T) (hav : av = b :: av0) : TabX tt te e R w H av0 t T := h.sub (fun k hk => by rw [hav]; exact List.mem_cons_of_mem _ hk) fun _ _ q => q
theorem FrP.dropav (h : FrP (gp H av) w w1) (hav : av = b :: av0) : FrP (gp H av0) w w1 := h.mono fun k hk => ⟨hk.1, fun q => hk.2 (by rw [hav]; exact List.mem_cons_of_mem _ q)⟩
theorem FrP.addav (h : FrP (gp H av0) w w1) (hav : av = b :: av0) (hb : w.heap.size ≤ b) : FrP (gp H av) w w1 :=
  ⟨h.os, h.tape, h.output, h.size, fun k hk hn => h.block k hk fun hp => hn ⟨hp.1, fun q => by
    rw [hav] at q
    rcases List.mem_cons.1 q with q | q
    · omega
    · exact hp.2 q⟩⟩
end
end Go.V
end
section
namespace Go.Proofs.YtjkegckfncfoaaaGreat
open Go.V Go.Base
open Go.RowKit (Below)
attribute [local irreducible] Act.put Act.eval
set_option linter.unusedVariables false
set_option linter.unusedSimpArgs false
set_option maxHeartbeats 4000000
set_option maxRecDepth 20000
theorem step_N (w : World) (H : Nat → Prop) (av : List Nat) (t gA : Nat) (vsA : List Value) (T : Tb EntV) (hok : T.Ok) (hT : TabN 122 118 117 itI w H av t gA vsA T) : Calls Tryz.prog 65 #[.pointer (some ⟨t, 0, none⟩)] w (fun e w' => e = .returned (.tuple #[]) ∧ Fr [] w w') := by
 have hF := Fr.refl [] w
 obtain ⟨hsd, hpa, hla, hlb, hmv, hmz, hnn, hcn, hks⟩ := hok
 obtain ⟨hB, hRA, hlA, hK, hne, hpt, hpg⟩ := hT
 have hltt := hB.lt
 have hltg := hRA.lt
 refine V.en 111 Tryz.func65 fun a h1 => ?_
 refine V.seq fun K2 k3 => ?_
 refine V.sg fun K4 k5 => ?_
 refine V.run h1 [] 1 1 0 [(5, .pointer (some ⟨t, 0, none⟩))] fun a h6 => ?_
 refine V.cl h6 (Go.Proofs.enters_of Tryz.func82 (by kernel_rfl) rfl) (moves_N w t T.seed T.a.length 0 0 gA 0 (.int .i64 (T.moved : Int)) (.int .i64 (T.n : Int)) hB) ?_
 rintro _ w8 ⟨rfl, hF7⟩
 refine ⟨_, rfl, fun a h9 => ?_⟩
 have hsw8 := hF7.size
 have hF_10 := hF.new hF7
 refine V.re h9 [] 1 0 [(7, .bool true)] fun a h14 => k5 _ _ ?_
 refine V.ct h14 ?_
 refine V.ret (V.then_r ?_)
 refine V.r0 h14 ?_
 exact ⟨rfl, hF_10⟩
section
variable {w : World} {H : Nat → Prop} {av : List Nat} {t : Nat} {T : Tb EntV}
theorem made_any (w : World) (H : Nat → Prop) (av : List Nat) (t : Nat) (T : Tb EntV) (hT : TabX 122 118 117 itI w H av t T) : Calls Tryz.prog 64 #[.pointer (some ⟨t, 0, none⟩)] w (fun e w' => e = .returned (.bool true) ∧ Fr [] w w') := by
  rcases hT.2 with ⟨_, gA, vsA, h⟩ | ⟨_, gA, gB, vsA, vsB, h⟩
  · exact made_N w t T.seed T.a.length 0 0 gA 0 _ _ h.blk
  · exact made_M w t T.seed T.a.length T.b.length 0 gA gB _ _ h.blk
theorem find_any (w : World) (H : Nat → Prop) (av : List Nat) (t : Nat) (T : Tb EntV) (hT : TabX 122 118 117 itI w H av t T) (k : ByteArray) (hk : k.size ≤ 9223372036854775807) :
    Calls Tryz.prog 70 #[.pointer (some ⟨t, 0, none⟩), .string k] w (fun e w' => e = .returned (.tuple #[.agg #[.int .i64 (findT T k).1.1, .int .i64 (findT T k).1.2.1, .int .i64 (findT T k).1.2.2], .bool (findT T k).2]) ∧ Fr [] w w') := by
  rcases hT.2 with ⟨hb, gA, vsA, h⟩ | ⟨hb, gA, gB, vsA, vsB, h⟩
  · exact find_N w H av t gA vsA T hT.1 h k hk (by rw [hb]; rfl)
  · exact find_M w H av t gA gB vsA vsB T hT.1 h k hk (fun h => hb (List.eq_nil_of_length_eq_zero h))
theorem step_any (w : World) (H : Nat → Prop) (av : List Nat) (t : Nat) (T : Tb EntV) (hT : TabX 122 118 117 itI w H av t T) (hm : T.Mv) :
    Calls Tryz.prog 65 #[.pointer (some ⟨t, 0, none⟩)] w (fun e w' => e = .returned (.tuple #[]) ∧ TabX 122 118 117 itI w' (gr H w w') av t (tbStep T) ∧ FrP (gp H av) w w') := by
  rcases hT.2 with ⟨hb, gA, vsA, h⟩ | ⟨hb, gA, gB, vsA, vsB, h⟩
  · refine (step_N w H av t gA vsA T hT.1 h).mono fun e w' q => ⟨q.1, ?_, (FrP.refl _ _).tr0 q.2⟩
    rw [show tbStep T = T from by unfold tbStep; rw [if_pos (by rw [hb]; rfl)]]
    exact (hT.fr0 q.2).gr1
  · exact step_M w H av t gA gB vsA vsB T hT.1 h (fun h => hb (List.eq_nil_of_length_eq_zero h)) hm
end
theorem insT_ok0 {α : Type} {T : Tb α} (h : T.Ok) (hb : T.b.length = 0) (hn : T.n < 1099511627776) (k : ByteArray) (hk : k.size ≤ 9223372036854775807) (v : α) : ({ T with a := putB T.seed T.a (k, v), n := T.n + 1 } : Tb α).Ok := by
  have hs := h.sum
  exact ⟨h.sd, by show 0 < (putB _ _ _).length; rw [putB_length]; exact h.pa, by show (putB _ _ _).length ≤ _; rw [putB_length]; exact h.la, h.lb, fun h0 => absurd hb h0, fun _ => h.mz hb, by show T.n + 1 ≤ _; omega, by
    show (putB T.seed T.a (k, v) ++ T.b).flatten.length = T.n + 1
    rw [List.flatten_append, List.length_append, putB_flat h.pa]; omega, KsR.put h.ks.1 hk, h.ks.2⟩
theorem tbStep_n {α : Type} (T : Tb α) : (tbStep T).n = T.n := by
  unfold tbStep
  split
  · rfl
  · split
    · rfl
    · split <;> rfl
theorem put_any (w : World) (H : Nat → Prop) (av0 : List Nat) (t : Nat) (T : Tb EntV) (hT : TabX 122 118 117 itI w H av0 t T) (hm : T.Mv) (k : ByteArray) (hkz : k.size ≤ 9223372036854775807) (v : EntV) (hn : T.n < 1099511627776) : Calls Tryz.prog 46 #[.pointer (some ⟨t, 0, none⟩), .string k, .agg #[.int .i64 v.kind, .string v.s, .slice v.l.a v.l.n v.l.c, .slice v.z.a v.z.n v.z.c, .slice v.h.a v.h.n v.h.c, .int .i64 v.till]] w (fun e w' => e = .returned (.bool (findT (tbStep T) k).2) ∧ TabX 122 118 117 itI w' (gr H w w') av0 t (putT T k v) ∧ FrP (gp H av0) w w') := by
 have hFP := FrP.refl (gp H av0) w
 obtain ⟨hok0, hm1⟩ := tbStep_ok hT.1 hm
 obtain ⟨T1, hT1⟩ : ∃ T1, T1 = tbStep T := ⟨_, rfl⟩
 rw [← hT1] at hok0 hm1 ⊢
 have hn1 : T1.n < 1099511627776 := by rw [hT1, tbStep_n]; exact hn
 refine V.en 99 Tryz.func46 fun a h1 => ?_
 refine V.sg fun K2 k3 => ?_
 refine V.go (V.mk [(2, .agg #[.int .i64 v.kind, .string v.s, .slice v.l.a v.l.n v.l.c, .slice v.z.a v.z.n v.z.c, .slice v.h.a v.h.n v.h.c, .int .i64 v.till])] ⟨h1.e, trivial⟩ (by kernel_rfl) [.int .i64 v.kind, .string v.s, .slice v.l.a v.l.n v.l.c, .slice v.z.a v.z.n v.z.c, .slice v.h.a v.h.n v.h.c, .int .i64 v.till] 79 (fun b => .pointer (some ⟨b, 0, none⟩)) (by kernel_rfl) ?_)
 intro w5 b4 heb4 hB6 hF7 hsb4
 have hT_8 := hT.alloc hF7 heb4 (by omega)
 have hFP_9 := hFP.tr0 hF7
 refine V.pt h1 fun a h10 => ?_
 refine V.re h10 [] 6 6 [] fun a h11 => k3 _ _ ?_
 refine V.seq fun K12 k13 => ?_
 refine V.seq fun K14 k15 => ?_
 obtain ⟨av, hav⟩ : ∃ l, l = b4 :: av0 := ⟨_, rfl⟩
 rw [← hav] at hT_8
 have hFP16 := hFP_9.addav hav (by omega)
 refine V.rg ?_
 refine V.run h11 [] 1 1 0 [(11, .pointer (some ⟨t, 0, none⟩))] fun a h17 => ?_
 refine V.cl h17 (Go.Proofs.enters_of Tryz.func64 (by kernel_rfl) rfl) (made_any w5 (H) (av) t (T) hT_8) ?_
 rintro _ w19 ⟨rfl, hF18⟩
 refine ⟨_, rfl, fun a h20 => ?_⟩
 have hsw19 := hF18.size
 have hT_21 := hT_8.fr0 hF18
 have hB6_22 := hB6.fr0 hF18
 have hFP16_23 := hFP16.tr0 hF18
 refine V.re h20 [] 1 0 [(13, .bool false)] fun a h24 => k15 _ _ ?_
 refine V.cf h24 ?_
 refine V.skip ?_
 refine V.then_n (k13 _ _ ?_)
 refine V.sg fun K25 k26 => ?_
 refine V.run h24 [] 1 1 0 [(14, .pointer (some ⟨t, 0, none⟩))] fun a h27 => ?_
 refine V.cl h27 (Go.Proofs.enters_of Tryz.func65 (by kernel_rfl) rfl) (step_any w19 (H) (av) t (T) hT_21 hm) ?_
 rintro _ w30 ⟨rfl, hT28, hfp29⟩
 refine ⟨_, rfl, fun a h31 => ?_⟩
 have hsw30 := hfp29.size
 have hB6_32 := hB6_22.frP hfp29 (by exact fun hp => hp.2 (by first | simp | (rw [hav]; simp)))
 have hFP16_33 := hFP16_23.trP hfp29 (fun k hk => .inl hk)
 have hT28q := hT28.grm (w := w) (by omega)
 rw [← hT1] at hT28q
 refine V.nt (k26 _ _ ?_)
 refine V.seq fun K34 k35 => ?_
 refine V.sg fun K36 k37 => ?_
 refine V.run h31 [] 2 1 0 [(17, .pointer (some ⟨t, 0, none⟩)), (18, .string k)] fun a h38 => ?_
 have hok1 := hT28q.1
 rcases findT_cases hok1 k with hf | ⟨j, hf, hj⟩ | ⟨hbn, j, hf, hj⟩
 ·
  rcases hT28q.2 with ⟨hb0, gA, vsA, hN⟩ | ⟨hb0, gA, gB, vsA, vsB, hN⟩
  ·
   have hb1 : T1.b.length = 0 := by rw [hb0]; rfl
   obtain ⟨hB, hRA, hlA, hK, hne, hpt, hpg⟩ := hN
   have hnbt : t ≠ b4 := fun e => hpt.2 (by rw [hav, e]; simp)
   have hnbgA : gA ≠ b4 := fun e => hpg.2 (by rw [hav, e]; simp)
   replace hK := hK.toH
   have hltt := hB.lt
   have hltg := hRA.lt
   have hE : FrP (gp (gr H w w30) av) w30 w30 := FrP.refl _ _
   have hK0 : ∀ k ∈ av, k < w30.heap.size := fun k hk => hK.avl k (by simp [hk])
   obtain ⟨hsd, hpa, hla, hlb, hmv, hmz, hnn, hcn, hks⟩ := (show T1.Ok from hok1)
   have hbl := hok1.bl
   have hFPE := hFP16_33
   refine V.cl (av := #[.pointer (some ⟨t, 0, none⟩), .string k]) h38 (Go.Proofs.enters_of Tryz.func70 (by kernel_rfl) rfl) (by have h := find_any w30 (gr H w w30) (av) t T1 hT28q k hkz; rw [hf] at h; exact h) ?_
   rintro _ w40 ⟨rfl, hF39⟩
   refine ⟨_, rfl, fun a h41 => ?_⟩
   have hsw40 := hF39.size
   have hB6_42 := hB6_32.fr0 hF39
   have hB_43 := hB.fr0 hF39
   have hRA_44 := hRA.fr0 hF39
   have hK_45 := hK.fr0 hF39
   have hE_46 := hE.tr0 hF39
   refine V.run h41 [] 3 16 16 [(20, .agg #[.int .i64 0, .int .i64 0, .int .i64 0]), (21, .bool false)] fun a h51 => ?_
   refine V.go (V.mk [] trivial (by kernel_rfl) [.int .i64 0, .int .i64 0, .int .i64 0] 113 (fun b => .pointer (some ⟨b, 0, none⟩)) (by kernel_rfl) ?_)
   intro w48 b47 heb47 hB49 hF50 hsb47
   have hB6_52 := hB6_42.fr0 hF50
   have hB_53 := hB_43.fr0 hF50
   have hRA_54 := hRA_44.fr0 hF50
   have hK_55 := hK_45.alloc hF50 heb47 (by omega)
   have hE_56 := hE_46.tr0 hF50
   refine V.pt h51 fun a h57 => ?_
   refine V.go (V.stn b47 0 (.agg #[.int .i64 0, .int .i64 0, .int .i64 0]) [.int .i64 0, .int .i64 0, .int .i64 0] h57.e h57.e rfl rfl (by kernel_rfl) hB49 (by simp) [.int .i64 0, .int .i64 0, .int .i64 0] rfl ?_)
   intro w58 hB59 hF60 hsw58
   have hB6_61 := hB6_52.fr1 hF60 (by omega)
   have hB_62 := hB_53.fr1 hF60 (by omega)
   have hRA_63 := hRA_54.fr1 hF60 (by omega)
   have hK_64 := hK_55.fr hF60 (by simp)
   have hE_65 := hE_56.tr1 hF60 (by first | exact .inl (by assumption) | exact .inr (by omega) | exact .inl (.inl rfl))
   refine V.re h57 [] 1 0 [(8, .bool false)] fun a h66 => k37 _ _ ?_
   refine V.sr h66 [] 1 0 [(22, .bool false)] fun a h69 => ?_
   refine V.cf h69 ?_
   refine V.skip ?_
   refine V.then_n (k35 _ _ ?_)
   refine V.sr h69 [] 1 0 [(9, .int .i64 0)] fun a h72 => ?_
   refine V.seq fun K73 k74 => ?_
   refine V.sg fun K75 k76 => ?_
   refine V.run h72 [] 1 1 0 [(39, .pointer (some ⟨t, 0, none⟩))] fun a h77 => ?_
   refine V.cl h77 (Go.Proofs.enters_of Tryz.func82 (by kernel_rfl) rfl) (moves_N w58 t T1.seed T1.a.length 0 0 gA 0 (.int .i64 (T1.moved : Int)) (.int .i64 (T1.n : Int)) hB_62) ?_
   rintro _ w79 ⟨rfl, hF78⟩
   refine ⟨_, rfl, fun a h80 => ?_⟩
   have hsw79 := hF78.size
   have hB6_81 := hB6_61.fr0 hF78
   have hB_82 := hB_62.fr0 hF78
   have hRA_83 := hRA_63.fr0 hF78
   have hK_84 := hK_64.fr0 hF78
   have hE_85 := hE_65.tr0 hF78
   refine V.nt (k76 _ _ ?_)
   refine V.cf h80 ?_
   refine V.skip ?_
   refine V.then_n (k74 _ _ ?_)
   refine V.sg fun K87 k88 => ?_
   refine V.run h80 [] 3 1 0 [(41, .pointer (some ⟨t, 0, none⟩)), (42, .int .i64 0), (43, .string k)] fun a h89 => ?_
   refine V.cl h89 (Go.Proofs.enters_of Tryz.func83 (by kernel_rfl) rfl) (bucket_N0 w79 t T1.seed T1.a.length 0 0 gA 0 (.int .i64 (T1.moved : Int)) (.int .i64 (T1.n : Int)) hB_82 k (by omega) (by omega) (by omega) (by omega)) ?_
   rintro _ w91 ⟨rfl, hF90⟩
   refine ⟨_, rfl, fun a h92 => ?_⟩
   have hsw91 := hF90.size
   have hB6_93 := hB6_81.fr0 hF90
   have hB_94 := hB_82.fr0 hF90
   have hRA_95 := hRA_83.fr0 hF90
   have hK_96 := hK_84.fr0 hF90
   have hE_97 := hE_85.tr0 hF90
   have hbl90 := bkt_lt T1.seed k (n := T1.a.length) (by omega)
   refine V.re h92 [] 1 0 [(10, .int .i64 ((bkt T1.seed T1.a.length k : Nat) : Int))] fun a h99 => k88 _ _ ?_
   refine V.seq fun K100 k101 => ?_
   have hbq := hbl (bkt T1.seed T1.a.length k)
   refine V.pl [([0,1,2,3,4,5,6,7,8,9,10,11,12,13,14,15,16,17,18],some (19,[5,12,15])),([],some (20,[5])),([21],some (22,[])),([],none)] fun w102 hF103 hsw102 => ?_
   have hB6_104 := hB6_93.fr0 hF103
   have hB_105 := hB_94.fr0 hF103
   have hRA_106 := hRA_95.fr0 hF103
   have hK_107 := hK_96.fr0 hF103
   have hE_108 := hE_97.tr0 hF103
   obtain ⟨A110, c111, hv112⟩ := hK_107.getA hlA (i := (bkt T1.seed T1.a.length k)) (by omega) nilS
   have hS113 := hK_107.slA hlA (i := (bkt T1.seed T1.a.length k)) (by omega) hv112
   refine V.pe h99 [(5, .b hB_105 1), (6, .b hB_105 1), (1, .ix gA 0 T1.a.length T1.a.length .i64 ((bkt T1.seed T1.a.length k : Nat) : Int) 1 rfl), (0, .l ⟨gA, 0 + ((bkt T1.seed T1.a.length k : Nat) : Int).toNat * 1, none⟩ (.slice A110 ((T1.a.getD (bkt T1.seed T1.a.length k) []).length) c111) ((hRA_106.at (bkt T1.seed T1.a.length k) nilS (by omega)).trans (congrArg some hv112))), (1, .bs hB6_104 0 [.int .i64 v.kind, .string v.s, .slice v.l.a v.l.n v.l.c, .slice v.z.a v.z.n v.z.c, .slice v.h.a v.h.n v.h.c, .int .i64 v.till])] 45 62 [(49, .pointer (some ⟨t, 1, none⟩)), (50, .slice (some ⟨gA, 0, none⟩) T1.a.length T1.a.length), (51, .int .i64 ((bkt T1.seed T1.a.length k : Nat) : Int)), (56, .pointer (some ⟨t, 1, none⟩)), (59, .pointer (some ⟨gA, 0 + ((bkt T1.seed T1.a.length k : Nat) : Int).toNat * 1, none⟩)), (60, .slice A110 ((T1.a.getD (bkt T1.seed T1.a.length k) []).length) c111), (63, .agg #[.string k, .int .i64 v.kind, .string v.s, .slice v.l.a v.l.n v.l.c, .slice v.z.a v.z.n v.z.c, .slice v.h.a v.h.n v.h.c, .int .i64 v.till])] fun a h114 => ?_
   refine V.go (V.mk [(63, .agg #[.string k, .int .i64 v.kind, .string v.s, .slice v.l.a v.l.n v.l.c, .slice v.z.a v.z.n v.z.c, .slice v.h.a v.h.n v.h.c, .int .i64 v.till])] ⟨h114.e, trivial⟩ (by kernel_rfl) [.string k, .int .i64 v.kind, .string v.s, .slice v.l.a v.l.n v.l.c, .slice v.z.a v.z.n v.z.c, .slice v.h.a v.h.n v.h.c, .int .i64 v.till] 117 (fun b => .slice (some ⟨b, 0, none⟩) 1 1) (by kernel_rfl) ?_)
   intro w116 b115 heb115 hB117 hF118 hsb115
   have hB_120 := hB_105.fr0 hF118
   have hRA_121 := hRA_106.fr0 hF118
   have hK_122 := hK_107.alloc hF118 heb115 (by omega)
   have hE_123 := hE_108.tr0 hF118
   refine V.pt h114 fun a h126 => ?_
   refine V.eh ⟨(fun _ => held_blk (n := 1) (hx := (h114.e (v := (.pointer (some ⟨t, 1, none⟩))))) hB_105 hB_120 (by kernel_rfl) rfl (by simp only [List.length]; omega)), (fun _ => held_blk (n := 1) (hx := (h114.e (v := (.pointer (some ⟨t, 1, none⟩))))) hB_105 hB_120 (by kernel_rfl) rfl (by simp only [List.length]; omega)), (fun _ => held_row (hx := (h114.e (v := (.pointer (some ⟨gA, 0 + ((bkt T1.seed T1.a.length k : Nat) : Int).toNat * 1, none⟩))))) hRA_106 hRA_121 (by kernel_rfl) (by omega))⟩ ?_
   refine V.pe h126 [] 1 0 [] fun a h127 => ?_
   refine V.go (V.appRA (R := itI) (ys := ([(k, v)])) (news := [.string k, .int .i64 v.kind, .string v.s, .slice v.l.a v.l.n v.l.c, .slice v.z.a v.z.n v.z.c, .slice v.h.a v.h.n v.h.c, .int .i64 v.till]) hK_122 hlA (i := (bkt T1.seed T1.a.length k)) (by omega) hv112 (h127.e (v := (.slice A110 ((T1.a.getD (bkt T1.seed T1.a.length k) []).length) c111))) ⟨b115, 0, none⟩ 1 1 (h127.e (v := (.slice (some ⟨b115, 0, none⟩) 1 1))) (by kernel_rfl) (info117) (by kernel_rfl) (by decide) rfl ⟨[.string k, .int .i64 v.kind, .string v.s, .slice v.l.a v.l.n v.l.c, .slice v.z.a v.z.n v.z.c, .slice v.h.a v.h.n v.h.c, .int .i64 v.till], [], rfl, rfl, rfl⟩ (blk_cells hB117 0 _ rfl) (by omega) (by decide) (.inr (by omega)) ?_)
   intro A128 c129 w130 hK131 hF132 ho133
   have hsw130 := hF132.size
   have hB_135 := hB_120.fr hF132 (fun hm => (ho133 _ hm).1 (by simp))
   have hRA_136 := hRA_121.fr hF132 (fun hm => (ho133 _ hm).1 (by simp))
   have hE_137 := hE_123.tr hF132 (fun k hk => ((ho133 k hk).2).imp (fun h => ⟨h, fun hm => (ho133 k hk).1 (by simp [hm])⟩) id)
   refine V.pt h127 fun a h139 => ?_
   refine V.eh (fun _ => held_blk (n := 1) (hx := (h127.e (v := (.pointer (some ⟨t, 1, none⟩))))) hB_120 hB_135 (by kernel_rfl) rfl (by simp only [List.length]; omega)) ?_
   refine V.pe h139 [(0, .ix gA 0 T1.a.length T1.a.length .i64 ((bkt T1.seed T1.a.length k : Nat) : Int) 1 rfl)] 1 0 [(66, .pointer (some ⟨gA, 0 + ((bkt T1.seed T1.a.length k : Nat) : Int).toNat * 1, none⟩))] fun a h140 => ?_
   refine V.go (V.strow (enc := idV) gA (((bkt T1.seed T1.a.length k : Nat) : Int).toNat) (.slice A128 ((T1.a.getD (bkt T1.seed T1.a.length k) []).length + 1) c129) h140.e h140.e rfl rfl (by kernel_rfl) hRA_136 (by first | omega | (simp only [List.length_set, List.length_replicate]; omega)) ?_)
   intro w141 hR142 hF143 hsw141
   have hB_145 := hB_135.fr1 hF143 (by omega)
   have hE_146 := hE_137.tr1 hF143 (by first | exact .inl (by assumption) | exact .inr (by omega) | exact .inl (.inl rfl))
   have hK131_148 := hK131.fr hF143 (by simp)
   refine V.eh trivial ?_
   refine V.pz h140 [] 1 0 [] fun a h149 => k101 _ _ ?_
   have h150 := h149.only [(0, .pointer (some ⟨t, 0, none⟩))]
   refine V.sg fun K151 k152 => ?_
   refine V.run h150 [(3, .b hB_145 4), (0, .i ((T1.n : Int) + 1))] 7 67 72 [(71, .int .i64 ((T1.n : Int) + 1)), (73, .pointer (some ⟨t, 4, none⟩))] fun a h156 => ?_
   refine V.go (V.stn t 4 (.int .i64 ((T1.n : Int) + 1)) [.int .i64 ((T1.n : Int) + 1)] h156.e h156.e rfl rfl (by kernel_rfl) hB_145 (by simp) [.int .u64 (T1.seed : Int), .slice (some ⟨gA, 0, none⟩) T1.a.length T1.a.length, .slice none 0 0, .int .i64 (T1.moved : Int), .int .i64 ((T1.n : Int) + 1)] rfl ?_)
   intro w153 hB154 hF155 hsw153
   have hE_158 := hE_146.tr1 hF155 (by first | exact .inl (by assumption) | exact .inr (by omega) | exact .inl (.inl rfl))
   have hK131_160 := hK131_148.fr hF155 (by simp)
   have hR142_161 := hR142.fr1 hF155 (by omega)
   refine V.nt (k152 _ _ ?_)
   refine V.seq fun K162 k163 => ?_
   refine V.seq fun K164 k165 => ?_
   refine V.pl [([0],some (1,[])),([2,3,4,5,6,7,8,9,10,11,12,13,14,15],none)] fun w166 hF167 hsw166 => ?_
   have hE_169 := hE_158.tr0 hF167
   have hK131_171 := hK131_160.fr0 hF167
   have hR142_172 := hR142_161.fr0 hF167
   have hB154_173 := hB154.fr0 hF167
   refine V.pe h156 [] 1 0 [(74, .pointer (some ⟨t, 0, none⟩))] fun a h174 => ?_
   refine V.cl h174 (Go.Proofs.enters_of Tryz.func82 (by kernel_rfl) rfl) (moves_N w166 t T1.seed T1.a.length 0 0 gA 0 (.int .i64 (T1.moved : Int)) (.int .i64 ((T1.n : Int) + 1)) hB154_173) ?_
   rintro _ w176 ⟨rfl, hF175⟩
   refine ⟨_, rfl, fun a h177 => ?_⟩
   have hsw176 := hF175.size
   have hE_179 := hE_169.tr0 hF175
   have hK131_181 := hK131_171.fr0 hF175
   have hR142_182 := hR142_172.fr0 hF175
   have hB154_183 := hB154_173.fr0 hF175
   refine V.eh trivial ?_
   refine V.pz h177 [(5, .b hB154_183 4), (4, .b hB154_183 1)] 76 88 [(89, .bool (decide (((T1.n : Int) + 1) > ((T1.a.length : Nat) : Int))))] fun a h184 => k165 _ _ ?_
   refine V.cp h184 (((T1.n : Int) + 1) > ((T1.a.length : Nat) : Int)) (fun ht185 => ?_) (fun ht185 => ?_)
   ·
    refine V.rg ?_
    refine V.run h184 [(5, .b hB154_183 1), (1, .q (.int .i64 ((2 * T1.a.length : Nat) : Int)) (w_mulN (by omega)))] 8 91 96 [(90, .pointer (some ⟨t, 0, none⟩)), (97, .int .i64 ((2 * T1.a.length : Nat) : Int))] fun a h186 => ?_
    have hins := insT_ok0 hok1 hb1 (by omega) k hkz v
    have hlp : (putB T1.seed T1.a (k, v)).length = T1.a.length := putB_length _ _ _
    have hN187 : TabN 122 118 117 itI w176 (gh (gr H w w30) w30) av t gA (vsA.set (((bkt T1.seed T1.a.length k : Nat) : Int).toNat) (.slice A128 ((T1.a.getD (bkt T1.seed T1.a.length k) []).length + 1) c129)) ({ T1 with a := putB T1.seed T1.a (k, v), n := T1.n + 1 } : Tb EntV) := TabN.mk2 hB154_183 hR142_182 (by simpa [putB] using hK131_181) (mem3 (by simp) (by simp) (by intro k hk; simp [hk])) hne ⟨.inl hpt.1, hpt.2⟩ ⟨.inl hpg.1, hpg.2⟩ rfl hlp.symm rfl (by simp) rfl
    refine V.cl h186 (Go.Proofs.enters_of Tryz.func84 (by kernel_rfl) rfl) (start_N w176 (gh (gr H w w30) w30) av t gA _ ({ T1 with a := putB T1.seed T1.a (k, v), n := T1.n + 1 } : Tb EntV) hins hN187 (2 * T1.a.length) hb0 (by omega) (by omega)) ?_
    rintro _ w190 ⟨rfl, hT188, hfp189⟩
    refine ⟨_, rfl, fun a h191 => ?_⟩
    have hsw190 := hfp189.size
    have hE_192 := hE_179.trP hfp189 (fun k hk => hk.1.imp (fun h => ⟨h, hk.2⟩) id)
    refine V.nt (k163 _ _ ?_)
    refine V.sr h191 [] 1 0 [(6, .bool false)] fun a h195 => ?_
    refine V.ret ?_
    refine V.r1 h195 (.bool false) ?_
    have hst : putT T k v = insT T1 k v := by (unfold putT; rw [← hT1]; unfold put1T; rw [hf, if_neg (by simp)])
    have hup := (insT_ok hok1 hm1 (by omega) k hkz v).1
    rw [hst]
    have hu2 : insT T1 k v = startT ({ T1 with a := putB T1.seed T1.a (k, v), n := T1.n + 1 } : Tb EntV) (2 * T1.a.length) := by (unfold insT; rw [if_pos hb1, if_pos (by omega)])
    rw [hu2]
    exact ⟨by rw [hf], ((hT188.gr2 (by omega)).gr3 (by omega)).dropav hav, ((hFPE.gr hE_192)).dropav hav⟩
   ·
    refine V.skip ?_
    refine V.then_n (k163 _ _ ?_)
    refine V.sr h184 [] 1 0 [(6, .bool false)] fun a h198 => ?_
    refine V.ret ?_
    refine V.r1 h198 (.bool false) ?_
    have hst : putT T k v = insT T1 k v := by (unfold putT; rw [← hT1]; unfold put1T; rw [hf, if_neg (by simp)])
    have hup := (insT_ok hok1 hm1 (by omega) k hkz v).1
    rw [hst]
    have hu2 : insT T1 k v = ({ T1 with a := putB T1.seed T1.a (k, v), n := T1.n + 1 } : Tb EntV) := by (unfold insT; rw [if_pos hb1, if_neg (by omega)])
    rw [hu2] at hup ⊢
    exact ⟨by rw [hf], ((TabN.fin (T := ({ T1 with a := putB T1.seed T1.a (k, v), n := T1.n + 1 })) hup hb0 hB154_183 hR142_182 (by have h := hK131_181; rw [List.append_nil, List.append_nil] at h; exact h) (mem3 (l := (b115 :: b47 :: t :: gA :: av)) (by simp) (by simp) (by intro k hk; simp [hk])) (by first | assumption | exact Ne.symm (by assumption) | omega) hpt ⟨.inl hpg.1, hpg.2⟩ rfl (putB_length _ _ _).symm rfl (by simp) rfl).gr3 (by omega)).dropav hav, ((hFPE.gr hE_179)).dropav hav⟩
  ·
   have hb1 : T1.b.length ≠ 0 := fun h => hb0 (List.eq_nil_of_length_eq_zero h)
   obtain ⟨hB, hRA, hRB, hlA, hlB, hK, hne, hne2, hne3, hpt, hpg, hph⟩ := hN
   have hnbt : t ≠ b4 := fun e => hpt.2 (by rw [hav, e]; simp)
   have hnbgA : gA ≠ b4 := fun e => hpg.2 (by rw [hav, e]; simp)
   have hnbgB : gB ≠ b4 := fun e => hph.2 (by rw [hav, e]; simp)
   replace hK := hK.toH
   have hltt := hB.lt
   have hltg := hRA.lt
   have hltg2 := hRB.lt
   have hE : FrP (gp (gr H w w30) av) w30 w30 := FrP.refl _ _
   have hK0 : ∀ k ∈ av, k < w30.heap.size := fun k hk => hK.avl k (by simp [hk])
   obtain ⟨hsd, hpa, hla, hlb, hmv, hmz, hnn, hcn, hks⟩ := (show T1.Ok from hok1)
   have hbl := hok1.bl
   have hFPE := hFP16_33
   refine V.cl (av := #[.pointer (some ⟨t, 0, none⟩), .string k]) h38 (Go.Proofs.enters_of Tryz.func70 (by kernel_rfl) rfl) (by have h := find_any w30 (gr H w w30) (av) t T1 hT28q k hkz; rw [hf] at h; exact h) ?_
   rintro _ w200 ⟨rfl, hF199⟩
   refine ⟨_, rfl, fun a h201 => ?_⟩
   have hsw200 := hF199.size
   have hB6_202 := hB6_32.fr0 hF199
   have hB_203 := hB.fr0 hF199
   have hRA_204 := hRA.fr0 hF199
   have hRB_205 := hRB.fr0 hF199
   have hK_206 := hK.fr0 hF199
   have hE_207 := hE.tr0 hF199
   refine V.run h201 [] 3 16 16 [(20, .agg #[.int .i64 0, .int .i64 0, .int .i64 0]), (21, .bool false)] fun a h212 => ?_
   refine V.go (V.mk [] trivial (by kernel_rfl) [.int .i64 0, .int .i64 0, .int .i64 0] 113 (fun b => .pointer (some ⟨b, 0, none⟩)) (by kernel_rfl) ?_)
   intro w209 b208 heb208 hB210 hF211 hsb208
   have hB6_213 := hB6_202.fr0 hF211
   have hB_214 := hB_203.fr0 hF211
   have hRA_215 := hRA_204.fr0 hF211
   have hRB_216 := hRB_205.fr0 hF211
   have hK_217 := hK_206.alloc hF211 heb208 (by omega)
   have hE_218 := hE_207.tr0 hF211
   refine V.pt h212 fun a h219 => ?_
   refine V.go (V.stn b208 0 (.agg #[.int .i64 0, .int .i64 0, .int .i64 0]) [.int .i64 0, .int .i64 0, .int .i64 0] h219.e h219.e rfl rfl (by kernel_rfl) hB210 (by simp) [.int .i64 0, .int .i64 0, .int .i64 0] rfl ?_)
   intro w220 hB221 hF222 hsw220
   have hB6_223 := hB6_213.fr1 hF222 (by omega)
   have hB_224 := hB_214.fr1 hF222 (by omega)
   have hRA_225 := hRA_215.fr1 hF222 (by omega)
   have hRB_226 := hRB_216.fr1 hF222 (by omega)
   have hK_227 := hK_217.fr hF222 (by simp)
   have hE_228 := hE_218.tr1 hF222 (by first | exact .inl (by assumption) | exact .inr (by omega) | exact .inl (.inl rfl))
   refine V.re h219 [] 1 0 [(8, .bool false)] fun a h229 => k37 _ _ ?_
   refine V.sr h229 [] 1 0 [(22, .bool false)] fun a h232 => ?_
   refine V.cf h232 ?_
   refine V.skip ?_
   refine V.then_n (k35 _ _ ?_)
   refine V.sr h232 [] 1 0 [(9, .int .i64 0)] fun a h235 => ?_
   refine V.seq fun K236 k237 => ?_
   refine V.sg fun K238 k239 => ?_
   refine V.run h235 [] 1 1 0 [(39, .pointer (some ⟨t, 0, none⟩))] fun a h240 => ?_
   refine V.cl h240 (Go.Proofs.enters_of Tryz.func82 (by kernel_rfl) rfl) (moves_M w220 t T1.seed T1.a.length T1.b.length 0 gA gB (.int .i64 (T1.moved : Int)) (.int .i64 (T1.n : Int)) hB_224) ?_
   rintro _ w242 ⟨rfl, hF241⟩
   refine ⟨_, rfl, fun a h243 => ?_⟩
   have hsw242 := hF241.size
   have hB6_244 := hB6_223.fr0 hF241
   have hB_245 := hB_224.fr0 hF241
   have hRA_246 := hRA_225.fr0 hF241
   have hRB_247 := hRB_226.fr0 hF241
   have hK_248 := hK_227.fr0 hF241
   have hE_249 := hE_228.tr0 hF241
   refine V.nt (k239 _ _ ?_)
   refine V.ct h243 ?_
   refine V.rr h243 [] 1 0 [(9, .int .i64 1)] fun a h251 => ?_
   refine V.then_n (k237 _ _ ?_)
   refine V.sg fun K252 k253 => ?_
   refine V.run h251 [] 3 1 0 [(41, .pointer (some ⟨t, 0, none⟩)), (42, .int .i64 1), (43, .string k)] fun a h254 => ?_
   refine V.cl h254 (Go.Proofs.enters_of Tryz.func83 (by kernel_rfl) rfl) (bucket_M1 w242 t T1.seed T1.a.length T1.b.length 0 gA gB (.int .i64 (T1.moved : Int)) (.int .i64 (T1.n : Int)) hB_245 k (by omega) (by omega) (by omega) (by omega)) ?_
   rintro _ w256 ⟨rfl, hF255⟩
   refine ⟨_, rfl, fun a h257 => ?_⟩
   have hsw256 := hF255.size
   have hB6_258 := hB6_244.fr0 hF255
   have hB_259 := hB_245.fr0 hF255
   have hRA_260 := hRA_246.fr0 hF255
   have hRB_261 := hRB_247.fr0 hF255
   have hK_262 := hK_248.fr0 hF255
   have hE_263 := hE_249.tr0 hF255
   have hbl255 := bkt_lt T1.seed k (n := T1.b.length) (by omega)
   refine V.re h257 [] 1 0 [(10, .int .i64 ((bkt T1.seed T1.b.length k : Nat) : Int))] fun a h265 => k253 _ _ ?_
   refine V.seq fun K266 k267 => ?_
   have hbq := hbl (bkt T1.seed T1.b.length k)
   refine V.pl [([0,1,2,3,4,5,6,7,8,9,10,11,12,13,14,15,16,17,18],some (19,[5,12,15])),([],some (20,[5])),([21],some (22,[])),([],none)] fun w268 hF269 hsw268 => ?_
   have hB6_270 := hB6_258.fr0 hF269
   have hB_271 := hB_259.fr0 hF269
   have hRA_272 := hRA_260.fr0 hF269
   have hRB_273 := hRB_261.fr0 hF269
   have hK_274 := hK_262.fr0 hF269
   have hE_275 := hE_263.tr0 hF269
   obtain ⟨A277, c278, hv279⟩ := hK_274.getB hlA (i := (bkt T1.seed T1.b.length k)) (by omega) nilS
   have hS280 := hK_274.slB hlA (i := (bkt T1.seed T1.b.length k)) (by omega) hv279
   refine V.pe h265 [(5, .b hB_271 2), (6, .b hB_271 2), (1, .ix gB 0 T1.b.length T1.b.length .i64 ((bkt T1.seed T1.b.length k : Nat) : Int) 1 rfl), (0, .l ⟨gB, 0 + ((bkt T1.seed T1.b.length k : Nat) : Int).toNat * 1, none⟩ (.slice A277 ((T1.b.getD (bkt T1.seed T1.b.length k) []).length) c278) ((hRB_273.at (bkt T1.seed T1.b.length k) nilS (by omega)).trans (congrArg some hv279))), (1, .bs hB6_270 0 [.int .i64 v.kind, .string v.s, .slice v.l.a v.l.n v.l.c, .slice v.z.a v.z.n v.z.c, .slice v.h.a v.h.n v.h.c, .int .i64 v.till])] 45 62 [(49, .pointer (some ⟨t, 2, none⟩)), (50, .slice (some ⟨gB, 0, none⟩) T1.b.length T1.b.length), (51, .int .i64 ((bkt T1.seed T1.b.length k : Nat) : Int)), (56, .pointer (some ⟨t, 2, none⟩)), (59, .pointer (some ⟨gB, 0 + ((bkt T1.seed T1.b.length k : Nat) : Int).toNat * 1, none⟩)), (60, .slice A277 ((T1.b.getD (bkt T1.seed T1.b.length k) []).length) c278), (63, .agg #[.string k, .int .i64 v.kind, .string v.s, .slice v.l.a v.l.n v.l.c, .slice v.z.a v.z.n v.z.c, .slice v.h.a v.h.n v.h.c, .int .i64 v.till])] fun a h281 => ?_
   refine V.go (V.mk [(63, .agg #[.string k, .int .i64 v.kind, .string v.s, .slice v.l.a v.l.n v.l.c, .slice v.z.a v.z.n v.z.c, .slice v.h.a v.h.n v.h.c, .int .i64 v.till])] ⟨h281.e, trivial⟩ (by kernel_rfl) [.string k, .int .i64 v.kind, .string v.s, .slice v.l.a v.l.n v.l.c, .slice v.z.a v.z.n v.z.c, .slice v.h.a v.h.n v.h.c, .int .i64 v.till] 117 (fun b => .slice (some ⟨b, 0, none⟩) 1 1) (by kernel_rfl) ?_)
   intro w283 b282 heb282 hB284 hF285 hsb282
   have hB_287 := hB_271.fr0 hF285
   have hRA_288 := hRA_272.fr0 hF285
   have hRB_289 := hRB_273.fr0 hF285
   have hK_290 := hK_274.alloc hF285 heb282 (by omega)
   have hE_291 := hE_275.tr0 hF285
   refine V.pt h281 fun a h294 => ?_
   refine V.eh ⟨(fun _ => held_blk (n := 1) (hx := (h281.e (v := (.pointer (some ⟨t, 2, none⟩))))) hB_271 hB_287 (by kernel_rfl) rfl (by simp only [List.length]; omega)), (fun _ => held_blk (n := 1) (hx := (h281.e (v := (.pointer (some ⟨t, 2, none⟩))))) hB_271 hB_287 (by kernel_rfl) rfl (by simp only [List.length]; omega)), (fun _ => held_row (hx := (h281.e (v := (.pointer (some ⟨gB, 0 + ((bkt T1.seed T1.b.length k : Nat) : Int).toNat * 1, none⟩))))) hRB_273 hRB_289 (by kernel_rfl) (by omega))⟩ ?_
   refine V.pe h294 [] 1 0 [] fun a h295 => ?_
   refine V.go (V.appRB (R := itI) (ys := ([(k, v)])) (news := [.string k, .int .i64 v.kind, .string v.s, .slice v.l.a v.l.n v.l.c, .slice v.z.a v.z.n v.z.c, .slice v.h.a v.h.n v.h.c, .int .i64 v.till]) hK_290 hlA (i := (bkt T1.seed T1.b.length k)) (by omega) hv279 (h295.e (v := (.slice A277 ((T1.b.getD (bkt T1.seed T1.b.length k) []).length) c278))) ⟨b282, 0, none⟩ 1 1 (h295.e (v := (.slice (some ⟨b282, 0, none⟩) 1 1))) (by kernel_rfl) (info117) (by kernel_rfl) (by decide) rfl ⟨[.string k, .int .i64 v.kind, .string v.s, .slice v.l.a v.l.n v.l.c, .slice v.z.a v.z.n v.z.c, .slice v.h.a v.h.n v.h.c, .int .i64 v.till], [], rfl, rfl, rfl⟩ (blk_cells hB284 0 _ rfl) (by omega) (by decide) (.inr (by omega)) ?_)
   intro A296 c297 w298 hK299 hF300 ho301
   have hsw298 := hF300.size
   have hB_303 := hB_287.fr hF300 (fun hm => (ho301 _ hm).1 (by simp))
   have hRA_304 := hRA_288.fr hF300 (fun hm => (ho301 _ hm).1 (by simp))
   have hRB_305 := hRB_289.fr hF300 (fun hm => (ho301 _ hm).1 (by simp))
   have hE_306 := hE_291.tr hF300 (fun k hk => ((ho301 k hk).2).imp (fun h => ⟨h, fun hm => (ho301 k hk).1 (by simp [hm])⟩) id)
   refine V.pt h295 fun a h308 => ?_
   refine V.eh (fun _ => held_blk (n := 1) (hx := (h295.e (v := (.pointer (some ⟨t, 2, none⟩))))) hB_287 hB_303 (by kernel_rfl) rfl (by simp only [List.length]; omega)) ?_
   refine V.pe h308 [(0, .ix gB 0 T1.b.length T1.b.length .i64 ((bkt T1.seed T1.b.length k : Nat) : Int) 1 rfl)] 1 0 [(66, .pointer (some ⟨gB, 0 + ((bkt T1.seed T1.b.length k : Nat) : Int).toNat * 1, none⟩))] fun a h309 => ?_
   refine V.go (V.strow (enc := idV) gB (((bkt T1.seed T1.b.length k : Nat) : Int).toNat) (.slice A296 ((T1.b.getD (bkt T1.seed T1.b.length k) []).length + 1) c297) h309.e h309.e rfl rfl (by kernel_rfl) hRB_305 (by first | omega | (simp only [List.length_set, List.length_replicate]; omega)) ?_)
   intro w310 hR311 hF312 hsw310
   have hB_314 := hB_303.fr1 hF312 (by omega)
   have hRA_315 := hRA_304.fr1 hF312 (by omega)
   have hE_316 := hE_306.tr1 hF312 (by first | exact .inl (by assumption) | exact .inr (by omega) | exact .inl (.inl rfl))
   have hK299_318 := hK299.fr hF312 (by simp)
   refine V.eh trivial ?_
   refine V.pz h309 [] 1 0 [] fun a h319 => k267 _ _ ?_
   have h320 := h319.only [(0, .pointer (some ⟨t, 0, none⟩))]
   refine V.sg fun K321 k322 => ?_
   refine V.run h320 [(3, .b hB_314 4), (0, .i ((T1.n : Int) + 1))] 7 67 72 [(71, .int .i64 ((T1.n : Int) + 1)), (73, .pointer (some ⟨t, 4, none⟩))] fun a h326 => ?_
   refine V.go (V.stn t 4 (.int .i64 ((T1.n : Int) + 1)) [.int .i64 ((T1.n : Int) + 1)] h326.e h326.e rfl rfl (by kernel_rfl) hB_314 (by simp) [.int .u64 (T1.seed : Int), .slice (some ⟨gA, 0, none⟩) T1.a.length T1.a.length, .slice (some ⟨gB, 0, none⟩) T1.b.length T1.b.length, .int .i64 (T1.moved : Int), .int .i64 ((T1.n : Int) + 1)] rfl ?_)
   intro w323 hB324 hF325 hsw323
   have hRA_328 := hRA_315.fr1 hF325 (by omega)
   have hE_329 := hE_316.tr1 hF325 (by first | exact .inl (by assumption) | exact .inr (by omega) | exact .inl (.inl rfl))
   have hK299_331 := hK299_318.fr hF325 (by simp)
   have hR311_332 := hR311.fr1 hF325 (by omega)
   refine V.nt (k322 _ _ ?_)
   refine V.seq fun K333 k334 => ?_
   refine V.seq fun K335 k336 => ?_
   refine V.pl [([0],some (1,[])),([2,3,4,5,6,7,8,9,10,11,12,13,14,15],none)] fun w337 hF338 hsw337 => ?_
   have hRA_340 := hRA_328.fr0 hF338
   have hE_341 := hE_329.tr0 hF338
   have hK299_343 := hK299_331.fr0 hF338
   have hR311_344 := hR311_332.fr0 hF338
   have hB324_345 := hB324.fr0 hF338
   refine V.pe h326 [] 1 0 [(74, .pointer (some ⟨t, 0, none⟩))] fun a h346 => ?_
   refine V.cl h346 (Go.Proofs.enters_of Tryz.func82 (by kernel_rfl) rfl) (moves_M w337 t T1.seed T1.a.length T1.b.length 0 gA gB (.int .i64 (T1.moved : Int)) (.int .i64 ((T1.n : Int) + 1)) hB324_345) ?_
   rintro _ w348 ⟨rfl, hF347⟩
   refine ⟨_, rfl, fun a h349 => ?_⟩
   have hsw348 := hF347.size
   have hRA_351 := hRA_340.fr0 hF347
   have hE_352 := hE_341.tr0 hF347
   have hK299_354 := hK299_343.fr0 hF347
   have hR311_355 := hR311_344.fr0 hF347
   have hB324_356 := hB324_345.fr0 hF347
   refine V.eh trivial ?_
   refine V.pz h349 [] 76 88 [(89, .bool false)] fun a h357 => k336 _ _ ?_
   refine V.cf h357 ?_
   refine V.skip ?_
   refine V.then_n (k334 _ _ ?_)
   refine V.sr h357 [] 1 0 [(6, .bool false)] fun a h360 => ?_
   refine V.ret ?_
   refine V.r1 h360 (.bool false) ?_
   have hst : putT T k v = insT T1 k v := by (unfold putT; rw [← hT1]; unfold put1T; rw [hf, if_neg (by simp)])
   have hup := (insT_ok hok1 hm1 (by omega) k hkz v).1
   rw [hst]
   have hu2 : insT T1 k v = ({ T1 with b := putB T1.seed T1.b (k, v), n := T1.n + 1 } : Tb EntV) := by (unfold insT; rw [if_neg hb1])
   rw [hu2] at hup ⊢
   exact ⟨by rw [hf], ((TabM.fin (T := ({ T1 with b := putB T1.seed T1.b (k, v), n := T1.n + 1 })) hup (fun h => hb1 (by have := congrArg List.length h; rwa [putB_length] at this)) hB324_356 hRA_351 hR311_355 (by first | exact hlA | (simp only [List.length_set]; exact hlA)) hK299_354 (mem4 (l := (b282 :: b208 :: t :: gA :: gB :: av)) (by simp) (by simp) (by simp) (by intro k hk; simp [hk])) (by first | assumption | omega) (by first | assumption | omega) (by first | assumption | omega) hpt ⟨.inl hpg.1, hpg.2⟩ ⟨.inl hph.1, hph.2⟩ rfl rfl rfl (by simp) rfl rfl (putB_length _ _ _).symm).gr3 (by omega)).dropav hav, ((hFPE.gr hE_352)).dropav hav⟩
 ·
  rcases hT28q.2 with ⟨hb0, gA, vsA, hN⟩ | ⟨hb0, gA, gB, vsA, vsB, hN⟩
  ·
   have hb1 : T1.b.length = 0 := by rw [hb0]; rfl
   obtain ⟨hB, hRA, hlA, hK, hne, hpt, hpg⟩ := hN
   have hnbt : t ≠ b4 := fun e => hpt.2 (by rw [hav, e]; simp)
   have hnbgA : gA ≠ b4 := fun e => hpg.2 (by rw [hav, e]; simp)
   replace hK := hK.toH
   have hltt := hB.lt
   have hltg := hRA.lt
   have hE : FrP (gp (gr H w w30) av) w30 w30 := FrP.refl _ _
   have hK0 : ∀ k ∈ av, k < w30.heap.size := fun k hk => hK.avl k (by simp [hk])
   obtain ⟨hsd, hpa, hla, hlb, hmv, hmz, hnn, hcn, hks⟩ := (show T1.Ok from hok1)
   have hbl := hok1.bl
   have hFPE := hFP16_33
   refine V.cl (av := #[.pointer (some ⟨t, 0, none⟩), .string k]) h38 (Go.Proofs.enters_of Tryz.func70 (by kernel_rfl) rfl) (by have h := find_any w30 (gr H w w30) (av) t T1 hT28q k hkz; rw [hf] at h; exact h) ?_
   rintro _ w362 ⟨rfl, hF361⟩
   refine ⟨_, rfl, fun a h363 => ?_⟩
   have hsw362 := hF361.size
   have hB6_364 := hB6_32.fr0 hF361
   have hB_365 := hB.fr0 hF361
   have hRA_366 := hRA.fr0 hF361
   have hK_367 := hK.fr0 hF361
   have hE_368 := hE.tr0 hF361
   have hbkl := bkt_lt T1.seed k (n := T1.a.length) (by omega)
   refine V.run h363 [] 3 16 16 [(20, .agg #[.int .i64 0, .int .i64 ((bkt T1.seed T1.a.length k : Nat) : Int), .int .i64 (j : Int)]), (21, .bool true)] fun a h373 => ?_
   refine V.go (V.mk [] trivial (by kernel_rfl) [.int .i64 0, .int .i64 0, .int .i64 0] 113 (fun b => .pointer (some ⟨b, 0, none⟩)) (by kernel_rfl) ?_)
   intro w370 b369 heb369 hB371 hF372 hsb369
   have hB6_374 := hB6_364.fr0 hF372
   have hB_375 := hB_365.fr0 hF372
   have hRA_376 := hRA_366.fr0 hF372
   have hK_377 := hK_367.alloc hF372 heb369 (by omega)
   have hE_378 := hE_368.tr0 hF372
   refine V.pt h373 fun a h379 => ?_
   refine V.go (V.stn b369 0 (.agg #[.int .i64 0, .int .i64 ((bkt T1.seed T1.a.length k : Nat) : Int), .int .i64 (j : Int)]) [.int .i64 0, .int .i64 ((bkt T1.seed T1.a.length k : Nat) : Int), .int .i64 (j : Int)] h379.e h379.e rfl rfl (by kernel_rfl) hB371 (by simp) [.int .i64 0, .int .i64 ((bkt T1.seed T1.a.length k : Nat) : Int), .int .i64 (j : Int)] rfl ?_)
   intro w380 hB381 hF382 hsw380
   have hB6_383 := hB6_374.fr1 hF382 (by omega)
   have hB_384 := hB_375.fr1 hF382 (by omega)
   have hRA_385 := hRA_376.fr1 hF382 (by omega)
   have hK_386 := hK_377.fr hF382 (by simp)
   have hE_387 := hE_378.tr1 hF382 (by first | exact .inl (by assumption) | exact .inr (by omega) | exact .inl (.inl rfl))
   refine V.re h379 [] 1 0 [(8, .bool true)] fun a h388 => k37 _ _ ?_
   refine V.sr h388 [] 1 0 [(22, .bool true)] fun a h391 => ?_
   refine V.ct h391 ?_
   refine V.seq fun K392 k393 => ?_
   refine V.pl [([0,1,2,3,4,5,6,7,8,9,10,11,12,13,14,15],some (16,[])),([],none)] fun w394 hF395 hsw394 => ?_
   have hB6_396 := hB6_383.fr0 hF395
   have hB_397 := hB_384.fr0 hF395
   have hRA_398 := hRA_385.fr0 hF395
   have hK_399 := hK_386.fr0 hF395
   have hE_400 := hE_387.tr0 hF395
   have hB381_401 := hB381.fr0 hF395
   obtain ⟨A402, c403, hv404⟩ := hK_399.getA hlA (i := (bkt T1.seed T1.a.length k)) (by omega) nilS
   have hS405 := hK_399.slA hlA (i := (bkt T1.seed T1.a.length k)) (by omega) hv404
   obtain ⟨g406, o407, hA408, hA408l, hA408z⟩ := hS405.addr (by omega)
   refine V.pe h391 [(2, .b hB381_401 0), (3, .b hB_397 1), (1, .b hB381_401 1), (0, .ix gA 0 T1.a.length T1.a.length .i64 ((bkt T1.seed T1.a.length k : Nat) : Int) 1 rfl), (0, .l ⟨gA, 0 + ((bkt T1.seed T1.a.length k : Nat) : Int).toNat * 1, none⟩ (.slice A402 ((T1.a.getD (bkt T1.seed T1.a.length k) []).length) c403) ((hRA_398.at (bkt T1.seed T1.a.length k) nilS (by omega)).trans (congrArg some hv404))), (1, .b hB381_401 2), (0, .bs hB6_396 0 [.int .i64 v.kind, .string v.s, .slice v.l.a v.l.n v.l.c, .slice v.z.a v.z.n v.z.c, .slice v.h.a v.h.n v.h.c, .int .i64 v.till]), (0, .ix g406 o407 ((T1.a.getD (bkt T1.seed T1.a.length k) []).length) c403 .i64 (j : Int) 7 hA408)] 23 37 [(36, .agg #[.int .i64 v.kind, .string v.s, .slice v.l.a v.l.n v.l.c, .slice v.z.a v.z.n v.z.c, .slice v.h.a v.h.n v.h.c, .int .i64 v.till]), (38, .pointer (some ⟨g406, (o407 + (j : Int).toNat * 7) + 1, none⟩))] fun a h409 => ?_
   refine V.go (V.stRAn (R := itI) (j := j) (f := 1) hK_399 hlA (i := (bkt T1.seed T1.a.length k)) (by omega) hv404 hA408 (by omega) [.int .i64 v.kind, .string v.s, .slice v.l.a v.l.n v.l.c, .slice v.z.a v.z.n v.z.c, .slice v.h.a v.h.n v.h.c, .int .i64 v.till] (Nat.le_refl _) (.agg #[.int .i64 v.kind, .string v.s, .slice v.l.a v.l.n v.l.c, .slice v.z.a v.z.n v.z.c, .slice v.h.a v.h.n v.h.c, .int .i64 v.till]) (fun x => (x.1, v)) (h409.e (v := (.pointer (some ⟨g406, (o407 + (j : Int).toNat * 7) + 1, none⟩)))) (h409.e (v := (.agg #[.int .i64 v.kind, .string v.s, .slice v.l.a v.l.n v.l.c, .slice v.z.a v.z.n v.z.c, .slice v.h.a v.h.n v.h.c, .int .i64 v.till]))) rfl rfl (by kernel_rfl) (fun w1 x c hc => by (have hc' : c = [.string x.1, .int .i64 x.2.kind, .string x.2.s, .slice x.2.l.a x.2.l.n x.2.l.c, .slice x.2.z.a x.2.z.n x.2.z.c, .slice x.2.h.a x.2.h.n x.2.h.c, .int .i64 x.2.till] := hc; subst hc'; rfl)) ?_)
   intro w410 hK411 hF412 hsw410 ho413
   have hB_415 := hB_397.fr hF412 (fun hm => (ho413 _ hm).1 (by simp))
   have hRA_416 := hRA_398.fr hF412 (fun hm => (ho413 _ hm).1 (by simp))
   have hE_417 := hE_400.tr hF412 (fun k hk => ((ho413 k hk).2).imp (fun h => ⟨h, fun hm => (ho413 k hk).1 (by simp [hm])⟩) id)
   refine V.eh trivial ?_
   refine V.pz h409 [] 1 0 [] fun a h419 => k393 _ _ ?_
   refine V.sr h419 [] 1 0 [(6, .bool true)] fun a h422 => ?_
   refine V.ret (V.then_r ?_)
   refine V.r1 h422 (.bool true) ?_
   have hst : putT T k v = ({ T1 with a := setV T1.a (bkt T1.seed T1.a.length k) j v } : Tb EntV) := by (unfold putT; rw [← hT1]; unfold put1T; rw [hf, if_pos rfl]; unfold updT; rw [hf]; simp)
   have hup := (updT_ok hok1 hm1 k v).1
   have hu2 : updT T1 k v = ({ T1 with a := setV T1.a (bkt T1.seed T1.a.length k) j v } : Tb EntV) := by (unfold updT; rw [hf]; simp)
   rw [hu2] at hup
   rw [hst]
   exact ⟨by rw [hf], ((TabN.fin (T := ({ T1 with a := setV T1.a (bkt T1.seed T1.a.length k) j v })) hup hb0 hB_415 hRA_416 (by have h := hK411; rw [List.append_nil, List.append_nil] at h; exact h) (mem3 (l := (b369 :: t :: gA :: av)) (by simp) (by simp) (by intro k hk; simp [hk])) (by first | assumption | exact Ne.symm (by assumption) | omega) hpt ⟨.inl hpg.1, hpg.2⟩ rfl (setV_length _ _ _ _).symm rfl rfl rfl).gr3 (by omega)).dropav hav, ((hFPE.gr hE_417)).dropav hav⟩
  ·
   have hb1 : T1.b.length ≠ 0 := fun h => hb0 (List.eq_nil_of_length_eq_zero h)
   obtain ⟨hB, hRA, hRB, hlA, hlB, hK, hne, hne2, hne3, hpt, hpg, hph⟩ := hN
   have hnbt : t ≠ b4 := fun e => hpt.2 (by rw [hav, e]; simp)
   have hnbgA : gA ≠ b4 := fun e => hpg.2 (by rw [hav, e]; simp)
   have hnbgB : gB ≠ b4 := fun e => hph.2 (by rw [hav, e]; simp)
   replace hK := hK.toH
   have hltt := hB.lt
   have hltg := hRA.lt
   have hltg2 := hRB.lt
   have hE : FrP (gp (gr H w w30) av) w30 w30 := FrP.refl _ _
   have hK0 : ∀ k ∈ av, k < w30.heap.size := fun k hk => hK.avl k (by simp [hk])
   obtain ⟨hsd, hpa, hla, hlb, hmv, hmz, hnn, hcn, hks⟩ := (show T1.Ok from hok1)
   have hbl := hok1.bl
   have hFPE := hFP16_33
   refine V.cl (av := #[.pointer (some ⟨t, 0, none⟩), .string k]) h38 (Go.Proofs.enters_of Tryz.func70 (by kernel_rfl) rfl) (by have h := find_any w30 (gr H w w30) (av) t T1 hT28q k hkz; rw [hf] at h; exact h) ?_
   rintro _ w424 ⟨rfl, hF423⟩
   refine ⟨_, rfl, fun a h425 => ?_⟩
   have hsw424 := hF423.size
   have hB6_426 := hB6_32.fr0 hF423
   have hB_427 := hB.fr0 hF423
   have hRA_428 := hRA.fr0 hF423
   have hRB_429 := hRB.fr0 hF423
   have hK_430 := hK.fr0 hF423
   have hE_431 := hE.tr0 hF423
   have hbkl := bkt_lt T1.seed k (n := T1.a.length) (by omega)
   refine V.run h425 [] 3 16 16 [(20, .agg #[.int .i64 0, .int .i64 ((bkt T1.seed T1.a.length k : Nat) : Int), .int .i64 (j : Int)]), (21, .bool true)] fun a h436 => ?_
   refine V.go (V.mk [] trivial (by kernel_rfl) [.int .i64 0, .int .i64 0, .int .i64 0] 113 (fun b => .pointer (some ⟨b, 0, none⟩)) (by kernel_rfl) ?_)
   intro w433 b432 heb432 hB434 hF435 hsb432
   have hB6_437 := hB6_426.fr0 hF435
   have hB_438 := hB_427.fr0 hF435
   have hRA_439 := hRA_428.fr0 hF435
   have hRB_440 := hRB_429.fr0 hF435
   have hK_441 := hK_430.alloc hF435 heb432 (by omega)
   have hE_442 := hE_431.tr0 hF435
   refine V.pt h436 fun a h443 => ?_
   refine V.go (V.stn b432 0 (.agg #[.int .i64 0, .int .i64 ((bkt T1.seed T1.a.length k : Nat) : Int), .int .i64 (j : Int)]) [.int .i64 0, .int .i64 ((bkt T1.seed T1.a.length k : Nat) : Int), .int .i64 (j : Int)] h443.e h443.e rfl rfl (by kernel_rfl) hB434 (by simp) [.int .i64 0, .int .i64 ((bkt T1.seed T1.a.length k : Nat) : Int), .int .i64 (j : Int)] rfl ?_)
   intro w444 hB445 hF446 hsw444
   have hB6_447 := hB6_437.fr1 hF446 (by omega)
   have hB_448 := hB_438.fr1 hF446 (by omega)
   have hRA_449 := hRA_439.fr1 hF446 (by omega)
   have hRB_450 := hRB_440.fr1 hF446 (by omega)
   have hK_451 := hK_441.fr hF446 (by simp)
   have hE_452 := hE_442.tr1 hF446 (by first | exact .inl (by assumption) | exact .inr (by omega) | exact .inl (.inl rfl))
   refine V.re h443 [] 1 0 [(8, .bool true)] fun a h453 => k37 _ _ ?_
   refine V.sr h453 [] 1 0 [(22, .bool true)] fun a h456 => ?_
   refine V.ct h456 ?_
   refine V.seq fun K457 k458 => ?_
   refine V.pl [([0,1,2,3,4,5,6,7,8,9,10,11,12,13,14,15],some (16,[])),([],none)] fun w459 hF460 hsw459 => ?_
   have hB6_461 := hB6_447.fr0 hF460
   have hB_462 := hB_448.fr0 hF460
   have hRA_463 := hRA_449.fr0 hF460
   have hRB_464 := hRB_450.fr0 hF460
   have hK_465 := hK_451.fr0 hF460
   have hE_466 := hE_452.tr0 hF460
   have hB445_467 := hB445.fr0 hF460
   obtain ⟨A468, c469, hv470⟩ := hK_465.getA hlA (i := (bkt T1.seed T1.a.length k)) (by omega) nilS
   have hS471 := hK_465.slA hlA (i := (bkt T1.seed T1.a.length k)) (by omega) hv470
   obtain ⟨g472, o473, hA474, hA474l, hA474z⟩ := hS471.addr (by omega)
   refine V.pe h456 [(2, .b hB445_467 0), (3, .b hB_462 1), (1, .b hB445_467 1), (0, .ix gA 0 T1.a.length T1.a.length .i64 ((bkt T1.seed T1.a.length k : Nat) : Int) 1 rfl), (0, .l ⟨gA, 0 + ((bkt T1.seed T1.a.length k : Nat) : Int).toNat * 1, none⟩ (.slice A468 ((T1.a.getD (bkt T1.seed T1.a.length k) []).length) c469) ((hRA_463.at (bkt T1.seed T1.a.length k) nilS (by omega)).trans (congrArg some hv470))), (1, .b hB445_467 2), (0, .bs hB6_461 0 [.int .i64 v.kind, .string v.s, .slice v.l.a v.l.n v.l.c, .slice v.z.a v.z.n v.z.c, .slice v.h.a v.h.n v.h.c, .int .i64 v.till]), (0, .ix g472 o473 ((T1.a.getD (bkt T1.seed T1.a.length k) []).length) c469 .i64 (j : Int) 7 hA474)] 23 37 [(36, .agg #[.int .i64 v.kind, .string v.s, .slice v.l.a v.l.n v.l.c, .slice v.z.a v.z.n v.z.c, .slice v.h.a v.h.n v.h.c, .int .i64 v.till]), (38, .pointer (some ⟨g472, (o473 + (j : Int).toNat * 7) + 1, none⟩))] fun a h475 => ?_
   refine V.go (V.stRAn (R := itI) (j := j) (f := 1) hK_465 hlA (i := (bkt T1.seed T1.a.length k)) (by omega) hv470 hA474 (by omega) [.int .i64 v.kind, .string v.s, .slice v.l.a v.l.n v.l.c, .slice v.z.a v.z.n v.z.c, .slice v.h.a v.h.n v.h.c, .int .i64 v.till] (Nat.le_refl _) (.agg #[.int .i64 v.kind, .string v.s, .slice v.l.a v.l.n v.l.c, .slice v.z.a v.z.n v.z.c, .slice v.h.a v.h.n v.h.c, .int .i64 v.till]) (fun x => (x.1, v)) (h475.e (v := (.pointer (some ⟨g472, (o473 + (j : Int).toNat * 7) + 1, none⟩)))) (h475.e (v := (.agg #[.int .i64 v.kind, .string v.s, .slice v.l.a v.l.n v.l.c, .slice v.z.a v.z.n v.z.c, .slice v.h.a v.h.n v.h.c, .int .i64 v.till]))) rfl rfl (by kernel_rfl) (fun w1 x c hc => by (have hc' : c = [.string x.1, .int .i64 x.2.kind, .string x.2.s, .slice x.2.l.a x.2.l.n x.2.l.c, .slice x.2.z.a x.2.z.n x.2.z.c, .slice x.2.h.a x.2.h.n x.2.h.c, .int .i64 x.2.till] := hc; subst hc'; rfl)) ?_)
   intro w476 hK477 hF478 hsw476 ho479
   have hB_481 := hB_462.fr hF478 (fun hm => (ho479 _ hm).1 (by simp))
   have hRA_482 := hRA_463.fr hF478 (fun hm => (ho479 _ hm).1 (by simp))
   have hRB_483 := hRB_464.fr hF478 (fun hm => (ho479 _ hm).1 (by simp))
   have hE_484 := hE_466.tr hF478 (fun k hk => ((ho479 k hk).2).imp (fun h => ⟨h, fun hm => (ho479 k hk).1 (by simp [hm])⟩) id)
   refine V.eh trivial ?_
   refine V.pz h475 [] 1 0 [] fun a h486 => k458 _ _ ?_
   refine V.sr h486 [] 1 0 [(6, .bool true)] fun a h489 => ?_
   refine V.ret (V.then_r ?_)
   refine V.r1 h489 (.bool true) ?_
   have hst : putT T k v = ({ T1 with a := setV T1.a (bkt T1.seed T1.a.length k) j v } : Tb EntV) := by (unfold putT; rw [← hT1]; unfold put1T; rw [hf, if_pos rfl]; unfold updT; rw [hf]; simp)
   have hup := (updT_ok hok1 hm1 k v).1
   have hu2 : updT T1 k v = ({ T1 with a := setV T1.a (bkt T1.seed T1.a.length k) j v } : Tb EntV) := by (unfold updT; rw [hf]; simp)
   rw [hu2] at hup
   rw [hst]
   exact ⟨by rw [hf], ((TabM.fin (T := ({ T1 with a := setV T1.a (bkt T1.seed T1.a.length k) j v })) hup hb0 hB_481 hRA_482 hRB_483 (by first | exact hlA | (simp only [List.length_set]; exact hlA)) hK477 (mem4 (l := (b432 :: t :: gA :: gB :: av)) (by simp) (by simp) (by simp) (by intro k hk; simp [hk])) (by first | assumption | omega) (by first | assumption | omega) (by first | assumption | omega) hpt ⟨.inl hpg.1, hpg.2⟩ ⟨.inl hph.1, hph.2⟩ rfl (setV_length _ _ _ _).symm rfl rfl rfl rfl rfl).gr3 (by omega)).dropav hav, ((hFPE.gr hE_484)).dropav hav⟩
 ·
  rcases hT28q.2 with ⟨hb0, gA, vsA, hN⟩ | ⟨hb0, gA, gB, vsA, vsB, hN⟩
  ·
   exact absurd (by rw [hb0]; rfl) hbn
  ·
   have hb1 : T1.b.length ≠ 0 := fun h => hb0 (List.eq_nil_of_length_eq_zero h)
   obtain ⟨hB, hRA, hRB, hlA, hlB, hK, hne, hne2, hne3, hpt, hpg, hph⟩ := hN
   have hnbt : t ≠ b4 := fun e => hpt.2 (by rw [hav, e]; simp)
   have hnbgA : gA ≠ b4 := fun e => hpg.2 (by rw [hav, e]; simp)
   have hnbgB : gB ≠ b4 := fun e => hph.2 (by rw [hav, e]; simp)
   replace hK := hK.toH
   have hltt := hB.lt
   have hltg := hRA.lt
   have hltg2 := hRB.lt
   have hE : FrP (gp (gr H w w30) av) w30 w30 := FrP.refl _ _
   have hK0 : ∀ k ∈ av, k < w30.heap.size := fun k hk => hK.avl k (by simp [hk])
   obtain ⟨hsd, hpa, hla, hlb, hmv, hmz, hnn, hcn, hks⟩ := (show T1.Ok from hok1)
   have hbl := hok1.bl
   have hFPE := hFP16_33
   refine V.cl (av := #[.pointer (some ⟨t, 0, none⟩), .string k]) h38 (Go.Proofs.enters_of Tryz.func70 (by kernel_rfl) rfl) (by have h := find_any w30 (gr H w w30) (av) t T1 hT28q k hkz; rw [hf] at h; exact h) ?_
   rintro _ w491 ⟨rfl, hF490⟩
   refine ⟨_, rfl, fun a h492 => ?_⟩
   have hsw491 := hF490.size
   have hB6_493 := hB6_32.fr0 hF490
   have hB_494 := hB.fr0 hF490
   have hRA_495 := hRA.fr0 hF490
   have hRB_496 := hRB.fr0 hF490
   have hK_497 := hK.fr0 hF490
   have hE_498 := hE.tr0 hF490
   have hbkl := bkt_lt T1.seed k (n := T1.b.length) (by omega)
   refine V.run h492 [] 3 16 16 [(20, .agg #[.int .i64 1, .int .i64 ((bkt T1.seed T1.b.length k : Nat) : Int), .int .i64 (j : Int)]), (21, .bool true)] fun a h503 => ?_
   refine V.go (V.mk [] trivial (by kernel_rfl) [.int .i64 0, .int .i64 0, .int .i64 0] 113 (fun b => .pointer (some ⟨b, 0, none⟩)) (by kernel_rfl) ?_)
   intro w500 b499 heb499 hB501 hF502 hsb499
   have hB6_504 := hB6_493.fr0 hF502
   have hB_505 := hB_494.fr0 hF502
   have hRA_506 := hRA_495.fr0 hF502
   have hRB_507 := hRB_496.fr0 hF502
   have hK_508 := hK_497.alloc hF502 heb499 (by omega)
   have hE_509 := hE_498.tr0 hF502
   refine V.pt h503 fun a h510 => ?_
   refine V.go (V.stn b499 0 (.agg #[.int .i64 1, .int .i64 ((bkt T1.seed T1.b.length k : Nat) : Int), .int .i64 (j : Int)]) [.int .i64 1, .int .i64 ((bkt T1.seed T1.b.length k : Nat) : Int), .int .i64 (j : Int)] h510.e h510.e rfl rfl (by kernel_rfl) hB501 (by simp) [.int .i64 1, .int .i64 ((bkt T1.seed T1.b.length k : Nat) : Int), .int .i64 (j : Int)] rfl ?_)
   intro w511 hB512 hF513 hsw511
   have hB6_514 := hB6_504.fr1 hF513 (by omega)
   have hB_515 := hB_505.fr1 hF513 (by omega)
   have hRA_516 := hRA_506.fr1 hF513 (by omega)
   have hRB_517 := hRB_507.fr1 hF513 (by omega)
   have hK_518 := hK_508.fr hF513 (by simp)
   have hE_519 := hE_509.tr1 hF513 (by first | exact .inl (by assumption) | exact .inr (by omega) | exact .inl (.inl rfl))
   refine V.re h510 [] 1 0 [(8, .bool true)] fun a h520 => k37 _ _ ?_
   refine V.sr h520 [] 1 0 [(22, .bool true)] fun a h523 => ?_
   refine V.ct h523 ?_
   refine V.seq fun K524 k525 => ?_
   refine V.pl [([0,1,2,3,4,5,6,7,8,9,10,11,12,13,14,15],some (16,[])),([],none)] fun w526 hF527 hsw526 => ?_
   have hB6_528 := hB6_514.fr0 hF527
   have hB_529 := hB_515.fr0 hF527
   have hRA_530 := hRA_516.fr0 hF527
   have hRB_531 := hRB_517.fr0 hF527
   have hK_532 := hK_518.fr0 hF527
   have hE_533 := hE_519.tr0 hF527
   have hB512_534 := hB512.fr0 hF527
   obtain ⟨A535, c536, hv537⟩ := hK_532.getB hlA (i := (bkt T1.seed T1.b.length k)) (by omega) nilS
   have hS538 := hK_532.slB hlA (i := (bkt T1.seed T1.b.length k)) (by omega) hv537
   obtain ⟨g539, o540, hA541, hA541l, hA541z⟩ := hS538.addr (by omega)
   refine V.pe h523 [(2, .b hB512_534 0), (3, .b hB_529 2), (1, .b hB512_534 1), (0, .ix gB 0 T1.b.length T1.b.length .i64 ((bkt T1.seed T1.b.length k : Nat) : Int) 1 rfl), (0, .l ⟨gB, 0 + ((bkt T1.seed T1.b.length k : Nat) : Int).toNat * 1, none⟩ (.slice A535 ((T1.b.getD (bkt T1.seed T1.b.length k) []).length) c536) ((hRB_531.at (bkt T1.seed T1.b.length k) nilS (by omega)).trans (congrArg some hv537))), (1, .b hB512_534 2), (0, .bs hB6_528 0 [.int .i64 v.kind, .string v.s, .slice v.l.a v.l.n v.l.c, .slice v.z.a v.z.n v.z.c, .slice v.h.a v.h.n v.h.c, .int .i64 v.till]), (0, .ix g539 o540 ((T1.b.getD (bkt T1.seed T1.b.length k) []).length) c536 .i64 (j : Int) 7 hA541)] 23 37 [(36, .agg #[.int .i64 v.kind, .string v.s, .slice v.l.a v.l.n v.l.c, .slice v.z.a v.z.n v.z.c, .slice v.h.a v.h.n v.h.c, .int .i64 v.till]), (38, .pointer (some ⟨g539, (o540 + (j : Int).toNat * 7) + 1, none⟩))] fun a h542 => ?_
   refine V.go (V.stRBn (R := itI) (j := j) (f := 1) hK_532 hlA (i := (bkt T1.seed T1.b.length k)) (by omega) hv537 hA541 (by omega) [.int .i64 v.kind, .string v.s, .slice v.l.a v.l.n v.l.c, .slice v.z.a v.z.n v.z.c, .slice v.h.a v.h.n v.h.c, .int .i64 v.till] (Nat.le_refl _) (.agg #[.int .i64 v.kind, .string v.s, .slice v.l.a v.l.n v.l.c, .slice v.z.a v.z.n v.z.c, .slice v.h.a v.h.n v.h.c, .int .i64 v.till]) (fun x => (x.1, v)) (h542.e (v := (.pointer (some ⟨g539, (o540 + (j : Int).toNat * 7) + 1, none⟩)))) (h542.e (v := (.agg #[.int .i64 v.kind, .string v.s, .slice v.l.a v.l.n v.l.c, .slice v.z.a v.z.n v.z.c, .slice v.h.a v.h.n v.h.c, .int .i64 v.till]))) rfl rfl (by kernel_rfl) (fun w1 x c hc => by (have hc' : c = [.string x.1, .int .i64 x.2.kind, .string x.2.s, .slice x.2.l.a x.2.l.n x.2.l.c, .slice x.2.z.a x.2.z.n x.2.z.c, .slice x.2.h.a x.2.h.n x.2.h.c, .int .i64 x.2.till] := hc; subst hc'; rfl)) ?_)
   intro w543 hK544 hF545 hsw543 ho546
   have hB_548 := hB_529.fr hF545 (fun hm => (ho546 _ hm).1 (by simp))
   have hRA_549 := hRA_530.fr hF545 (fun hm => (ho546 _ hm).1 (by simp))
   have hRB_550 := hRB_531.fr hF545 (fun hm => (ho546 _ hm).1 (by simp))
   have hE_551 := hE_533.tr hF545 (fun k hk => ((ho546 k hk).2).imp (fun h => ⟨h, fun hm => (ho546 k hk).1 (by simp [hm])⟩) id)
   refine V.eh trivial ?_
   refine V.pz h542 [] 1 0 [] fun a h553 => k525 _ _ ?_
   refine V.sr h553 [] 1 0 [(6, .bool true)] fun a h556 => ?_
   refine V.ret (V.then_r ?_)
   refine V.r1 h556 (.bool true) ?_
   have hst : putT T k v = ({ T1 with b := setV T1.b (bkt T1.seed T1.b.length k) j v } : Tb EntV) := by (unfold putT; rw [← hT1]; unfold put1T; rw [hf, if_pos rfl]; unfold updT; rw [hf]; simp)
   have hup := (updT_ok hok1 hm1 k v).1
   have hu2 : updT T1 k v = ({ T1 with b := setV T1.b (bkt T1.seed T1.b.length k) j v } : Tb EntV) := by (unfold updT; rw [hf]; simp)
   rw [hu2] at hup
   rw [hst]
   exact ⟨by rw [hf], ((TabM.fin (T := ({ T1 with b := setV T1.b (bkt T1.seed T1.b.length k) j v })) hup (fun h => hb1 (by have := congrArg List.length h; rwa [setV_length] at this)) hB_548 hRA_549 hRB_550 (by first | exact hlA | (simp only [List.length_set]; exact hlA)) hK544 (mem4 (l := (b499 :: t :: gA :: gB :: av)) (by simp) (by simp) (by simp) (by intro k hk; simp [hk])) (by first | assumption | omega) (by first | assumption | omega) (by first | assumption | omega) hpt ⟨.inl hpg.1, hpg.2⟩ ⟨.inl hph.1, hph.2⟩ rfl rfl rfl rfl rfl rfl (setV_length _ _ _ _).symm).gr3 (by omega)).dropav hav, ((hFPE.gr hE_551)).dropav hav⟩
end Go.Proofs.YtjkegckfncfoaaaGreat
end
section
namespace Go.V
open Go.Base Go.RowKit
set_option linter.unusedVariables false
set_option linter.unusedSimpArgs false
theorem over_take : ∀ (vs cs : List Value) (off n : Nat), n ≤ off → (over cs off vs).take n = cs.take n
  | [], cs, off, n, h => rfl
  | v :: vs, cs, off, n, h => by
    show (over (cs.set off v) (off + 1) vs).take n = cs.take n
    rw [over_take vs _ _ _ (by omega)]
    apply List.ext_getElem?
    intro i
    rw [List.getElem?_take, List.getElem?_take]
    split
    · rw [List.getElem?_set_ne (by omega)]
    · rfl
theorem zero1 (z : Array Value) : (Builtin.zeroCells z 1).toList = z.toList := by
  unfold Builtin.zeroCells
  apply List.ext_getElem
  · simp
  · intro i h1 h2
    simp at h1
    simp [Nat.mod_eq_of_lt h1, h1]
section
variable {ro : Option Nat} {P : Program} {Q : Exit → Act → World → Prop} {a : Act} {w : World} {ops : Array Oper} {rest : List Oper} {d : Option Tmp} {ty : TypeId} {pos : String} {aft : Array Edge} {gd : Option (Nat × Bool)}
theorem slc {t e : TypeId} {x : Operand} {lo hi mx : Option Operand} {sz : Nat} (g o n c l h m : Nat) (hx : a.eval x = .slice (some ⟨g, o, none⟩) n c)
    (hl : match lo with | some q => ∃ k, a.eval q = .int k (l : Int) | none => l = 0) (hh : match hi with | some q => ∃ k, a.eval q = .int k (h : Int) | none => h = n ∧ mx = none) (hm : match mx with | some q => ∃ k, a.eval q = .int k (m : Int) | none => m = c)
    (h1 : l ≤ h) (h2 : h ≤ m) (h3 : m ≤ c) (ht : P.underlying t = some (.slice e)) (hs : (P.info? e).map (·.size) = some sz)
    (k : ∀ ad : Addr, (m ≠ l → ad = ⟨g, o + l * sz, none⟩) → (l = 0 → ad = ⟨g, o, none⟩) → L ro P ops Q rest (a.put d (.slice (some ad) (h - l) (m - l))) w) : St ro P ops Q rest ⟨d, .slice t x lo hi mx, ty, pos, aft, gd⟩ a w := by
  obtain ⟨i, hi', hsz⟩ := Option.map_eq_some_iff.1 hs
  have hb : (Instr.sliceBounds true n c (lo.map a.eval) (hi.map a.eval) (mx.map a.eval)).run P w = .ok (l, h, m) w := by
    unfold Instr.sliceBounds
    cases mx with
    | none =>
      subst hm
      cases hi with
      | none =>
        obtain ⟨rfl, _⟩ := hh
        cases lo with
        | none => subst hl; simp [Sem.run_bind]
        | some q =>
          obtain ⟨kk, hq⟩ := hl
          simp [Sem.run_bind, hq, Instr.sliceBound, asIntOf, h1]
      | some p =>
        obtain ⟨kp, hp⟩ := hh
        cases lo with
        | none => subst hl; simp [Sem.run_bind, hp, Instr.sliceBound, asIntOf, h2]
        | some q =>
          obtain ⟨kk, hq⟩ := hl
          simp [Sem.run_bind, hp, hq, Instr.sliceBound, asIntOf, h1, h2]
    | some r =>
      obtain ⟨kr, hr⟩ := hm
      cases hi with
      | none => cases hh.2
      | some p =>
        obtain ⟨kp, hp⟩ := hh
        cases lo with
        | none => subst hl; simp [Sem.run_bind, hp, hr, Instr.sliceBound, asIntOf, h2, h3]
        | some q =>
          obtain ⟨kk, hq⟩ := hl
          simp [Sem.run_bind, hp, hq, hr, Instr.sliceBound, asIntOf, h1, h2, h3]
  have hadd : (⟨g, o, none⟩ : Addr).add (l * sz) = ⟨g, o + l * sz, none⟩ := by unfold Addr.add; split <;> simp_all
  refine St.val (v := .slice (some (if m = l then ⟨g, o, none⟩ else ⟨g, o + l * sz, none⟩)) (h - l) (m - l)) (w' := w) ?_ (k _ (fun hne => by rw [if_neg hne]) (fun h0 => by subst h0; split <;> simp))
  simp only [execOp, hx]
  unfold Instr.sliceAt
  simp only [Sem.run_bind, run_underlying ht, Result.andThen_ok]
  unfold Instr.slice
  simp only [Sem.run_bind, run_underlying ht, Result.andThen_ok]
  rw [hb]
  simp only [Result.andThen_ok, sizeOf, typeInfo, run_program, Sem.run_bind, hi', hsz, Sem.run_pure]
  split <;> simp [hadd]
theorem appIn {α : Type} {R : Rp α} {base : Nat} {e t : TypeId} {s x : Operand} {xs : List α} {g n c i m c2 : Nat} (hO : OwR R NoZ w base e (.slice (some ⟨g, 0, none⟩) n c) xs) (hn : n = xs.length) (hin : i < n) (hm : m = n - (i + 1)) (ad : Addr) (had : m ≠ 0 → ad = ⟨g, (i + 1) * R.sz, none⟩)
    (hs : a.eval s = .slice (some ⟨g, 0, none⟩) i c) (hx : a.eval x = .slice (some ad) m c2) (ht : P.underlying t = some (.slice e)) (hinfo : (P.info? e).map (·.size) = some R.sz)
    (k : ∀ w1 cur, OwR R NoZ w1 base e (.slice (some ⟨g, 0, none⟩) (i + m) c) (xs.eraseIdx i) → Fr [g] w w1 → Blk w1 g cur e → cur.length = c * R.sz → L ro P ops Q rest (a.put d (.slice (some ⟨g, 0, none⟩) (i + m) c)) w1) : St ro P ops Q rest ⟨d, .call ⟨.builtin .append, #[s, x], #[t, t]⟩, ty, pos, aft, gd⟩ a w := by
  subst hn
  obtain ⟨cs, h1, h2, h3⟩ := hO
  obtain ⟨inf, hi, hsz⟩ := Option.map_eq_some_iff.1 hinfo
  have hcl := h2.length
  rcases h1.2 with ⟨h, _⟩ | ⟨g', cap, cur, he, hb, hh, hnc, hcm, hcs, htk⟩
  · cases h
  injection he with e1 e2 e3
  injection e1 with e1
  injection e1 with e1
  subst e1; subst e3
  have hil : i * R.sz ≤ cs.length := by rw [hcl]; exact Nat.mul_le_mul_right _ (by omega)
  have hil1 : (i + 1) * R.sz ≤ cs.length := by rw [hcl]; exact Nat.mul_le_mul_right _ (by omega)
  have hpre : w.ownsRow base e R.sz (.slice (some ⟨g, 0, none⟩) i c) i (cs.take (i * R.sz)) := by
    refine ⟨by rw [List.length_take]; omega, .inr ⟨g, c, cur, rfl, hb, hh, by omega, hcm, hcs, ?_⟩⟩
    rw [← htk, List.take_take]; congr 1
    have : i * R.sz ≤ xs.length * R.sz := Nat.mul_le_mul_right _ (by omega)
    omega
  have hnl : (cs.drop ((i + 1) * R.sz)).length = m * R.sz := by
    rw [List.length_drop, hcl, hm, Nat.sub_mul]
  have hcell : ∀ j u, (cs.drop ((i + 1) * R.sz))[j]? = some u → w.cell? (ad.add j) = some u := by
    intro j u hj
    have hlt : j < (cs.drop ((i + 1) * R.sz)).length := (List.getElem?_eq_some_iff.1 hj).1
    have hm0 : m ≠ 0 := by intro h0; rw [hnl, h0, Nat.zero_mul] at hlt; omega
    rw [had hm0, show (⟨g, (i + 1) * R.sz, none⟩ : Addr).add j = ⟨g, (i + 1) * R.sz + j, none⟩ by unfold Addr.add; split <;> simp_all]
    rw [List.getElem?_drop] at hj
    have := h1.cells (g := g) rfl ((i + 1) * R.sz + j) u hj
    rwa [Base.add_plain] at this
  have hone : ∀ u ∈ cs.drop ((i + 1) * R.sz), u.oneCell' = true := fun u hu => h2.one u (List.mem_of_mem_drop hu)
  obtain ⟨w1, hr, ho, hg⟩ := run_append_own_spare (P := P) w base t ty e inf R.sz ht hi hsz g i c (cs.take (i * R.sz)) hpre ad m c2 (cs.drop ((i + 1) * R.sz)) hnl hcell hone (by omega)
  have hf : Fr [g] w w1 := Fr.of_grown hg (fun k hk => by injection hk with hk; subst hk; simp)
  have hlen : (xs.eraseIdx i).length = i + m := by rw [List.length_eraseIdx_of_lt hin]; omega
  have herase : ∀ {xs : List α} {cs : List Value} {i : Nat}, Cells R NoZ w xs cs → i < xs.length → Cells R NoZ w (xs.eraseIdx i) (cs.take (i * R.sz) ++ cs.drop ((i + 1) * R.sz)) := by
    intro xs
    induction xs with
    | nil => intro cs i _ h; simp at h
    | cons y ys ih =>
      rintro cs i ⟨c', r, rfl, hok, hr⟩ hi
      have hl' := R.len hok
      cases i with
      | zero =>
        rw [List.eraseIdx_cons_zero, Nat.zero_mul, List.take_zero, List.nil_append, Nat.zero_add, Nat.one_mul, List.drop_append_of_le_length (by omega), List.drop_of_length_le (by omega), List.nil_append]
        exact hr
      | succ i =>
        rw [List.eraseIdx_cons_succ]
        refine ⟨c', r.take (i * R.sz) ++ r.drop ((i + 1) * R.sz), ?_, hok, ih hr (by simpa using hi)⟩
        rw [show (i + 1) * R.sz = c'.length + i * R.sz by rw [hl', Nat.add_mul]; omega, List.take_length_add_append]
        rw [show (i + 1 + 1) * R.sz = c'.length + (i + 1) * R.sz by rw [hl', Nat.add_mul (i + 1)]; omega, List.drop_length_add_append, List.append_assoc]
        congr 3
        rw [hl', Nat.add_mul]; omega
  have hOw : OwR R NoZ w1 base e (.slice (some ⟨g, 0, none⟩) (i + m) c) (xs.eraseIdx i) := ⟨_, by rw [hlen]; exact ho, (herase h2 hin).mono (fun b hb hz => hz.elim) hf.size, fun b hb hz => hz.elim⟩
  have hB1 : ∃ cur' : List Value, Blk w1 g cur' e ∧ cur'.length = c * R.sz := by
    rcases ho.2 with ⟨h, _⟩ | ⟨g', cap', cur', he', _, hh', _, _, hcs', _⟩
    · cases h
    · injection he' with e1 e2 e3
      injection e1 with e1
      injection e1 with e1
      subst e1; subst e3
      exact ⟨cur'.toList, by unfold Blk; rw [hh'], by rw [Array.length_toList, hcs']⟩
  obtain ⟨cur', hB1, hcl1⟩ := hB1
  have hrun : (execOp a.eval ⟨d, .call ⟨.builtin .append, #[s, x], #[t, t]⟩, ty, pos, aft, gd⟩).run P w = .ok (.value (.slice (some ⟨g, 0, none⟩) (i + m) c)) w1 := by
    simp only [execOp, resolve, invoke, builtin, Sem.run_bind, Sem.run_pure, Result.andThen_ok, List.map_toArray, List.map_cons, List.map_nil, hs, hx, hr]
  exact St.val hrun (k w1 cur' hOw hf hB1 hcl1)
/-- clear of the last element's cells, behind the slice. -/
theorem clr1 {α : Type} {R : Rp α} {base : Nat} {e t : TypeId} {x : Operand} {xs : List α} {g n c c2 : Nat} {z : Value} (hO : OwR R NoZ w base e (.slice (some ⟨g, 0, none⟩) n c) xs) (hn : n = xs.length) {cur : List Value} (hB : Blk w g cur e) (hcl : cur.length = c * R.sz) (hnc : n + 1 ≤ c)
    (hx : a.eval x = .slice (some ⟨g, 0 + n * R.sz, none⟩) 1 c2) (ht : P.underlying t = some (.slice e)) (hinfo : (P.info? e).map (fun i => (i.zero, i.size)) = some (some z, R.sz)) (hz : z.cells.toList.length = R.sz) (h1 : z.cells.toList.all Value.oneCell' = true)
    (k : ∀ w1, OwR R NoZ w1 base e (.slice (some ⟨g, 0, none⟩) n c) xs → Fr [g] w w1 → w1.heap.size = w.heap.size → L ro P ops Q rest a w1) : St ro P ops Q rest ⟨none, .call ⟨.builtin .clear, #[x], #[t]⟩, ty, pos, aft, gd⟩ a w := by
  subst hn
  obtain ⟨inf, hi, hzz⟩ := Option.map_eq_some_iff.1 hinfo
  simp only [Prod.mk.injEq] at hzz
  have hle : 0 + xs.length * R.sz + z.cells.toList.length ≤ cur.length := by rw [hcl, hz, Nat.zero_add, ← Nat.succ_mul]; exact Nat.mul_le_mul_right _ hnc
  obtain ⟨w1, hst, hB1, hF, hsz⟩ := run_storeCells (P := P) g e (0 + xs.length * R.sz) z.cells.toList 0 w cur (fun u hu => List.all_eq_true.1 h1 u hu) hB (by simpa using hle)
  have hO' := hO
  obtain ⟨cs, ho1, ho2, ho3⟩ := hO
  have hown : OwR R NoZ w1 base e (.slice (some ⟨g, 0, none⟩) xs.length c) xs := by
    refine ⟨cs, ⟨ho1.1, ?_⟩, ho2.mono (fun b hb hz => hz.elim) hF.size, fun b hb hz => hz.elim⟩
    rcases ho1.2 with ⟨h, _⟩ | ⟨g', cap, cur0, he, hb, hh, hnc', hcm, hcs, htk⟩
    · cases h
    injection he with e1 e2 e3
    injection e1 with e1
    injection e1 with e1
    subst e1; subst e3
    have hcur : cur0 = cur.toArray := by
      have hB' : w.heap[g]? = some (.cells cur.toArray e (0, 0)) := hB
      rw [hh] at hB'
      injection hB' with hB'
      injection hB' with hB'
    refine .inr ⟨g, c, _, rfl, hb, hB1, hnc', hcm, ?_, ?_⟩
    · rw [← hcs, hcur]; simp [over_length]
    · rw [List.toList_toArray, ← htk, hcur]
      rw [List.toList_toArray]
      have hadd0 : xs.length * R.sz + 0 = xs.length * R.sz := Nat.add_zero _
      rw [show 0 + xs.length * R.sz + 0 = xs.length * R.sz by omega] 
      exact over_take _ _ _ _ (Nat.le_refl _)
  have hzc := zero1 z.cells
  have hrun : (execOp a.eval ⟨none, .call ⟨.builtin .clear, #[x], #[t]⟩, ty, pos, aft, gd⟩).run P w = .ok (.value (.tuple #[])) w1 := by
    have hzv : ∀ w, (zeroValue e).run P w = .ok z w := fun w => by simp [zeroValue, typeInfo, hi, hzz.1, Sem.run_bind]
    simp only [execOp, resolve, invoke, builtin, Sem.run_bind, Sem.run_pure, Result.andThen_ok, List.map_toArray, List.map_cons, List.map_nil, hx, Builtin.clear_, run_underlying ht, hzv, hzc]
    simp only [List.getElem?_toArray, List.getElem?_cons_zero, Sem.run_bind, run_underlying ht, Result.andThen_ok, hzv, hzc, hst, Sem.run_pure]
  exact St.val hrun (k w1 hown hF hsz)
end
end Go.V
end
section
namespace Go.V
open Go.Base Go.RowKit
set_option linter.unusedVariables false
set_option linter.unusedSimpArgs false
section
variable {α : Type}
def rmV (l : List (List (ByteArray × α))) (i j : Nat) : List (List (ByteArray × α)) := l.set i ((l.getD i []).eraseIdx j)
def rm1T (T : Tb α) (k : ByteArray) : Tb α :=
  if (findT T k).1.1 = 0 then { T with a := rmV T.a (findT T k).1.2.1.toNat (findT T k).1.2.2.toNat, n := T.n - 1 } else { T with b := rmV T.b (findT T k).1.2.1.toNat (findT T k).1.2.2.toNat, n := T.n - 1 }
def shrT (T : Tb α) : Tb α := if T.b.length = 0 ∧ 4 < T.a.length ∧ T.n < T.a.length / 8 then startT T (T.a.length / 2) else T
def del1T (T : Tb α) (k : ByteArray) : Tb α := if (findT T k).2 = true then shrT (rm1T T k) else T
def delT (T : Tb α) (k : ByteArray) : Tb α := del1T (tbStep T) k
def lookT (d : α) (T : Tb α) (k : ByteArray) : α × Bool :=
  if (findT T k).2 = true then ((((if (findT T k).1.1 = 0 then T.a else T.b).getD (findT T k).1.2.1.toNat []).getD (findT T k).1.2.2.toNat (⟨#[]⟩, d)).2, true) else (d, false)
def newT (seed : Nat) : Tb α := ⟨seed, List.replicate 4 [], [], 0, 0⟩
theorem newT_ok {seed : Nat} (h : seed < 18446744073709551616) : (newT seed : Tb α).Ok ∧ (newT seed : Tb α).Mv :=
  ⟨⟨h, by simp [newT], by simp [newT], by simp [newT], fun h => absurd rfl h, fun _ => rfl, Nat.zero_le _, rfl, KsR.nils 4, fun i x hx => by rw [getD_nil (Nat.zero_le _)] at hx; cases hx⟩, fun i hi => absurd hi (Nat.not_lt_zero _)⟩
theorem rmV_length (l : List (List (ByteArray × α))) (i j : Nat) : (rmV l i j).length = l.length := by simp [rmV]
theorem rmV_flat {l : List (List (ByteArray × α))} {i j : Nat} (hj : j < (l.getD i []).length) : (rmV l i j).flatten.length + 1 = l.flatten.length := by
  unfold rmV
  rcases Nat.lt_or_ge i l.length with h | h
  · have := flat_set l i ((l.getD i []).eraseIdx j) h
    rw [List.length_eraseIdx_of_lt hj] at this
    omega
  · rw [getD_nil h] at hj; simp at hj
theorem KsR.rm {l : List (List (ByteArray × α))} (h : KsR l) (i j : Nat) : KsR (rmV l i j) :=
  KsR.set h _ fun y hy => h i y (List.mem_of_mem_eraseIdx hy)
theorem rm1T_ok {T : Tb α} (h : T.Ok) (hm : T.Mv) (k : ByteArray) (hf : (findT T k).2 = true) : (rm1T T k).Ok ∧ (rm1T T k).Mv := by
  have hs := h.sum
  unfold rm1T
  rcases findT_cases h k with hc | ⟨j, hc, hj⟩ | ⟨hb, j, hc, hj⟩
  · rw [hc] at hf; cases hf
  · rw [hc, if_pos rfl]
    have hfl := rmV_flat (l := T.a) (i := bkt T.seed T.a.length k) hj
    refine ⟨⟨h.sd, by show 0 < (rmV ..).length; rw [rmV_length]; exact h.pa, by show (rmV ..).length ≤ _; rw [rmV_length]; exact h.la, h.lb, fun h0 => by show _ < (rmV ..).length; rw [rmV_length]; exact h.mv h0, h.mz, by show T.n - 1 ≤ _; have := h.nn; omega, by
      show (rmV T.a ((bkt T.seed T.a.length k : Nat) : Int).toNat ((j : Nat) : Int).toNat ++ T.b).flatten.length = T.n - 1
      rw [Int.toNat_natCast, Int.toNat_natCast, List.flatten_append, List.length_append]; omega, KsR.rm h.ks.1 _ _, h.ks.2⟩, fun i hi => ?_⟩
    show (rmV ..).getD i [] = []
    have h0 := hm i hi
    unfold rmV
    rw [Int.toNat_natCast]
    by_cases he : bkt T.seed T.a.length k = i
    · rw [he, h0] at hj; simp at hj
    · rw [getD_set_ne he]; exact h0
  · rw [hc, if_neg (by simp)]
    have hfl := rmV_flat (l := T.b) (i := bkt T.seed T.b.length k) hj
    refine ⟨⟨h.sd, h.pa, h.la, by show (rmV ..).length ≤ _; rw [rmV_length]; exact h.lb, fun h0 => h.mv hb, fun h0 => absurd (by have h1 : (rmV ..).length = 0 := h0; rwa [rmV_length] at h1) hb, by show T.n - 1 ≤ _; have := h.nn; omega, by
      show (T.a ++ rmV T.b ((bkt T.seed T.b.length k : Nat) : Int).toNat ((j : Nat) : Int).toNat).flatten.length = T.n - 1
      rw [Int.toNat_natCast, Int.toNat_natCast, List.flatten_append, List.length_append]; omega, h.ks.1, KsR.rm h.ks.2 _ _⟩, hm⟩
theorem shrT_ok {T : Tb α} (h : T.Ok) (hm : T.Mv) : (shrT T).Ok ∧ (shrT T).Mv := by
  unfold shrT
  split
  · rename_i hc
    have := h.la
    exact ⟨startT_ok h (List.eq_nil_of_length_eq_zero hc.1) (by omega) (by omega), fun i hi => absurd hi (Nat.not_lt_zero _)⟩
  · exact ⟨h, hm⟩
theorem del1T_ok {T : Tb α} (h : T.Ok) (hm : T.Mv) (k : ByteArray) : (del1T T k).Ok ∧ (del1T T k).Mv := by
  unfold del1T
  split
  · rename_i hf
    obtain ⟨h1, h2⟩ := rm1T_ok h hm k hf
    exact shrT_ok h1 h2
  · exact ⟨h, hm⟩
theorem putT_ok {T : Tb α} (h : T.Ok) (hm : T.Mv) (hn : T.n < 1099511627776) (k : ByteArray) (hk : k.size ≤ 9223372036854775807) (v : α) : (putT T k v).Ok ∧ (putT T k v).Mv := by
  obtain ⟨h1, h2⟩ := tbStep_ok h hm
  refine put1T_ok h1 h2 ?_ k hk v
  have : (tbStep T).n = T.n := by
    unfold tbStep
    split
    · rfl
    · split
      · rfl
      · split <;> rfl
  omega
theorem delT_ok {T : Tb α} (h : T.Ok) (hm : T.Mv) (k : ByteArray) : (delT T k).Ok ∧ (delT T k).Mv := by
  obtain ⟨h1, h2⟩ := tbStep_ok h hm
  exact del1T_ok h1 h2 k
end
section
variable {α : Type} {R : Rp α} {w w1 : World} {e : TypeId} {H : Nat → Prop} {av : List Nat} {vs vsA vsB : List Value} {xs xa xb : List (List α)} {i n c g : Nat} {d : Value} {A : Option Addr}
theorem OwR.open1 {base : Nat} {xs : List α} (h : OwR R NoZ w base e (.slice A n c) xs) (hn : 0 < xs.length) : ∃ g, A = some ⟨g, 0, none⟩ ∧ n = xs.length ∧ n ≤ c := by
  obtain ⟨cs, h1, h2, h3⟩ := h
  rcases h1.2 with ⟨_, he⟩ | ⟨g, cap, cur, he, hb, hh, hnc, _⟩
  · omega
  · injection he with e1 e2 e3
    exact ⟨g, e1, e2, by omega⟩
theorem Bks.own1 (h : Bks R w e H av vs xs) (hv : vs[i]? = some (.slice A n c)) (hne : 0 < (xs.getD i []).length) : ∃ g, A = some ⟨g, 0, none⟩ ∧ OwR R NoZ w 0 e (.slice (some ⟨g, 0, none⟩) (xs.getD i []).length c) (xs.getD i []) ∧ (xs.getD i []).length ≤ c ∧ (∀ k ∈ [g], k ∉ av ∧ H k) := by
  have ho := h.own i _ hv
  obtain ⟨g, rfl, rfl, hc⟩ := ho.open1 hne
  exact ⟨g, rfl, ho, hc, fun k hk => by simp at hk; subst hk; exact h.hom i _ k hv rfl⟩
theorem Bks.ownA (h : Bks R w e H av (vsA ++ vsB) (xa ++ xb)) (hl : vsA.length = xa.length) (hi : i < xa.length) (hv : vsA.getD i d = .slice A n c) (hne : 0 < (xa.getD i []).length) : ∃ g, A = some ⟨g, 0, none⟩ ∧ OwR R NoZ w 0 e (.slice (some ⟨g, 0, none⟩) (xa.getD i []).length c) (xa.getD i []) ∧ (xa.getD i []).length ≤ c ∧ (∀ k ∈ [g], k ∉ av ∧ H k) := by
  have := h.own1 (i := i) (h.atA hl hi hv) (by rw [appA_get hi]; exact hne)
  rwa [appA_get hi] at this
theorem Bks.ownB (h : Bks R w e H av (vsA ++ vsB) (xa ++ xb)) (hl : vsA.length = xa.length) (hi : i < xb.length) (hv : vsB.getD i d = .slice A n c) (hne : 0 < (xb.getD i []).length) : ∃ g, A = some ⟨g, 0, none⟩ ∧ OwR R NoZ w 0 e (.slice (some ⟨g, 0, none⟩) (xb.getD i []).length c) (xb.getD i []) ∧ (xb.getD i []).length ≤ c ∧ (∀ k ∈ [g], k ∉ av ∧ H k) := by
  have := h.own1 (i := xa.length + i) (h.atB hl hi hv) (by rw [appB_get]; exact hne)
  rwa [appB_get] at this
theorem Bks.setA (h : Bks R w e H av (vsA ++ vsB) (xa ++ xb)) (hl : vsA.length = xa.length) (hi : i < xa.length) (hv : vsA.getD i d = .slice (some ⟨g, 0, none⟩) n c) (f : Fr [g] w w1) {n' c' : Nat} {x' : List α} (ho : OwR R NoZ w1 0 e (.slice (some ⟨g, 0, none⟩) n' c') x') (hH : H w.heap.size) :
    Bks R w1 e H av (vsA.set i (.slice (some ⟨g, 0, none⟩) n' c') ++ vsB) (xa.set i x' ++ xb) := by
  have := h.upd (i := i) (by simp; omega) (h.atA hl hi hv) f ho (.inl rfl) hH
  rwa [List.set_append_left _ _ (by omega), List.set_append_left _ _ hi] at this
theorem Bks.setB (h : Bks R w e H av (vsA ++ vsB) (xa ++ xb)) (hl : vsA.length = xa.length) (hi : i < xb.length) (hv : vsB.getD i d = .slice (some ⟨g, 0, none⟩) n c) (f : Fr [g] w w1) {n' c' : Nat} {x' : List α} (ho : OwR R NoZ w1 0 e (.slice (some ⟨g, 0, none⟩) n' c') x') (hH : H w.heap.size) :
    Bks R w1 e H av (vsA ++ vsB.set i (.slice (some ⟨g, 0, none⟩) n' c')) (xa ++ xb.set i x') := by
  have := h.upd (i := xa.length + i) (by simp; omega) (h.atB hl hi hv) f ho (.inl rfl) hH
  rwa [show xa.length + i = vsA.length + i by omega, List.set_append_right _ _ (by omega), Nat.add_sub_cancel_left, hl, List.set_append_right _ _ (by omega), Nat.add_sub_cancel_left] at this
variable {ro : Option Nat} {P : Program} {Q : Exit → Act → World → Prop} {a : Act} {ops : Array Oper} {rest : List Oper} {d' : Option Tmp} {ty : TypeId} {pos : String} {aft : Array Edge} {gd : Option (Nat × Bool)}
theorem quoN {t t' : TypeId} {x y : Operand} (n m : Nat) (hx : a.eval x = .int .i64 (n : Int)) (hy : a.eval y = .int .i64 (m : Int)) (hm : 0 < m) (hb : n ≤ 9223372036854775807)
    (k : L ro P ops Q rest (a.put d' (.int .i64 ((n / m : Nat) : Int))) w) : St ro P ops Q rest ⟨d', .binOp .quo t x y t', ty, pos, aft, gd⟩ a w := by
  refine St.val (v := .int .i64 ((n / m : Nat) : Int)) (w' := w) ?_ k
  have hne : ¬ ((m : Nat) : Int) = 0 := by omega
  have h1 : Value.int .i64 (IntKind.i64.wrap (Int.tdiv (n : Int) (m : Int))) = .int .i64 ((n / m : Nat) : Int) := quo_i64 (Int.natCast_nonneg _) (by omega) (by omega)
  rw [← h1]
  simp only [execOp, hx, hy, eqGuard, binOp, Op.intDiv, ne_eq, not_true_eq_false, if_false, hne]
  rfl
end
section
variable {α : Type} {tt te e : TypeId} {R : Rp (ByteArray × α)} {w w1 w2 : World} {H : Nat → Prop} {av : List Nat} {t g seed : Nat} {T : Tb α}
theorem newT_tab (hB : Blk w1 t [.int .u64 (seed : Int), .slice (some ⟨g, 0, none⟩) 4 4, .slice none 0 0, .int .i64 0, .int .i64 0] tt) (hR : Row idV w1 g (List.replicate 4 nilS) te) (hne : t ≠ g) (ht : w.heap.size ≤ t) (hg : w.heap.size ≤ g) (hsd : seed < 18446744073709551616) (hav : ∀ k ∈ av, k < w.heap.size) :
    TabX tt te e R w1 (gr (fun _ => False) w w1) av t (newT seed) := by
  have hlt := hB.lt
  have hlg := hR.lt
  have hn : ∀ k ∈ t :: g :: av, k < w1.heap.size := fun k hk => by
    rcases List.mem_cons.1 hk with rfl | hk
    · exact hlt
    · rcases List.mem_cons.1 hk with rfl | hk
      · exact hlg
      · have := hav k hk; omega
  refine ⟨(newT_ok hsd).1, .inl ⟨rfl, g, _, hB, hR, rfl, ?_, hne, ⟨.inr ⟨ht, hlt⟩, fun hm => ?_⟩, ⟨.inr ⟨hg, hlg⟩, fun hm => ?_⟩⟩⟩
  · exact Bks.nil R w1 e _ hn 4
  · have := hav _ hm; omega
  · have := hav _ hm; omega
theorem TabX.grl (h : TabX tt te e R w2 (gr H w w1) av t T) (hw : w1.heap.size ≤ w2.heap.size) : TabX tt te e R w2 (gr H w w2) av t T :=
  h.sub (fun _ q => q) fun k hk q => q.imp id fun q => ⟨q.1, by omega⟩
end
end Go.V
end
section
namespace Go.Proofs.YtjkegckfncfoaaaGreat
open Go.V Go.Base
open Go.RowKit (Below)
attribute [local irreducible] Act.put Act.eval
set_option linter.unusedVariables false
set_option linter.unusedSimpArgs false
set_option maxHeartbeats 4000000
set_option maxRecDepth 20000
theorem itI_sz : itI.sz = 7 := rfl
theorem info117c : (Tryz.prog.info? 117).map (fun i => (i.zero, i.size)) = some (some (.agg #[.string ⟨#[]⟩, .int .i64 0, .string ⟨#[]⟩, .slice none 0 0, .slice none 0 0, .slice none 0 0, .int .i64 0]), itI.sz) := by kernel_rfl
theorem delete_any (w : World) (g c i : Nat) (xs : List (ByteArray × EntV)) (hO : OwR itI NoZ w 0 117 (.slice (some ⟨g, 0, none⟩) xs.length c) xs) (hi : i < xs.length) (hc : xs.length ≤ c) (hl : xs.length ≤ 1099511627776) : Calls Tryz.prog 87 #[.slice (some ⟨g, 0, none⟩) xs.length c, .int .i64 (i : Int), .int .i64 ((i : Int) + 1)] w (fun e w' => e = .returned (.slice (some ⟨g, 0, none⟩) (xs.length - 1) c) ∧ OwR itI NoZ w' 0 117 (.slice (some ⟨g, 0, none⟩) (xs.length - 1) c) (xs.eraseIdx i) ∧ Fr [g] w w') := by
 have hF := Fr.refl [g] w
 have herl : i + (xs.length - (i + 1)) = (xs.eraseIdx i).length := by rw [List.length_eraseIdx_of_lt hi]; omega
 refine V.en 33 Tryz.func87 fun a h1 => ?_
 refine V.sr h1 [] 6 6 [] fun a h4 => ?_
 refine V.sg fun K5 k6 => ?_
 refine V.run h4 [] 5 11 11 [(8, .slice (some ⟨g, 0, none⟩) xs.length c), (9, .int .i64 (i : Int)), (10, .int .i64 ((i : Int) + 1)), (12, .int .i64 ((xs.length : Nat) : Int))] fun a h7 => ?_
 refine V.go (V.slc (e := 117) (sz := 7) g 0 xs.length c i (i + 1) xs.length (h7.e (v := (.slice (some ⟨g, 0, none⟩) xs.length c))) ⟨_, ((h7.e (v := (.int .i64 (i : Int))))).trans (V.int_eq (by omega))⟩ ⟨_, ((h7.e (v := (.int .i64 ((i : Int) + 1))))).trans (V.int_eq (by omega))⟩ ⟨_, ((h7.e (v := (.int .i64 ((xs.length : Nat) : Int))))).trans (V.int_eq (by omega))⟩ (by omega) (by omega) (by omega) (by kernel_rfl) (by kernel_rfl) ?_)
 intro ad8 had9 hae10
 refine V.pt h7 fun a h11 => ?_
 refine V.nt (k6 _ _ ?_)
 refine V.seq fun K12 k13 => ?_
 refine V.sr h11 [(2, .eq (i : Int) ((i : Int) + 1))] 14 15 [(16, .bool (decide ((i : Int) = ((i : Int) + 1))))] fun a h16 => ?_
 refine V.cp h16 ((i : Int) = ((i : Int) + 1)) (fun ht17 => ?_) (fun ht17 => ?_)
 ·
  refine V.sr h16 [] 17 17 [(6, .slice (some ⟨g, 0, none⟩) xs.length c)] fun a h20 => ?_
  refine V.ret (V.then_r ?_)
  refine V.r1 h20 (.slice (some ⟨g, 0, none⟩) xs.length c) ?_
  exact absurd ht17 (by omega)
 ·
  refine V.skip ?_
  refine V.then_n (k13 _ _ ?_)
  refine V.sr h16 [] 18 19 [(7, .int .i64 ((xs.length : Nat) : Int))] fun a h23 => ?_
  refine V.seq fun K24 k25 => ?_
  refine V.pl [([0,1,2,3,4,5],some (6,[])),([7],none)] fun w26 hF27 hsw26 => ?_
  have hF_28 := hF.trans hF27 (by simp <;> omega)
  have hO_29 := hO.fr0 hF27
  refine V.pe0 ?_
  refine V.run h23 [] 2 1 0 [(20, .slice (some ⟨g, 0, none⟩) xs.length c), (21, .int .i64 (i : Int))] fun a h30 => ?_
  refine V.go (V.slc (e := 117) (sz := 7) g 0 xs.length c 0 i c (h30.e (v := (.slice (some ⟨g, 0, none⟩) xs.length c))) rfl ⟨_, ((h30.e (v := (.int .i64 (i : Int))))).trans (V.int_eq (by omega))⟩ rfl (by omega) (by omega) (by omega) (by kernel_rfl) (by kernel_rfl) ?_)
  intro ad31 had32 hae33
  obtain rfl := hae33 rfl
  refine V.pt h30 fun a h34 => ?_
  refine V.run h34 [] 2 1 0 [(23, .slice (some ⟨g, 0, none⟩) xs.length c), (24, .int .i64 ((i : Int) + 1))] fun a h35 => ?_
  refine V.go (V.slc (e := 117) (sz := 7) g 0 xs.length c (i + 1) xs.length c (h35.e (v := (.slice (some ⟨g, 0, none⟩) xs.length c))) ⟨_, ((h35.e (v := (.int .i64 ((i : Int) + 1))))).trans (V.int_eq (by omega))⟩ ⟨rfl, rfl⟩ rfl (by omega) (by omega) (by omega) (by kernel_rfl) (by kernel_rfl) ?_)
  intro ad36 had37 hae38
  refine V.pt h35 fun a h39 => ?_
  refine V.se h39 [] 1 0 [] fun a h40 => ?_
  refine V.go (V.appIn (R := itI) (i := i) (m := xs.length - (i + 1)) hO_29 rfl hi rfl ad36 (fun hq => by rw [had37 (by omega)]; simp [itI_sz]) (h40.e (v := (.slice (some ⟨g, 0, none⟩) (i - 0) (c - 0)))) (h40.e (v := (.slice (some ad36) (xs.length - (i + 1)) (c - (i + 1))))) (by kernel_rfl) (by kernel_rfl) ?_)
  intro w41 cur46 hO42 hF43 hB44 hcl45
  have hsw41 := hF43.size
  have hF_47 := hF_28.trans hF43 (by simp <;> omega)
  refine V.pt h40 fun a h48 => ?_
  refine V.eh trivial ?_
  refine V.pz h48 [] 1 0 [(0, .slice (some ⟨g, 0, none⟩) (i + (xs.length - (i + 1))) c)] fun a h49 => k25 _ _ ?_
  refine V.sg fun K50 k51 => ?_
  refine V.run h49 [] 4 28 28 [(27, .slice (some ⟨g, 0, none⟩) (i + (xs.length - (i + 1))) c), (29, .int .i64 (((i + (xs.length - (i + 1))) : Nat) : Int)), (30, .int .i64 ((xs.length : Nat) : Int))] fun a h52 => ?_
  refine V.go (V.slc (e := 117) (sz := 7) g 0 (i + (xs.length - (i + 1))) c (i + (xs.length - (i + 1))) xs.length c (h52.e (v := (.slice (some ⟨g, 0, none⟩) (i + (xs.length - (i + 1))) c))) ⟨_, ((h52.e (v := (.int .i64 (((i + (xs.length - (i + 1))) : Nat) : Int))))).trans (V.int_eq (by omega))⟩ ⟨_, ((h52.e (v := (.int .i64 ((xs.length : Nat) : Int))))).trans (V.int_eq (by omega))⟩ rfl (by omega) (by omega) (by omega) (by kernel_rfl) (by kernel_rfl) ?_)
  intro ad53 had54 hae55
  obtain rfl := had54 (by omega)
  refine V.pt h52 fun a h56 => ?_
  refine V.go (V.clr1 (R := itI) (n := i + (xs.length - (i + 1))) hO42 herl hB44 hcl45 (by omega) ((h56.e (v := (.slice (some ⟨g, 0 + (i + (xs.length - (i + 1))) * 7, none⟩) (xs.length - (i + (xs.length - (i + 1)))) (c - (i + (xs.length - (i + 1))))))).trans (V.sl_eq (by omega))) (by kernel_rfl) (info117c) rfl rfl ?_)
  intro w57 hO58 hF59 hsw57
  have hF_60 := hF_47.trans hF59 (by simp <;> omega)
  refine V.nt (k51 _ _ ?_)
  refine V.sr h56 [] 32 32 [(6, .slice (some ⟨g, 0, none⟩) (i + (xs.length - (i + 1))) c)] fun a h63 => ?_
  refine V.ret ?_
  refine V.r1 h63 (.slice (some ⟨g, 0, none⟩) (i + (xs.length - (i + 1))) c) ?_
  have hq1 : i + (xs.length - (i + 1)) = xs.length - 1 := by omega
  rw [hq1] at hO58 ⊢
  exact ⟨rfl, hO58, hF_60⟩
theorem del_any (w : World) (H : Nat → Prop) (av : List Nat) (t : Nat) (T : Tb EntV) (hT : TabX 122 118 117 itI w H av t T) (hm : T.Mv) (k : ByteArray) (hkz : k.size ≤ 9223372036854775807) : Calls Tryz.prog 52 #[.pointer (some ⟨t, 0, none⟩), .string k] w (fun e w' => e = .returned (.bool (findT (tbStep T) k).2) ∧ TabX 122 118 117 itI w' (gr H w w') av t (delT T k) ∧ FrP (gp H av) w w') := by
 have hFP := FrP.refl (gp H av) w
 obtain ⟨hok0, hm1⟩ := tbStep_ok hT.1 hm
 obtain ⟨T1, hT1⟩ : ∃ T1, T1 = tbStep T := ⟨_, rfl⟩
 rw [← hT1] at hok0 hm1 ⊢
 refine V.en 83 Tryz.func52 fun a h1 => ?_
 refine V.sr h1 [] 4 4 [] fun a h4 => ?_
 refine V.seq fun K5 k6 => ?_
 refine V.sg fun K7 k8 => ?_
 refine V.run h4 [] 1 1 0 [(9, .pointer (some ⟨t, 0, none⟩))] fun a h9 => ?_
 refine V.cl h9 (Go.Proofs.enters_of Tryz.func64 (by kernel_rfl) rfl) (made_any w (H) (av) t (T) hT) ?_
 rintro _ w11 ⟨rfl, hF10⟩
 refine ⟨_, rfl, fun a h12 => ?_⟩
 have hsw11 := hF10.size
 have hT_13 := hT.fr0 hF10
 have hFP_14 := hFP.tr0 hF10
 refine V.re h12 [] 1 0 [(11, .bool false)] fun a h15 => k8 _ _ ?_
 refine V.cf h15 ?_
 refine V.skip ?_
 refine V.then_n (k6 _ _ ?_)
 refine V.sg fun K16 k17 => ?_
 refine V.run h15 [] 1 1 0 [(12, .pointer (some ⟨t, 0, none⟩))] fun a h18 => ?_
 refine V.cl h18 (Go.Proofs.enters_of Tryz.func65 (by kernel_rfl) rfl) (step_any w11 (H) (av) t (T) hT_13 hm) ?_
 rintro _ w21 ⟨rfl, hT19, hfp20⟩
 refine ⟨_, rfl, fun a h22 => ?_⟩
 have hsw21 := hfp20.size
 have hFP_23 := hFP_14.trP hfp20 (fun k hk => .inl hk)
 have hT19q := hT19.grm (w := w) (by omega)
 rw [← hT1] at hT19q
 refine V.nt (k17 _ _ ?_)
 refine V.sg fun K24 k25 => ?_
 refine V.run h22 [] 2 1 0 [(15, .pointer (some ⟨t, 0, none⟩)), (16, .string k)] fun a h26 => ?_
 have hok1 := hT19q.1
 rcases findT_cases hok1 k with hf | ⟨j, hf, hj⟩ | ⟨hbn, j, hf, hj⟩
 ·
  rcases hT19q.2 with ⟨hb0, gA, vsA, hN⟩ | ⟨hb0, gA, gB, vsA, vsB, hN⟩
  ·
   have hb1 : T1.b.length = 0 := by rw [hb0]; rfl
   obtain ⟨hB, hRA, hlA, hK, hne, hpt, hpg⟩ := hN
   replace hK := hK.toH
   have hltt := hB.lt
   have hltg := hRA.lt
   have hE : FrP (gp (gr H w w21) av) w21 w21 := FrP.refl _ _
   have hK0 : ∀ k ∈ av, k < w21.heap.size := fun k hk => hK.avl k (by simp [hk])
   obtain ⟨hsd, hpa, hla, hlb, hmv, hmz, hnn, hcn, hks⟩ := (show T1.Ok from hok1)
   have hbl := hok1.bl
   have hFPE := hFP_23
   refine V.cl (av := #[.pointer (some ⟨t, 0, none⟩), .string k]) h26 (Go.Proofs.enters_of Tryz.func70 (by kernel_rfl) rfl) (by have h := find_any w21 (gr H w w21) (av) t T1 hT19q k hkz; rw [hf] at h; exact h) ?_
   rintro _ w28 ⟨rfl, hF27⟩
   refine ⟨_, rfl, fun a h29 => ?_⟩
   have hsw28 := hF27.size
   have hB_30 := hB.fr0 hF27
   have hRA_31 := hRA.fr0 hF27
   have hK_32 := hK.fr0 hF27
   have hE_33 := hE.tr0 hF27
   refine V.run h29 [] 3 14 14 [(18, .agg #[.int .i64 0, .int .i64 0, .int .i64 0]), (19, .bool false)] fun a h38 => ?_
   refine V.go (V.mk [] trivial (by kernel_rfl) [.int .i64 0, .int .i64 0, .int .i64 0] 113 (fun b => .pointer (some ⟨b, 0, none⟩)) (by kernel_rfl) ?_)
   intro w35 b34 heb34 hB36 hF37 hsb34
   have hB_39 := hB_30.fr0 hF37
   have hRA_40 := hRA_31.fr0 hF37
   have hK_41 := hK_32.alloc hF37 heb34 (by omega)
   have hE_42 := hE_33.tr0 hF37
   refine V.pt h38 fun a h43 => ?_
   refine V.go (V.stn b34 0 (.agg #[.int .i64 0, .int .i64 0, .int .i64 0]) [.int .i64 0, .int .i64 0, .int .i64 0] h43.e h43.e rfl rfl (by kernel_rfl) hB36 (by simp) [.int .i64 0, .int .i64 0, .int .i64 0] rfl ?_)
   intro w44 hB45 hF46 hsw44
   have hB_47 := hB_39.fr1 hF46 (by omega)
   have hRA_48 := hRA_40.fr1 hF46 (by omega)
   have hK_49 := hK_41.fr hF46 (by simp)
   have hE_50 := hE_42.tr1 hF46 (by first | exact .inl (by assumption) | exact .inr (by omega) | exact .inl (.inl rfl))
   refine V.re h43 [] 1 0 [(6, .bool false)] fun a h51 => k25 _ _ ?_
   refine V.seq fun K52 k53 => ?_
   refine V.sr h51 [] 20 20 [(21, .bool true)] fun a h56 => ?_
   refine V.ct h56 ?_
   refine V.sr h56 [] 1 0 [(4, .bool false)] fun a h59 => ?_
   refine V.ret (V.then_r ?_)
   refine V.r1 h59 (.bool false) ?_
   have hst : delT T k = T1 := by (unfold delT; rw [← hT1]; unfold del1T; rw [hf, if_neg (by simp)])
   rw [hst]
   exact ⟨by rw [hf], ((TabN.fin (T := T1) hok1 hb0 hB_47 hRA_48 (by have h := hK_49; rw [List.append_nil, List.append_nil] at h; exact h) (mem3 (l := (b34 :: t :: gA :: av)) (by simp) (by simp) (by intro k hk; simp [hk])) (by first | assumption | exact Ne.symm (by assumption) | omega) hpt ⟨.inl hpg.1, hpg.2⟩ rfl rfl rfl rfl rfl).gr3 (by omega)), ((hFPE.gr hE_50))⟩
  ·
   have hb1 : T1.b.length ≠ 0 := fun h => hb0 (List.eq_nil_of_length_eq_zero h)
   obtain ⟨hB, hRA, hRB, hlA, hlB, hK, hne, hne2, hne3, hpt, hpg, hph⟩ := hN
   replace hK := hK.toH
   have hltt := hB.lt
   have hltg := hRA.lt
   have hltg2 := hRB.lt
   have hE : FrP (gp (gr H w w21) av) w21 w21 := FrP.refl _ _
   have hK0 : ∀ k ∈ av, k < w21.heap.size := fun k hk => hK.avl k (by simp [hk])
   obtain ⟨hsd, hpa, hla, hlb, hmv, hmz, hnn, hcn, hks⟩ := (show T1.Ok from hok1)
   have hbl := hok1.bl
   have hFPE := hFP_23
   refine V.cl (av := #[.pointer (some ⟨t, 0, none⟩), .string k]) h26 (Go.Proofs.enters_of Tryz.func70 (by kernel_rfl) rfl) (by have h := find_any w21 (gr H w w21) (av) t T1 hT19q k hkz; rw [hf] at h; exact h) ?_
   rintro _ w61 ⟨rfl, hF60⟩
   refine ⟨_, rfl, fun a h62 => ?_⟩
   have hsw61 := hF60.size
   have hB_63 := hB.fr0 hF60
   have hRA_64 := hRA.fr0 hF60
   have hRB_65 := hRB.fr0 hF60
   have hK_66 := hK.fr0 hF60
   have hE_67 := hE.tr0 hF60
   refine V.run h62 [] 3 14 14 [(18, .agg #[.int .i64 0, .int .i64 0, .int .i64 0]), (19, .bool false)] fun a h72 => ?_
   refine V.go (V.mk [] trivial (by kernel_rfl) [.int .i64 0, .int .i64 0, .int .i64 0] 113 (fun b => .pointer (some ⟨b, 0, none⟩)) (by kernel_rfl) ?_)
   intro w69 b68 heb68 hB70 hF71 hsb68
   have hB_73 := hB_63.fr0 hF71
   have hRA_74 := hRA_64.fr0 hF71
   have hRB_75 := hRB_65.fr0 hF71
   have hK_76 := hK_66.alloc hF71 heb68 (by omega)
   have hE_77 := hE_67.tr0 hF71
   refine V.pt h72 fun a h78 => ?_
   refine V.go (V.stn b68 0 (.agg #[.int .i64 0, .int .i64 0, .int .i64 0]) [.int .i64 0, .int .i64 0, .int .i64 0] h78.e h78.e rfl rfl (by kernel_rfl) hB70 (by simp) [.int .i64 0, .int .i64 0, .int .i64 0] rfl ?_)
   intro w79 hB80 hF81 hsw79
   have hB_82 := hB_73.fr1 hF81 (by omega)
   have hRA_83 := hRA_74.fr1 hF81 (by omega)
   have hRB_84 := hRB_75.fr1 hF81 (by omega)
   have hK_85 := hK_76.fr hF81 (by simp)
   have hE_86 := hE_77.tr1 hF81 (by first | exact .inl (by assumption) | exact .inr (by omega) | exact .inl (.inl rfl))
   refine V.re h78 [] 1 0 [(6, .bool false)] fun a h87 => k25 _ _ ?_
   refine V.seq fun K88 k89 => ?_
   refine V.sr h87 [] 20 20 [(21, .bool true)] fun a h92 => ?_
   refine V.ct h92 ?_
   refine V.sr h92 [] 1 0 [(4, .bool false)] fun a h95 => ?_
   refine V.ret (V.then_r ?_)
   refine V.r1 h95 (.bool false) ?_
   have hst : delT T k = T1 := by (unfold delT; rw [← hT1]; unfold del1T; rw [hf, if_neg (by simp)])
   rw [hst]
   exact ⟨by rw [hf], ((TabM.fin (T := T1) hok1 hb0 hB_82 hRA_83 hRB_84 (by first | exact hlA | (simp only [List.length_set]; exact hlA)) hK_85 (mem4 (l := (b68 :: t :: gA :: gB :: av)) (by simp) (by simp) (by simp) (by intro k hk; simp [hk])) (by first | assumption | omega) (by first | assumption | omega) (by first | assumption | omega) hpt ⟨.inl hpg.1, hpg.2⟩ ⟨.inl hph.1, hph.2⟩ rfl rfl rfl rfl rfl rfl rfl).gr3 (by omega)), ((hFPE.gr hE_86))⟩
 ·
  rcases hT19q.2 with ⟨hb0, gA, vsA, hN⟩ | ⟨hb0, gA, gB, vsA, vsB, hN⟩
  ·
   have hb1 : T1.b.length = 0 := by rw [hb0]; rfl
   obtain ⟨hB, hRA, hlA, hK, hne, hpt, hpg⟩ := hN
   replace hK := hK.toH
   have hltt := hB.lt
   have hltg := hRA.lt
   have hE : FrP (gp (gr H w w21) av) w21 w21 := FrP.refl _ _
   have hK0 : ∀ k ∈ av, k < w21.heap.size := fun k hk => hK.avl k (by simp [hk])
   obtain ⟨hsd, hpa, hla, hlb, hmv, hmz, hnn, hcn, hks⟩ := (show T1.Ok from hok1)
   have hbl := hok1.bl
   have hFPE := hFP_23
   refine V.cl (av := #[.pointer (some ⟨t, 0, none⟩), .string k]) h26 (Go.Proofs.enters_of Tryz.func70 (by kernel_rfl) rfl) (by have h := find_any w21 (gr H w w21) (av) t T1 hT19q k hkz; rw [hf] at h; exact h) ?_
   rintro _ w97 ⟨rfl, hF96⟩
   refine ⟨_, rfl, fun a h98 => ?_⟩
   have hsw97 := hF96.size
   have hB_99 := hB.fr0 hF96
   have hRA_100 := hRA.fr0 hF96
   have hK_101 := hK.fr0 hF96
   have hE_102 := hE.tr0 hF96
   have hbkl := bkt_lt T1.seed k (n := T1.a.length) (by omega)
   refine V.run h98 [] 3 14 14 [(18, .agg #[.int .i64 0, .int .i64 ((bkt T1.seed T1.a.length k : Nat) : Int), .int .i64 (j : Int)]), (19, .bool true)] fun a h107 => ?_
   refine V.go (V.mk [] trivial (by kernel_rfl) [.int .i64 0, .int .i64 0, .int .i64 0] 113 (fun b => .pointer (some ⟨b, 0, none⟩)) (by kernel_rfl) ?_)
   intro w104 b103 heb103 hB105 hF106 hsb103
   have hB_108 := hB_99.fr0 hF106
   have hRA_109 := hRA_100.fr0 hF106
   have hK_110 := hK_101.alloc hF106 heb103 (by omega)
   have hE_111 := hE_102.tr0 hF106
   refine V.pt h107 fun a h112 => ?_
   refine V.go (V.stn b103 0 (.agg #[.int .i64 0, .int .i64 ((bkt T1.seed T1.a.length k : Nat) : Int), .int .i64 (j : Int)]) [.int .i64 0, .int .i64 ((bkt T1.seed T1.a.length k : Nat) : Int), .int .i64 (j : Int)] h112.e h112.e rfl rfl (by kernel_rfl) hB105 (by simp) [.int .i64 0, .int .i64 ((bkt T1.seed T1.a.length k : Nat) : Int), .int .i64 (j : Int)] rfl ?_)
   intro w113 hB114 hF115 hsw113
   have hB_116 := hB_108.fr1 hF115 (by omega)
   have hRA_117 := hRA_109.fr1 hF115 (by omega)
   have hK_118 := hK_110.fr hF115 (by simp)
   have hE_119 := hE_111.tr1 hF115 (by first | exact .inl (by assumption) | exact .inr (by omega) | exact .inl (.inl rfl))
   refine V.re h112 [] 1 0 [(6, .bool true)] fun a h120 => k25 _ _ ?_
   refine V.seq fun K121 k122 => ?_
   refine V.sr h120 [] 20 20 [(21, .bool false)] fun a h125 => ?_
   refine V.cf h125 ?_
   refine V.skip ?_
   refine V.then_n (k122 _ _ ?_)
   refine V.seq fun K126 k127 => ?_
   have hbq := hbl (bkt T1.seed T1.a.length k)
   refine V.pl [([0,1,2,3,4,5,6,7,8,9,10,11],none)] fun w128 hF129 hsw128 => ?_
   have hB_130 := hB_116.fr0 hF129
   have hRA_131 := hRA_117.fr0 hF129
   have hK_132 := hK_118.fr0 hF129
   have hE_133 := hE_119.tr0 hF129
   have hB114_134 := hB114.fr0 hF129
   obtain ⟨A135, c136, hv137⟩ := hK_132.getA hlA (i := (bkt T1.seed T1.a.length k)) (by omega) nilS
   have hS138 := hK_132.slA hlA (i := (bkt T1.seed T1.a.length k)) (by omega) hv137
   refine V.pz h125 [(2, .b hB114_134 0), (3, .b hB_130 1), (1, .b hB114_134 1), (0, .ix gA 0 T1.a.length T1.a.length .i64 ((bkt T1.seed T1.a.length k : Nat) : Int) 1 rfl), (0, .l ⟨gA, 0 + ((bkt T1.seed T1.a.length k : Nat) : Int).toNat * 1, none⟩ (.slice A135 ((T1.a.getD (bkt T1.seed T1.a.length k) []).length) c136) ((hRA_131.at (bkt T1.seed T1.a.length k) nilS (by omega)).trans (congrArg some hv137)))] 22 32 [(7, .slice A135 ((T1.a.getD (bkt T1.seed T1.a.length k) []).length) c136)] fun a h139 => k127 _ _ ?_
   refine V.seq fun K140 k141 => ?_
   refine V.pl [([0,1,2,3,4,5,6,7,8,9,10,11,12,13,14],some (15,[2,6,8])),([16],some (17,[])),([],none)] fun w142 hF143 hsw142 => ?_
   have hB_144 := hB_130.fr0 hF143
   have hRA_145 := hRA_131.fr0 hF143
   have hK_146 := hK_132.fr0 hF143
   have hE_147 := hE_133.tr0 hF143
   have hB114_148 := hB114_134.fr0 hF143
   refine V.pe h139 [(2, .b hB114_148 0), (3, .b hB_144 1), (1, .b hB114_148 1), (2, .b hB114_148 2), (1, .b hB114_148 2), (0, .i ((j : Int) + 1))] 33 46 [(34, .pointer (some ⟨b103, 0, none⟩)), (38, .pointer (some ⟨t, 1, none⟩)), (39, .slice (some ⟨gA, 0, none⟩) T1.a.length T1.a.length), (40, .pointer (some ⟨b103, 1, none⟩)), (41, .int .i64 ((bkt T1.seed T1.a.length k : Nat) : Int)), (42, .slice A135 ((T1.a.getD (bkt T1.seed T1.a.length k) []).length) c136), (44, .int .i64 (j : Int)), (47, .int .i64 ((j : Int) + 1))] fun a h150 => ?_
   obtain ⟨g151, hAe, hO152, hc153, ho154⟩ := hK_146.ownA hlA (i := (bkt T1.seed T1.a.length k)) (by omega) hv137 (by omega)
   rw [hAe] at hv137
   refine V.cl (av := #[.slice A135 ((T1.a.getD (bkt T1.seed T1.a.length k) []).length) c136, .int .i64 (j : Int), .int .i64 ((j : Int) + 1)]) h150 (Go.Proofs.enters_of Tryz.func87 (by kernel_rfl) rfl) (by (rw [hAe]; exact delete_any w142 g151 c136 j (T1.a.getD (bkt T1.seed T1.a.length k) []) hO152 (by omega) hc153 (by omega))) ?_
   rintro _ w158 ⟨rfl, hOr155, hF156⟩
   refine ⟨_, rfl, fun a h159 => ?_⟩
   have hsw158 := hF156.size
   have hB_160 := hB_144.fr hF156 (fun hm => (ho154 _ hm).1 (by simp))
   have hRA_161 := hRA_145.fr hF156 (fun hm => (ho154 _ hm).1 (by simp))
   have hE_162 := hE_147.tr hF156 (fun k hk => ((ho154 k hk).2).imp (fun h => ⟨h, fun hm => (ho154 k hk).1 (by simp [hm])⟩) id)
   have hB114_163 := hB114_148.fr hF156 (fun hm => (ho154 _ hm).1 (by simp))
   have hK157 := hK_146.setA hlA (i := (bkt T1.seed T1.a.length k)) (by omega) hv137 hF156 hOr155 (.inr (by omega))
   refine V.eh ⟨(fun _ => held_blk (n := 1) (hx := (h150.e (v := (.pointer (some ⟨b103, 0, none⟩))))) hB114_148 hB114_163 (by kernel_rfl) rfl (by simp only [List.length]; omega)), (fun _ => held_blk (n := 1) (hx := (h150.e (v := (.pointer (some ⟨t, 1, none⟩))))) hB_144 hB_160 (by kernel_rfl) rfl (by simp only [List.length]; omega)), (fun _ => held_blk (n := 1) (hx := (h150.e (v := (.pointer (some ⟨b103, 1, none⟩))))) hB114_148 hB114_163 (by kernel_rfl) rfl (by simp only [List.length]; omega))⟩ ?_
   refine V.pe h159 [(0, .ix gA 0 T1.a.length T1.a.length .i64 ((bkt T1.seed T1.a.length k : Nat) : Int) 1 rfl)] 1 0 [(49, .pointer (some ⟨gA, 0 + ((bkt T1.seed T1.a.length k : Nat) : Int).toNat * 1, none⟩))] fun a h164 => ?_
   refine V.go (V.strow (enc := idV) gA (((bkt T1.seed T1.a.length k : Nat) : Int).toNat) (.slice (some ⟨g151, 0, none⟩) ((T1.a.getD (bkt T1.seed T1.a.length k) []).length - 1) c136) h164.e h164.e rfl rfl (by kernel_rfl) hRA_161 (by first | omega | (simp only [List.length_set, List.length_replicate]; omega)) ?_)
   intro w165 hR166 hF167 hsw165
   have hB_168 := hB_160.fr1 hF167 (by omega)
   have hE_169 := hE_162.tr1 hF167 (by first | exact .inl (by assumption) | exact .inr (by omega) | exact .inl (.inl rfl))
   have hK157_171 := hK157.fr hF167 (by simp)
   refine V.eh trivial ?_
   refine V.pz h164 [] 1 0 [] fun a h172 => k141 _ _ ?_
   have h173 := h172.only [(0, .pointer (some ⟨t, 0, none⟩))]
   refine V.sg fun K174 k175 => ?_
   refine V.run h173 [(3, .b hB_168 4), (0, .i ((T1.n : Int) - 1))] 7 50 55 [(54, .int .i64 ((T1.n : Int) - 1)), (56, .pointer (some ⟨t, 4, none⟩))] fun a h179 => ?_
   refine V.go (V.stn t 4 (.int .i64 ((T1.n : Int) - 1)) [.int .i64 ((T1.n : Int) - 1)] h179.e h179.e rfl rfl (by kernel_rfl) hB_168 (by simp) [.int .u64 (T1.seed : Int), .slice (some ⟨gA, 0, none⟩) T1.a.length T1.a.length, .slice none 0 0, .int .i64 (T1.moved : Int), .int .i64 ((T1.n : Int) - 1)] rfl ?_)
   intro w176 hB177 hF178 hsw176
   have hE_180 := hE_169.tr1 hF178 (by first | exact .inl (by assumption) | exact .inr (by omega) | exact .inl (.inl rfl))
   have hK157_182 := hK157_171.fr hF178 (by simp)
   have hR166_183 := hR166.fr1 hF178 (by omega)
   refine V.nt (k175 _ _ ?_)
   refine V.seq fun K184 k185 => ?_
   refine V.sr h179 [(4, .b hB177 1)] 57 62 [(8, .int .i64 ((T1.a.length : Nat) : Int))] fun a h188 => ?_
   refine V.sg fun K189 k190 => ?_
   refine V.run h188 [] 1 1 0 [(63, .pointer (some ⟨t, 0, none⟩))] fun a h191 => ?_
   refine V.cl h191 (Go.Proofs.enters_of Tryz.func82 (by kernel_rfl) rfl) (moves_N w176 t T1.seed T1.a.length 0 0 gA 0 (.int .i64 (T1.moved : Int)) (.int .i64 ((T1.n : Int) - 1)) hB177) ?_
   rintro _ w193 ⟨rfl, hF192⟩
   refine ⟨_, rfl, fun a h194 => ?_⟩
   have hsw193 := hF192.size
   have hE_195 := hE_180.tr0 hF192
   have hK157_197 := hK157_182.fr0 hF192
   have hR166_198 := hR166_183.fr0 hF192
   have hB177_199 := hB177.fr0 hF192
   refine V.run h194 [] 6 65 69 [(70, .bool (decide (((T1.a.length : Nat) : Int) > 4)))] fun a h200 => ?_
   by_cases hg201 : ((T1.a.length : Nat) : Int) > 4
   ·
    have h202 := h200.kt 70 hg201
    refine V.re h202 [(3, .b hB177_199 4), (1, .q (.int .i64 (((T1.a.length : Nat) : Int) / 8)) (V.quo_i64 (by omega) (by omega) (by omega)))] 71 77 [(78, .bool (decide (((T1.n : Int) - 1) < (((T1.a.length : Nat) : Int) / 8))))] fun a h203 => k190 _ _ ?_
    refine V.cp h203 (((T1.n : Int) - 1) < (((T1.a.length : Nat) : Int) / 8)) (fun ht204 => ?_) (fun ht204 => ?_)
    ·
     refine V.rg ?_
     refine V.run h203 [(2, .quoN T1.a.length 2)] 3 80 80 [(79, .pointer (some ⟨t, 0, none⟩)), (81, .int .i64 ((T1.a.length / 2 : Nat) : Int))] fun a h205 => ?_
     have hu2 : rm1T T1 k = ({ T1 with a := rmV T1.a (bkt T1.seed T1.a.length k) j, n := T1.n - 1 } : Tb EntV) := by (unfold rm1T; rw [hf]; simp)
     have hup := (rm1T_ok hok1 hm1 k (by rw [hf])).1
     rw [hu2] at hup
     have hN206 : TabN 122 118 117 itI w193 (gh (gr H w w21) w21) av t gA (vsA.set (((bkt T1.seed T1.a.length k : Nat) : Int).toNat) (.slice (some ⟨g151, 0, none⟩) ((T1.a.getD (bkt T1.seed T1.a.length k) []).length - 1) c136)) ({ T1 with a := rmV T1.a (bkt T1.seed T1.a.length k) j, n := T1.n - 1 } : Tb EntV) := TabN.mk2 hB177_199 hR166_198 (by simpa [rmV] using hK157_197) (mem3 (by simp) (by simp) (by intro k hk; simp [hk])) hne ⟨.inl hpt.1, hpt.2⟩ ⟨.inl hpg.1, hpg.2⟩ rfl (rmV_length _ _ _).symm rfl (by show ((T1.n : Int) - 1) = ((T1.n - 1 : Nat) : Int); omega) rfl
     refine V.cl h205 (Go.Proofs.enters_of Tryz.func84 (by kernel_rfl) rfl) (start_N w193 (gh (gr H w w21) w21) av t gA _ ({ T1 with a := rmV T1.a (bkt T1.seed T1.a.length k) j, n := T1.n - 1 } : Tb EntV) hup hN206 (T1.a.length / 2) hb0 (by omega) (by omega)) ?_
     rintro _ w209 ⟨rfl, hT207, hfp208⟩
     refine ⟨_, rfl, fun a h210 => ?_⟩
     have hsw209 := hfp208.size
     have hE_211 := hE_195.trP hfp208 (fun k hk => hk.1.imp (fun h => ⟨h, hk.2⟩) id)
     refine V.nt (k185 _ _ ?_)
     refine V.sr h210 [] 1 0 [(4, .bool true)] fun a h214 => ?_
     refine V.ret ?_
     refine V.r1 h214 (.bool true) ?_
     have hst : delT T k = shrT (rm1T T1 k) := by (unfold delT; rw [← hT1]; unfold del1T; rw [hf, if_pos rfl])
     rw [hst, hu2]
     have hsh : shrT ({ T1 with a := rmV T1.a (bkt T1.seed T1.a.length k) j, n := T1.n - 1 } : Tb EntV) = startT ({ T1 with a := rmV T1.a (bkt T1.seed T1.a.length k) j, n := T1.n - 1 } : Tb EntV) (T1.a.length / 2) := by (unfold shrT; rw [if_pos ⟨hb1, by show 4 < (rmV T1.a (bkt T1.seed T1.a.length k) j).length; rw [rmV_length]; omega, by show T1.n - 1 < (rmV T1.a (bkt T1.seed T1.a.length k) j).length / 8; rw [rmV_length]; omega⟩]; show startT _ ((rmV T1.a (bkt T1.seed T1.a.length k) j).length / 2) = _; rw [rmV_length])
     rw [hsh]
     exact ⟨by rw [hf], ((hT207.gr2 (by omega)).gr3 (by omega)), ((hFPE.gr hE_211))⟩
    ·
     refine V.skip ?_
     refine V.then_n (k185 _ _ ?_)
     refine V.sr h203 [] 1 0 [(4, .bool true)] fun a h217 => ?_
     refine V.ret ?_
     refine V.r1 h217 (.bool true) ?_
     have hst : delT T k = shrT (rm1T T1 k) := by (unfold delT; rw [← hT1]; unfold del1T; rw [hf, if_pos rfl])
     have hu2 : rm1T T1 k = ({ T1 with a := rmV T1.a (bkt T1.seed T1.a.length k) j, n := T1.n - 1 } : Tb EntV) := by (unfold rm1T; rw [hf]; simp)
     have hup := (rm1T_ok hok1 hm1 k (by rw [hf])).1
     rw [hu2] at hup
     rw [hst, hu2]
     have hsh : shrT ({ T1 with a := rmV T1.a (bkt T1.seed T1.a.length k) j, n := T1.n - 1 } : Tb EntV) = ({ T1 with a := rmV T1.a (bkt T1.seed T1.a.length k) j, n := T1.n - 1 } : Tb EntV) := by (unfold shrT; rw [if_neg]; rintro ⟨_, h1, h2⟩; (have h3 : 4 < (rmV T1.a (bkt T1.seed T1.a.length k) j).length := h1); (have h4 : T1.n - 1 < (rmV T1.a (bkt T1.seed T1.a.length k) j).length / 8 := h2); rw [rmV_length] at h3 h4; omega)
     rw [hsh]
     exact ⟨by rw [hf], ((TabN.fin (T := ({ T1 with a := rmV T1.a (bkt T1.seed T1.a.length k) j, n := T1.n - 1 } : Tb EntV)) hup hb0 hB177_199 hR166_198 (by have h := hK157_197; rw [List.append_nil, List.append_nil] at h; exact h) (mem3 (l := (b103 :: t :: gA :: av)) (by simp) (by simp) (by intro k hk; simp [hk])) (by first | assumption | exact Ne.symm (by assumption) | omega) hpt ⟨.inl hpg.1, hpg.2⟩ rfl (rmV_length _ _ _).symm rfl (by show ((T1.n : Int) - 1) = ((T1.n - 1 : Nat) : Int); omega) rfl).gr3 (by omega)), ((hFPE.gr hE_195))⟩
   ·
    have h218 := h200.kf 70 hg201
    refine V.re h218 [] 71 77 [(78, .bool false)] fun a h219 => k190 _ _ ?_
    refine V.cf h219 ?_
    refine V.skip ?_
    refine V.then_n (k185 _ _ ?_)
    refine V.sr h219 [] 1 0 [(4, .bool true)] fun a h222 => ?_
    refine V.ret ?_
    refine V.r1 h222 (.bool true) ?_
    have hst : delT T k = shrT (rm1T T1 k) := by (unfold delT; rw [← hT1]; unfold del1T; rw [hf, if_pos rfl])
    have hu2 : rm1T T1 k = ({ T1 with a := rmV T1.a (bkt T1.seed T1.a.length k) j, n := T1.n - 1 } : Tb EntV) := by (unfold rm1T; rw [hf]; simp)
    have hup := (rm1T_ok hok1 hm1 k (by rw [hf])).1
    rw [hu2] at hup
    rw [hst, hu2]
    have hsh : shrT ({ T1 with a := rmV T1.a (bkt T1.seed T1.a.length k) j, n := T1.n - 1 } : Tb EntV) = ({ T1 with a := rmV T1.a (bkt T1.seed T1.a.length k) j, n := T1.n - 1 } : Tb EntV) := by (unfold shrT; rw [if_neg]; rintro ⟨_, h1, h2⟩; (have h3 : 4 < (rmV T1.a (bkt T1.seed T1.a.length k) j).length := h1); (have h4 : T1.n - 1 < (rmV T1.a (bkt T1.seed T1.a.length k) j).length / 8 := h2); rw [rmV_length] at h3 h4; omega)
    rw [hsh]
    exact ⟨by rw [hf], ((TabN.fin (T := ({ T1 with a := rmV T1.a (bkt T1.seed T1.a.length k) j, n := T1.n - 1 } : Tb EntV)) hup hb0 hB177_199 hR166_198 (by have h := hK157_197; rw [List.append_nil, List.append_nil] at h; exact h) (mem3 (l := (b103 :: t :: gA :: av)) (by simp) (by simp) (by intro k hk; simp [hk])) (by first | assumption | exact Ne.symm (by assumption) | omega) hpt ⟨.inl hpg.1, hpg.2⟩ rfl (rmV_length _ _ _).symm rfl (by show ((T1.n : Int) - 1) = ((T1.n - 1 : Nat) : Int); omega) rfl).gr3 (by omega)), ((hFPE.gr hE_195))⟩
  ·
   have hb1 : T1.b.length ≠ 0 := fun h => hb0 (List.eq_nil_of_length_eq_zero h)
   obtain ⟨hB, hRA, hRB, hlA, hlB, hK, hne, hne2, hne3, hpt, hpg, hph⟩ := hN
   replace hK := hK.toH
   have hltt := hB.lt
   have hltg := hRA.lt
   have hltg2 := hRB.lt
   have hE : FrP (gp (gr H w w21) av) w21 w21 := FrP.refl _ _
   have hK0 : ∀ k ∈ av, k < w21.heap.size := fun k hk => hK.avl k (by simp [hk])
   obtain ⟨hsd, hpa, hla, hlb, hmv, hmz, hnn, hcn, hks⟩ := (show T1.Ok from hok1)
   have hbl := hok1.bl
   have hFPE := hFP_23
   refine V.cl (av := #[.pointer (some ⟨t, 0, none⟩), .string k]) h26 (Go.Proofs.enters_of Tryz.func70 (by kernel_rfl) rfl) (by have h := find_any w21 (gr H w w21) (av) t T1 hT19q k hkz; rw [hf] at h; exact h) ?_
   rintro _ w224 ⟨rfl, hF223⟩
   refine ⟨_, rfl, fun a h225 => ?_⟩
   have hsw224 := hF223.size
   have hB_226 := hB.fr0 hF223
   have hRA_227 := hRA.fr0 hF223
   have hRB_228 := hRB.fr0 hF223
   have hK_229 := hK.fr0 hF223
   have hE_230 := hE.tr0 hF223
   have hbkl := bkt_lt T1.seed k (n := T1.a.length) (by omega)
   refine V.run h225 [] 3 14 14 [(18, .agg #[.int .i64 0, .int .i64 ((bkt T1.seed T1.a.length k : Nat) : Int), .int .i64 (j : Int)]), (19, .bool true)] fun a h235 => ?_
   refine V.go (V.mk [] trivial (by kernel_rfl) [.int .i64 0, .int .i64 0, .int .i64 0] 113 (fun b => .pointer (some ⟨b, 0, none⟩)) (by kernel_rfl) ?_)
   intro w232 b231 heb231 hB233 hF234 hsb231
   have hB_236 := hB_226.fr0 hF234
   have hRA_237 := hRA_227.fr0 hF234
   have hRB_238 := hRB_228.fr0 hF234
   have hK_239 := hK_229.alloc hF234 heb231 (by omega)
   have hE_240 := hE_230.tr0 hF234
   refine V.pt h235 fun a h241 => ?_
   refine V.go (V.stn b231 0 (.agg #[.int .i64 0, .int .i64 ((bkt T1.seed T1.a.length k : Nat) : Int), .int .i64 (j : Int)]) [.int .i64 0, .int .i64 ((bkt T1.seed T1.a.length k : Nat) : Int), .int .i64 (j : Int)] h241.e h241.e rfl rfl (by kernel_rfl) hB233 (by simp) [.int .i64 0, .int .i64 ((bkt T1.seed T1.a.length k : Nat) : Int), .int .i64 (j : Int)] rfl ?_)
   intro w242 hB243 hF244 hsw242
   have hB_245 := hB_236.fr1 hF244 (by omega)
   have hRA_246 := hRA_237.fr1 hF244 (by omega)
   have hRB_247 := hRB_238.fr1 hF244 (by omega)
   have hK_248 := hK_239.fr hF244 (by simp)
   have hE_249 := hE_240.tr1 hF244 (by first | exact .inl (by assumption) | exact .inr (by omega) | exact .inl (.inl rfl))
   refine V.re h241 [] 1 0 [(6, .bool true)] fun a h250 => k25 _ _ ?_
   refine V.seq fun K251 k252 => ?_
   refine V.sr h250 [] 20 20 [(21, .bool false)] fun a h255 => ?_
   refine V.cf h255 ?_
   refine V.skip ?_
   refine V.then_n (k252 _ _ ?_)
   refine V.seq fun K256 k257 => ?_
   have hbq := hbl (bkt T1.seed T1.a.length k)
   refine V.pl [([0,1,2,3,4,5,6,7,8,9,10,11],none)] fun w258 hF259 hsw258 => ?_
   have hB_260 := hB_245.fr0 hF259
   have hRA_261 := hRA_246.fr0 hF259
   have hRB_262 := hRB_247.fr0 hF259
   have hK_263 := hK_248.fr0 hF259
   have hE_264 := hE_249.tr0 hF259
   have hB243_265 := hB243.fr0 hF259
   obtain ⟨A266, c267, hv268⟩ := hK_263.getA hlA (i := (bkt T1.seed T1.a.length k)) (by omega) nilS
   have hS269 := hK_263.slA hlA (i := (bkt T1.seed T1.a.length k)) (by omega) hv268
   refine V.pz h255 [(2, .b hB243_265 0), (3, .b hB_260 1), (1, .b hB243_265 1), (0, .ix gA 0 T1.a.length T1.a.length .i64 ((bkt T1.seed T1.a.length k : Nat) : Int) 1 rfl), (0, .l ⟨gA, 0 + ((bkt T1.seed T1.a.length k : Nat) : Int).toNat * 1, none⟩ (.slice A266 ((T1.a.getD (bkt T1.seed T1.a.length k) []).length) c267) ((hRA_261.at (bkt T1.seed T1.a.length k) nilS (by omega)).trans (congrArg some hv268)))] 22 32 [(7, .slice A266 ((T1.a.getD (bkt T1.seed T1.a.length k) []).length) c267)] fun a h270 => k257 _ _ ?_
   refine V.seq fun K271 k272 => ?_
   refine V.pl [([0,1,2,3,4,5,6,7,8,9,10,11,12,13,14],some (15,[2,6,8])),([16],some (17,[])),([],none)] fun w273 hF274 hsw273 => ?_
   have hB_275 := hB_260.fr0 hF274
   have hRA_276 := hRA_261.fr0 hF274
   have hRB_277 := hRB_262.fr0 hF274
   have hK_278 := hK_263.fr0 hF274
   have hE_279 := hE_264.tr0 hF274
   have hB243_280 := hB243_265.fr0 hF274
   refine V.pe h270 [(2, .b hB243_280 0), (3, .b hB_275 1), (1, .b hB243_280 1), (2, .b hB243_280 2), (1, .b hB243_280 2), (0, .i ((j : Int) + 1))] 33 46 [(34, .pointer (some ⟨b231, 0, none⟩)), (38, .pointer (some ⟨t, 1, none⟩)), (39, .slice (some ⟨gA, 0, none⟩) T1.a.length T1.a.length), (40, .pointer (some ⟨b231, 1, none⟩)), (41, .int .i64 ((bkt T1.seed T1.a.length k : Nat) : Int)), (42, .slice A266 ((T1.a.getD (bkt T1.seed T1.a.length k) []).length) c267), (44, .int .i64 (j : Int)), (47, .int .i64 ((j : Int) + 1))] fun a h282 => ?_
   obtain ⟨g283, hAe, hO284, hc285, ho286⟩ := hK_278.ownA hlA (i := (bkt T1.seed T1.a.length k)) (by omega) hv268 (by omega)
   rw [hAe] at hv268
   refine V.cl (av := #[.slice A266 ((T1.a.getD (bkt T1.seed T1.a.length k) []).length) c267, .int .i64 (j : Int), .int .i64 ((j : Int) + 1)]) h282 (Go.Proofs.enters_of Tryz.func87 (by kernel_rfl) rfl) (by (rw [hAe]; exact delete_any w273 g283 c267 j (T1.a.getD (bkt T1.seed T1.a.length k) []) hO284 (by omega) hc285 (by omega))) ?_
   rintro _ w290 ⟨rfl, hOr287, hF288⟩
   refine ⟨_, rfl, fun a h291 => ?_⟩
   have hsw290 := hF288.size
   have hB_292 := hB_275.fr hF288 (fun hm => (ho286 _ hm).1 (by simp))
   have hRA_293 := hRA_276.fr hF288 (fun hm => (ho286 _ hm).1 (by simp))
   have hRB_294 := hRB_277.fr hF288 (fun hm => (ho286 _ hm).1 (by simp))
   have hE_295 := hE_279.tr hF288 (fun k hk => ((ho286 k hk).2).imp (fun h => ⟨h, fun hm => (ho286 k hk).1 (by simp [hm])⟩) id)
   have hB243_296 := hB243_280.fr hF288 (fun hm => (ho286 _ hm).1 (by simp))
   have hK289 := hK_278.setA hlA (i := (bkt T1.seed T1.a.length k)) (by omega) hv268 hF288 hOr287 (.inr (by omega))
   refine V.eh ⟨(fun _ => held_blk (n := 1) (hx := (h282.e (v := (.pointer (some ⟨b231, 0, none⟩))))) hB243_280 hB243_296 (by kernel_rfl) rfl (by simp only [List.length]; omega)), (fun _ => held_blk (n := 1) (hx := (h282.e (v := (.pointer (some ⟨t, 1, none⟩))))) hB_275 hB_292 (by kernel_rfl) rfl (by simp only [List.length]; omega)), (fun _ => held_blk (n := 1) (hx := (h282.e (v := (.pointer (some ⟨b231, 1, none⟩))))) hB243_280 hB243_296 (by kernel_rfl) rfl (by simp only [List.length]; omega))⟩ ?_
   refine V.pe h291 [(0, .ix gA 0 T1.a.length T1.a.length .i64 ((bkt T1.seed T1.a.length k : Nat) : Int) 1 rfl)] 1 0 [(49, .pointer (some ⟨gA, 0 + ((bkt T1.seed T1.a.length k : Nat) : Int).toNat * 1, none⟩))] fun a h297 => ?_
   refine V.go (V.strow (enc := idV) gA (((bkt T1.seed T1.a.length k : Nat) : Int).toNat) (.slice (some ⟨g283, 0, none⟩) ((T1.a.getD (bkt T1.seed T1.a.length k) []).length - 1) c267) h297.e h297.e rfl rfl (by kernel_rfl) hRA_293 (by first | omega | (simp only [List.length_set, List.length_replicate]; omega)) ?_)
   intro w298 hR299 hF300 hsw298
   have hB_301 := hB_292.fr1 hF300 (by omega)
   have hRB_302 := hRB_294.fr1 hF300 (by omega)
   have hE_303 := hE_295.tr1 hF300 (by first | exact .inl (by assumption) | exact .inr (by omega) | exact .inl (.inl rfl))
   have hK289_305 := hK289.fr hF300 (by simp)
   refine V.eh trivial ?_
   refine V.pz h297 [] 1 0 [] fun a h306 => k272 _ _ ?_
   have h307 := h306.only [(0, .pointer (some ⟨t, 0, none⟩))]
   refine V.sg fun K308 k309 => ?_
   refine V.run h307 [(3, .b hB_301 4), (0, .i ((T1.n : Int) - 1))] 7 50 55 [(54, .int .i64 ((T1.n : Int) - 1)), (56, .pointer (some ⟨t, 4, none⟩))] fun a h313 => ?_
   refine V.go (V.stn t 4 (.int .i64 ((T1.n : Int) - 1)) [.int .i64 ((T1.n : Int) - 1)] h313.e h313.e rfl rfl (by kernel_rfl) hB_301 (by simp) [.int .u64 (T1.seed : Int), .slice (some ⟨gA, 0, none⟩) T1.a.length T1.a.length, .slice (some ⟨gB, 0, none⟩) T1.b.length T1.b.length, .int .i64 (T1.moved : Int), .int .i64 ((T1.n : Int) - 1)] rfl ?_)
   intro w310 hB311 hF312 hsw310
   have hRB_314 := hRB_302.fr1 hF312 (by omega)
   have hE_315 := hE_303.tr1 hF312 (by first | exact .inl (by assumption) | exact .inr (by omega) | exact .inl (.inl rfl))
   have hK289_317 := hK289_305.fr hF312 (by simp)
   have hR299_318 := hR299.fr1 hF312 (by omega)
   refine V.nt (k309 _ _ ?_)
   refine V.seq fun K319 k320 => ?_
   refine V.sr h313 [(4, .b hB311 1)] 57 62 [(8, .int .i64 ((T1.a.length : Nat) : Int))] fun a h323 => ?_
   refine V.sg fun K324 k325 => ?_
   refine V.run h323 [] 1 1 0 [(63, .pointer (some ⟨t, 0, none⟩))] fun a h326 => ?_
   refine V.cl h326 (Go.Proofs.enters_of Tryz.func82 (by kernel_rfl) rfl) (moves_M w310 t T1.seed T1.a.length T1.b.length 0 gA gB (.int .i64 (T1.moved : Int)) (.int .i64 ((T1.n : Int) - 1)) hB311) ?_
   rintro _ w328 ⟨rfl, hF327⟩
   refine ⟨_, rfl, fun a h329 => ?_⟩
   have hsw328 := hF327.size
   have hRB_330 := hRB_314.fr0 hF327
   have hE_331 := hE_315.tr0 hF327
   have hK289_333 := hK289_317.fr0 hF327
   have hR299_334 := hR299_318.fr0 hF327
   have hB311_335 := hB311.fr0 hF327
   refine V.re h329 [] 65 77 [(78, .bool false)] fun a h336 => k325 _ _ ?_
   refine V.cf h336 ?_
   refine V.skip ?_
   refine V.then_n (k320 _ _ ?_)
   refine V.sr h336 [] 1 0 [(4, .bool true)] fun a h339 => ?_
   refine V.ret ?_
   refine V.r1 h339 (.bool true) ?_
   have hst : delT T k = shrT (rm1T T1 k) := by (unfold delT; rw [← hT1]; unfold del1T; rw [hf, if_pos rfl])
   have hu2 : rm1T T1 k = ({ T1 with a := rmV T1.a (bkt T1.seed T1.a.length k) j, n := T1.n - 1 } : Tb EntV) := by (unfold rm1T; rw [hf]; simp)
   have hup := (rm1T_ok hok1 hm1 k (by rw [hf])).1
   rw [hu2] at hup
   rw [hst, hu2]
   have hsh : shrT ({ T1 with a := rmV T1.a (bkt T1.seed T1.a.length k) j, n := T1.n - 1 } : Tb EntV) = ({ T1 with a := rmV T1.a (bkt T1.seed T1.a.length k) j, n := T1.n - 1 } : Tb EntV) := by (unfold shrT; rw [if_neg]; rintro ⟨h0, _⟩; exact hb1 (by first | exact h0 | (have h1 : (rmV T1.b (bkt T1.seed T1.b.length k) j).length = 0 := h0; rwa [rmV_length] at h1)))
   rw [hsh]
   exact ⟨by rw [hf], ((TabM.fin (T := ({ T1 with a := rmV T1.a (bkt T1.seed T1.a.length k) j, n := T1.n - 1 } : Tb EntV)) hup hb0 hB311_335 hR299_334 hRB_330 (by first | exact hlA | (simp only [List.length_set]; exact hlA)) hK289_333 (mem4 (l := (b231 :: t :: gA :: gB :: av)) (by simp) (by simp) (by simp) (by intro k hk; simp [hk])) (by first | assumption | omega) (by first | assumption | omega) (by first | assumption | omega) hpt ⟨.inl hpg.1, hpg.2⟩ ⟨.inl hph.1, hph.2⟩ rfl (rmV_length _ _ _).symm rfl (by show ((T1.n : Int) - 1) = ((T1.n - 1 : Nat) : Int); omega) rfl rfl rfl).gr3 (by omega)), ((hFPE.gr hE_331))⟩
 ·
  rcases hT19q.2 with ⟨hb0, gA, vsA, hN⟩ | ⟨hb0, gA, gB, vsA, vsB, hN⟩
  ·
   exact absurd (by rw [hb0]; rfl) hbn
  ·
   have hb1 : T1.b.length ≠ 0 := fun h => hb0 (List.eq_nil_of_length_eq_zero h)
   obtain ⟨hB, hRA, hRB, hlA, hlB, hK, hne, hne2, hne3, hpt, hpg, hph⟩ := hN
   replace hK := hK.toH
   have hltt := hB.lt
   have hltg := hRA.lt
   have hltg2 := hRB.lt
   have hE : FrP (gp (gr H w w21) av) w21 w21 := FrP.refl _ _
   have hK0 : ∀ k ∈ av, k < w21.heap.size := fun k hk => hK.avl k (by simp [hk])
   obtain ⟨hsd, hpa, hla, hlb, hmv, hmz, hnn, hcn, hks⟩ := (show T1.Ok from hok1)
   have hbl := hok1.bl
   have hFPE := hFP_23
   refine V.cl (av := #[.pointer (some ⟨t, 0, none⟩), .string k]) h26 (Go.Proofs.enters_of Tryz.func70 (by kernel_rfl) rfl) (by have h := find_any w21 (gr H w w21) (av) t T1 hT19q k hkz; rw [hf] at h; exact h) ?_
   rintro _ w341 ⟨rfl, hF340⟩
   refine ⟨_, rfl, fun a h342 => ?_⟩
   have hsw341 := hF340.size
   have hB_343 := hB.fr0 hF340
   have hRA_344 := hRA.fr0 hF340
   have hRB_345 := hRB.fr0 hF340
   have hK_346 := hK.fr0 hF340
   have hE_347 := hE.tr0 hF340
   have hbkl := bkt_lt T1.seed k (n := T1.b.length) (by omega)
   refine V.run h342 [] 3 14 14 [(18, .agg #[.int .i64 1, .int .i64 ((bkt T1.seed T1.b.length k : Nat) : Int), .int .i64 (j : Int)]), (19, .bool true)] fun a h352 => ?_
   refine V.go (V.mk [] trivial (by kernel_rfl) [.int .i64 0, .int .i64 0, .int .i64 0] 113 (fun b => .pointer (some ⟨b, 0, none⟩)) (by kernel_rfl) ?_)
   intro w349 b348 heb348 hB350 hF351 hsb348
   have hB_353 := hB_343.fr0 hF351
   have hRA_354 := hRA_344.fr0 hF351
   have hRB_355 := hRB_345.fr0 hF351
   have hK_356 := hK_346.alloc hF351 heb348 (by omega)
   have hE_357 := hE_347.tr0 hF351
   refine V.pt h352 fun a h358 => ?_
   refine V.go (V.stn b348 0 (.agg #[.int .i64 1, .int .i64 ((bkt T1.seed T1.b.length k : Nat) : Int), .int .i64 (j : Int)]) [.int .i64 1, .int .i64 ((bkt T1.seed T1.b.length k : Nat) : Int), .int .i64 (j : Int)] h358.e h358.e rfl rfl (by kernel_rfl) hB350 (by simp) [.int .i64 1, .int .i64 ((bkt T1.seed T1.b.length k : Nat) : Int), .int .i64 (j : Int)] rfl ?_)
   intro w359 hB360 hF361 hsw359
   have hB_362 := hB_353.fr1 hF361 (by omega)
   have hRA_363 := hRA_354.fr1 hF361 (by omega)
   have hRB_364 := hRB_355.fr1 hF361 (by omega)
   have hK_365 := hK_356.fr hF361 (by simp)
   have hE_366 := hE_357.tr1 hF361 (by first | exact .inl (by assumption) | exact .inr (by omega) | exact .inl (.inl rfl))
   refine V.re h358 [] 1 0 [(6, .bool true)] fun a h367 => k25 _ _ ?_
   refine V.seq fun K368 k369 => ?_
   refine V.sr h367 [] 20 20 [(21, .bool false)] fun a h372 => ?_
   refine V.cf h372 ?_
   refine V.skip ?_
   refine V.then_n (k369 _ _ ?_)
   refine V.seq fun K373 k374 => ?_
   have hbq := hbl (bkt T1.seed T1.b.length k)
   refine V.pl [([0,1,2,3,4,5,6,7,8,9,10,11],none)] fun w375 hF376 hsw375 => ?_
   have hB_377 := hB_362.fr0 hF376
   have hRA_378 := hRA_363.fr0 hF376
   have hRB_379 := hRB_364.fr0 hF376
   have hK_380 := hK_365.fr0 hF376
   have hE_381 := hE_366.tr0 hF376
   have hB360_382 := hB360.fr0 hF376
   obtain ⟨A383, c384, hv385⟩ := hK_380.getB hlA (i := (bkt T1.seed T1.b.length k)) (by omega) nilS
   have hS386 := hK_380.slB hlA (i := (bkt T1.seed T1.b.length k)) (by omega) hv385
   refine V.pz h372 [(2, .b hB360_382 0), (3, .b hB_377 2), (1, .b hB360_382 1), (0, .ix gB 0 T1.b.length T1.b.length .i64 ((bkt T1.seed T1.b.length k : Nat) : Int) 1 rfl), (0, .l ⟨gB, 0 + ((bkt T1.seed T1.b.length k : Nat) : Int).toNat * 1, none⟩ (.slice A383 ((T1.b.getD (bkt T1.seed T1.b.length k) []).length) c384) ((hRB_379.at (bkt T1.seed T1.b.length k) nilS (by omega)).trans (congrArg some hv385)))] 22 32 [(7, .slice A383 ((T1.b.getD (bkt T1.seed T1.b.length k) []).length) c384)] fun a h387 => k374 _ _ ?_
   refine V.seq fun K388 k389 => ?_
   refine V.pl [([0,1,2,3,4,5,6,7,8,9,10,11,12,13,14],some (15,[2,6,8])),([16],some (17,[])),([],none)] fun w390 hF391 hsw390 => ?_
   have hB_392 := hB_377.fr0 hF391
   have hRA_393 := hRA_378.fr0 hF391
   have hRB_394 := hRB_379.fr0 hF391
   have hK_395 := hK_380.fr0 hF391
   have hE_396 := hE_381.tr0 hF391
   have hB360_397 := hB360_382.fr0 hF391
   refine V.pe h387 [(2, .b hB360_397 0), (3, .b hB_392 2), (1, .b hB360_397 1), (2, .b hB360_397 2), (1, .b hB360_397 2), (0, .i ((j : Int) + 1))] 33 46 [(34, .pointer (some ⟨b348, 0, none⟩)), (38, .pointer (some ⟨t, 2, none⟩)), (39, .slice (some ⟨gB, 0, none⟩) T1.b.length T1.b.length), (40, .pointer (some ⟨b348, 1, none⟩)), (41, .int .i64 ((bkt T1.seed T1.b.length k : Nat) : Int)), (42, .slice A383 ((T1.b.getD (bkt T1.seed T1.b.length k) []).length) c384), (44, .int .i64 (j : Int)), (47, .int .i64 ((j : Int) + 1))] fun a h399 => ?_
   obtain ⟨g400, hAe, hO401, hc402, ho403⟩ := hK_395.ownB hlA (i := (bkt T1.seed T1.b.length k)) (by omega) hv385 (by omega)
   rw [hAe] at hv385
   refine V.cl (av := #[.slice A383 ((T1.b.getD (bkt T1.seed T1.b.length k) []).length) c384, .int .i64 (j : Int), .int .i64 ((j : Int) + 1)]) h399 (Go.Proofs.enters_of Tryz.func87 (by kernel_rfl) rfl) (by (rw [hAe]; exact delete_any w390 g400 c384 j (T1.b.getD (bkt T1.seed T1.b.length k) []) hO401 (by omega) hc402 (by omega))) ?_
   rintro _ w407 ⟨rfl, hOr404, hF405⟩
   refine ⟨_, rfl, fun a h408 => ?_⟩
   have hsw407 := hF405.size
   have hB_409 := hB_392.fr hF405 (fun hm => (ho403 _ hm).1 (by simp))
   have hRA_410 := hRA_393.fr hF405 (fun hm => (ho403 _ hm).1 (by simp))
   have hRB_411 := hRB_394.fr hF405 (fun hm => (ho403 _ hm).1 (by simp))
   have hE_412 := hE_396.tr hF405 (fun k hk => ((ho403 k hk).2).imp (fun h => ⟨h, fun hm => (ho403 k hk).1 (by simp [hm])⟩) id)
   have hB360_413 := hB360_397.fr hF405 (fun hm => (ho403 _ hm).1 (by simp))
   have hK406 := hK_395.setB hlA (i := (bkt T1.seed T1.b.length k)) (by omega) hv385 hF405 hOr404 (.inr (by omega))
   refine V.eh ⟨(fun _ => held_blk (n := 1) (hx := (h399.e (v := (.pointer (some ⟨b348, 0, none⟩))))) hB360_397 hB360_413 (by kernel_rfl) rfl (by simp only [List.length]; omega)), (fun _ => held_blk (n := 1) (hx := (h399.e (v := (.pointer (some ⟨t, 2, none⟩))))) hB_392 hB_409 (by kernel_rfl) rfl (by simp only [List.length]; omega)), (fun _ => held_blk (n := 1) (hx := (h399.e (v := (.pointer (some ⟨b348, 1, none⟩))))) hB360_397 hB360_413 (by kernel_rfl) rfl (by simp only [List.length]; omega))⟩ ?_
   refine V.pe h408 [(0, .ix gB 0 T1.b.length T1.b.length .i64 ((bkt T1.seed T1.b.length k : Nat) : Int) 1 rfl)] 1 0 [(49, .pointer (some ⟨gB, 0 + ((bkt T1.seed T1.b.length k : Nat) : Int).toNat * 1, none⟩))] fun a h414 => ?_
   refine V.go (V.strow (enc := idV) gB (((bkt T1.seed T1.b.length k : Nat) : Int).toNat) (.slice (some ⟨g400, 0, none⟩) ((T1.b.getD (bkt T1.seed T1.b.length k) []).length - 1) c384) h414.e h414.e rfl rfl (by kernel_rfl) hRB_411 (by first | omega | (simp only [List.length_set, List.length_replicate]; omega)) ?_)
   intro w415 hR416 hF417 hsw415
   have hB_418 := hB_409.fr1 hF417 (by omega)
   have hRA_419 := hRA_410.fr1 hF417 (by omega)
   have hE_420 := hE_412.tr1 hF417 (by first | exact .inl (by assumption) | exact .inr (by omega) | exact .inl (.inl rfl))
   have hK406_422 := hK406.fr hF417 (by simp)
   refine V.eh trivial ?_
   refine V.pz h414 [] 1 0 [] fun a h423 => k389 _ _ ?_
   have h424 := h423.only [(0, .pointer (some ⟨t, 0, none⟩))]
   refine V.sg fun K425 k426 => ?_
   refine V.run h424 [(3, .b hB_418 4), (0, .i ((T1.n : Int) - 1))] 7 50 55 [(54, .int .i64 ((T1.n : Int) - 1)), (56, .pointer (some ⟨t, 4, none⟩))] fun a h430 => ?_
   refine V.go (V.stn t 4 (.int .i64 ((T1.n : Int) - 1)) [.int .i64 ((T1.n : Int) - 1)] h430.e h430.e rfl rfl (by kernel_rfl) hB_418 (by simp) [.int .u64 (T1.seed : Int), .slice (some ⟨gA, 0, none⟩) T1.a.length T1.a.length, .slice (some ⟨gB, 0, none⟩) T1.b.length T1.b.length, .int .i64 (T1.moved : Int), .int .i64 ((T1.n : Int) - 1)] rfl ?_)
   intro w427 hB428 hF429 hsw427
   have hRA_431 := hRA_419.fr1 hF429 (by omega)
   have hE_432 := hE_420.tr1 hF429 (by first | exact .inl (by assumption) | exact .inr (by omega) | exact .inl (.inl rfl))
   have hK406_434 := hK406_422.fr hF429 (by simp)
   have hR416_435 := hR416.fr1 hF429 (by omega)
   refine V.nt (k426 _ _ ?_)
   refine V.seq fun K436 k437 => ?_
   refine V.sr h430 [(4, .b hB428 1)] 57 62 [(8, .int .i64 ((T1.a.length : Nat) : Int))] fun a h440 => ?_
   refine V.sg fun K441 k442 => ?_
   refine V.run h440 [] 1 1 0 [(63, .pointer (some ⟨t, 0, none⟩))] fun a h443 => ?_
   refine V.cl h443 (Go.Proofs.enters_of Tryz.func82 (by kernel_rfl) rfl) (moves_M w427 t T1.seed T1.a.length T1.b.length 0 gA gB (.int .i64 (T1.moved : Int)) (.int .i64 ((T1.n : Int) - 1)) hB428) ?_
   rintro _ w445 ⟨rfl, hF444⟩
   refine ⟨_, rfl, fun a h446 => ?_⟩
   have hsw445 := hF444.size
   have hRA_447 := hRA_431.fr0 hF444
   have hE_448 := hE_432.tr0 hF444
   have hK406_450 := hK406_434.fr0 hF444
   have hR416_451 := hR416_435.fr0 hF444
   have hB428_452 := hB428.fr0 hF444
   refine V.re h446 [] 65 77 [(78, .bool false)] fun a h453 => k442 _ _ ?_
   refine V.cf h453 ?_
   refine V.skip ?_
   refine V.then_n (k437 _ _ ?_)
   refine V.sr h453 [] 1 0 [(4, .bool true)] fun a h456 => ?_
   refine V.ret ?_
   refine V.r1 h456 (.bool true) ?_
   have hst : delT T k = shrT (rm1T T1 k) := by (unfold delT; rw [← hT1]; unfold del1T; rw [hf, if_pos rfl])
   have hu2 : rm1T T1 k = ({ T1 with b := rmV T1.b (bkt T1.seed T1.b.length k) j, n := T1.n - 1 } : Tb EntV) := by (unfold rm1T; rw [hf]; simp)
   have hup := (rm1T_ok hok1 hm1 k (by rw [hf])).1
   rw [hu2] at hup
   rw [hst, hu2]
   have hsh : shrT ({ T1 with b := rmV T1.b (bkt T1.seed T1.b.length k) j, n := T1.n - 1 } : Tb EntV) = ({ T1 with b := rmV T1.b (bkt T1.seed T1.b.length k) j, n := T1.n - 1 } : Tb EntV) := by (unfold shrT; rw [if_neg]; rintro ⟨h0, _⟩; exact hb1 (by first | exact h0 | (have h1 : (rmV T1.b (bkt T1.seed T1.b.length k) j).length = 0 := h0; rwa [rmV_length] at h1)))
   rw [hsh]
   exact ⟨by rw [hf], ((TabM.fin (T := ({ T1 with b := rmV T1.b (bkt T1.seed T1.b.length k) j, n := T1.n - 1 } : Tb EntV)) hup (fun h => hb1 (by have := congrArg List.length h; rwa [rmV_length] at this)) hB428_452 hRA_447 hR416_451 (by first | exact hlA | (simp only [List.length_set]; exact hlA)) hK406_450 (mem4 (l := (b348 :: t :: gA :: gB :: av)) (by simp) (by simp) (by simp) (by intro k hk; simp [hk])) (by first | assumption | omega) (by first | assumption | omega) (by first | assumption | omega) hpt ⟨.inl hpg.1, hpg.2⟩ ⟨.inl hph.1, hph.2⟩ rfl rfl rfl (by show ((T1.n : Int) - 1) = ((T1.n - 1 : Nat) : Int); omega) rfl rfl (rmV_length _ _ _).symm).gr3 (by omega)), ((hFPE.gr hE_448))⟩
theorem look_any (w : World) (H : Nat → Prop) (av : List Nat) (t : Nat) (T1 : Tb EntV) (hT : TabX 122 118 117 itI w H av t T1) (k : ByteArray) (hkz : k.size ≤ 9223372036854775807) : Calls Tryz.prog 37 #[.pointer (some ⟨t, 0, none⟩), .string k] w (fun e w' => e = .returned (.tuple #[.agg #[.int .i64 (lookT EntV.nil T1 k).1.kind, .string (lookT EntV.nil T1 k).1.s, .slice (lookT EntV.nil T1 k).1.l.a (lookT EntV.nil T1 k).1.l.n (lookT EntV.nil T1 k).1.l.c, .slice (lookT EntV.nil T1 k).1.z.a (lookT EntV.nil T1 k).1.z.n (lookT EntV.nil T1 k).1.z.c, .slice (lookT EntV.nil T1 k).1.h.a (lookT EntV.nil T1 k).1.h.n (lookT EntV.nil T1 k).1.h.c, .int .i64 (lookT EntV.nil T1 k).1.till], .bool (lookT EntV.nil T1 k).2]) ∧ Fr [] w w') := by
 have hFP := FrP.refl (gp H av) w
 have hF := Fr.refl [] w
 refine V.en 38 Tryz.func37 fun a h1 => ?_
 refine V.sg fun K2 k3 => ?_
 refine V.go (V.mk [] trivial (by kernel_rfl) [.int .i64 0, .string ⟨#[]⟩, .slice none 0 0, .slice none 0 0, .slice none 0 0, .int .i64 0] 79 (fun b => .pointer (some ⟨b, 0, none⟩)) (by kernel_rfl) ?_)
 intro w5 b4 heb4 hB6 hF7 hsb4
 have hT_8 := hT.alloc hF7 heb4 (by omega)
 have hFP_9 := hFP.tr0 hF7
 have hF_10 := hF.new hF7
 refine V.pt h1 fun a h11 => ?_
 refine V.re h11 [] 5 5 [] fun a h12 => k3 _ _ ?_
 refine V.sg fun K13 k14 => ?_
 refine V.go (V.mk [] trivial (by kernel_rfl) [.int .i64 0, .string ⟨#[]⟩, .slice none 0 0, .slice none 0 0, .slice none 0 0, .int .i64 0] 79 (fun b => .pointer (some ⟨b, 0, none⟩)) (by kernel_rfl) ?_)
 intro w16 b15 heb15 hB17 hF18 hsb15
 have hT_19 := hT_8.alloc hF18 heb15 (by omega)
 have hFP_20 := hFP_9.tr0 hF18
 have hF_21 := hF_10.new hF18
 have hB6_22 := hB6.fr0 hF18
 refine V.pt h12 fun a h23 => ?_
 refine V.nt (k14 _ _ ?_)
 refine V.seq fun K24 k25 => ?_
 refine V.sg fun K26 k27 => ?_
 refine V.run h23 [] 1 1 0 [(9, .pointer (some ⟨t, 0, none⟩))] fun a h28 => ?_
 refine V.cl h28 (Go.Proofs.enters_of Tryz.func64 (by kernel_rfl) rfl) (made_any w16 (H) (b15 :: b4 :: av) t (T1) hT_19) ?_
 rintro _ w30 ⟨rfl, hF29⟩
 refine ⟨_, rfl, fun a h31 => ?_⟩
 have hsw30 := hF29.size
 have hT_32 := hT_19.fr0 hF29
 have hFP_33 := hFP_20.tr0 hF29
 have hF_34 := hF_21.new hF29
 have hB6_35 := hB6_22.fr0 hF29
 have hB17_36 := hB17.fr0 hF29
 refine V.re h31 [] 1 0 [(11, .bool false)] fun a h37 => k27 _ _ ?_
 refine V.cf h37 ?_
 refine V.skip ?_
 refine V.then_n (k25 _ _ ?_)
 refine V.sg fun K38 k39 => ?_
 refine V.run h37 [] 2 1 0 [(14, .pointer (some ⟨t, 0, none⟩)), (15, .string k)] fun a h40 => ?_
 have hok1 := hT_32.1
 rcases findT_cases hok1 k with hf | ⟨j, hf, hj⟩ | ⟨hbn, j, hf, hj⟩
 ·
  rcases hT_32.2 with ⟨hb0, gA, vsA, hN⟩ | ⟨hb0, gA, gB, vsA, vsB, hN⟩
  ·
   have hb1 : T1.b.length = 0 := by rw [hb0]; rfl
   obtain ⟨hB, hRA, hlA, hK, hne, hpt, hpg⟩ := hN
   have hnb15t : t ≠ b15 := fun e => hpt.2 (by rw [e]; simp)
   have hnb15gA : gA ≠ b15 := fun e => hpg.2 (by rw [e]; simp)
   have hnb4t : t ≠ b4 := fun e => hpt.2 (by rw [e]; simp)
   have hnb4gA : gA ≠ b4 := fun e => hpg.2 (by rw [e]; simp)
   replace hK := hK.toH
   have hltt := hB.lt
   have hltg := hRA.lt
   have hE : FrP (gp (H) av) w30 w30 := FrP.refl _ _
   have hK0 : ∀ k ∈ av, k < w30.heap.size := fun k hk => hK.avl k (by simp [hk])
   obtain ⟨hsd, hpa, hla, hlb, hmv, hmz, hnn, hcn, hks⟩ := (show T1.Ok from hok1)
   have hbl := hok1.bl
   have hFPE := hFP_33
   refine V.cl (av := #[.pointer (some ⟨t, 0, none⟩), .string k]) h40 (Go.Proofs.enters_of Tryz.func70 (by kernel_rfl) rfl) (by have h := find_any w30 (H) (b15 :: b4 :: av) t T1 hT_32 k hkz; rw [hf] at h; exact h) ?_
   rintro _ w42 ⟨rfl, hF41⟩
   refine ⟨_, rfl, fun a h43 => ?_⟩
   have hsw42 := hF41.size
   have hF_44 := hF_34.new hF41
   have hB6_45 := hB6_35.fr0 hF41
   have hB17_46 := hB17_36.fr0 hF41
   refine V.run h43 [] 3 13 13 [(17, .agg #[.int .i64 0, .int .i64 0, .int .i64 0]), (18, .bool false)] fun a h55 => ?_
   refine V.go (V.mk [] trivial (by kernel_rfl) [.int .i64 0, .int .i64 0, .int .i64 0] 113 (fun b => .pointer (some ⟨b, 0, none⟩)) (by kernel_rfl) ?_)
   intro w52 b51 heb51 hB53 hF54 hsb51
   have hF_56 := hF_44.new hF54
   have hB6_57 := hB6_45.fr0 hF54
   have hB17_58 := hB17_46.fr0 hF54
   refine V.pt h55 fun a h63 => ?_
   refine V.go (V.stn b51 0 (.agg #[.int .i64 0, .int .i64 0, .int .i64 0]) [.int .i64 0, .int .i64 0, .int .i64 0] h63.e h63.e rfl rfl (by kernel_rfl) hB53 (by simp) [.int .i64 0, .int .i64 0, .int .i64 0] rfl ?_)
   intro w64 hB65 hF66 hsw64
   have hF_67 := hF_56.own hF66 (by simp <;> omega)
   have hB6_68 := hB6_57.fr1 hF66 (by omega)
   have hB17_69 := hB17_58.fr1 hF66 (by omega)
   refine V.re h63 [] 1 0 [(8, .bool false)] fun a h74 => k39 _ _ ?_
   refine V.seq fun K75 k76 => ?_
   refine V.seq fun K77 k78 => ?_
   refine V.rr h74 [] 19 19 [(20, .bool true)] fun a h79 => ?_
   refine V.then_n (k78 _ _ ?_)
   refine V.ct h79 ?_
   refine V.sg fun K80 k81 => ?_
   refine V.run h79 [(0, .bs hB17_69 0 [.int .i64 0, .string ⟨#[]⟩, .slice none 0 0, .slice none 0 0, .slice none 0 0, .int .i64 0])] 1 1 0 [(21, .agg #[.int .i64 0, .string ⟨#[]⟩, .slice none 0 0, .slice none 0 0, .slice none 0 0, .int .i64 0])] fun a h85 => ?_
   refine V.go (V.stn b4 0 (.agg #[.int .i64 0, .string ⟨#[]⟩, .slice none 0 0, .slice none 0 0, .slice none 0 0, .int .i64 0]) [.int .i64 0, .string ⟨#[]⟩, .slice none 0 0, .slice none 0 0, .slice none 0 0, .int .i64 0] h85.e h85.e rfl rfl (by kernel_rfl) hB6_68 (by simp) [.int .i64 0, .string ⟨#[]⟩, .slice none 0 0, .slice none 0 0, .slice none 0 0, .int .i64 0] rfl ?_)
   intro w82 hB83 hF84 hsw82
   have hF_86 := hF_67.own hF84 (by simp <;> omega)
   refine V.re h85 [] 1 0 [(5, .bool false)] fun a h92 => k81 _ _ ?_
   refine V.ret (V.then_r ?_)
   refine V.retCT h92.sd rfl _ (h92.e (v := (.pointer (some ⟨b4, 0, none⟩)))) (V.run_loadVar_agg (cs := [.int .i64 0, .string ⟨#[]⟩, .slice none 0 0, .slice none 0 0, .slice none 0 0, .int .i64 0]) (by kernel_rfl) (blk_cells hB83 0 _ rfl)) (h92.e (v := (.bool false))) ?_
   refine ⟨?_, hF_86⟩
   unfold lookT; rw [hf]
   rfl
  ·
   have hb1 : T1.b.length ≠ 0 := fun h => hb0 (List.eq_nil_of_length_eq_zero h)
   obtain ⟨hB, hRA, hRB, hlA, hlB, hK, hne, hne2, hne3, hpt, hpg, hph⟩ := hN
   have hnb15t : t ≠ b15 := fun e => hpt.2 (by rw [e]; simp)
   have hnb15gA : gA ≠ b15 := fun e => hpg.2 (by rw [e]; simp)
   have hnb15gB : gB ≠ b15 := fun e => hph.2 (by rw [e]; simp)
   have hnb4t : t ≠ b4 := fun e => hpt.2 (by rw [e]; simp)
   have hnb4gA : gA ≠ b4 := fun e => hpg.2 (by rw [e]; simp)
   have hnb4gB : gB ≠ b4 := fun e => hph.2 (by rw [e]; simp)
   replace hK := hK.toH
   have hltt := hB.lt
   have hltg := hRA.lt
   have hltg2 := hRB.lt
   have hE : FrP (gp (H) av) w30 w30 := FrP.refl _ _
   have hK0 : ∀ k ∈ av, k < w30.heap.size := fun k hk => hK.avl k (by simp [hk])
   obtain ⟨hsd, hpa, hla, hlb, hmv, hmz, hnn, hcn, hks⟩ := (show T1.Ok from hok1)
   have hbl := hok1.bl
   have hFPE := hFP_33
   refine V.cl (av := #[.pointer (some ⟨t, 0, none⟩), .string k]) h40 (Go.Proofs.enters_of Tryz.func70 (by kernel_rfl) rfl) (by have h := find_any w30 (H) (b15 :: b4 :: av) t T1 hT_32 k hkz; rw [hf] at h; exact h) ?_
   rintro _ w94 ⟨rfl, hF93⟩
   refine ⟨_, rfl, fun a h95 => ?_⟩
   have hsw94 := hF93.size
   have hF_96 := hF_34.new hF93
   have hB6_97 := hB6_35.fr0 hF93
   have hB17_98 := hB17_36.fr0 hF93
   refine V.run h95 [] 3 13 13 [(17, .agg #[.int .i64 0, .int .i64 0, .int .i64 0]), (18, .bool false)] fun a h108 => ?_
   refine V.go (V.mk [] trivial (by kernel_rfl) [.int .i64 0, .int .i64 0, .int .i64 0] 113 (fun b => .pointer (some ⟨b, 0, none⟩)) (by kernel_rfl) ?_)
   intro w105 b104 heb104 hB106 hF107 hsb104
   have hF_109 := hF_96.new hF107
   have hB6_110 := hB6_97.fr0 hF107
   have hB17_111 := hB17_98.fr0 hF107
   refine V.pt h108 fun a h117 => ?_
   refine V.go (V.stn b104 0 (.agg #[.int .i64 0, .int .i64 0, .int .i64 0]) [.int .i64 0, .int .i64 0, .int .i64 0] h117.e h117.e rfl rfl (by kernel_rfl) hB106 (by simp) [.int .i64 0, .int .i64 0, .int .i64 0] rfl ?_)
   intro w118 hB119 hF120 hsw118
   have hF_121 := hF_109.own hF120 (by simp <;> omega)
   have hB6_122 := hB6_110.fr1 hF120 (by omega)
   have hB17_123 := hB17_111.fr1 hF120 (by omega)
   refine V.re h117 [] 1 0 [(8, .bool false)] fun a h129 => k39 _ _ ?_
   refine V.seq fun K130 k131 => ?_
   refine V.seq fun K132 k133 => ?_
   refine V.rr h129 [] 19 19 [(20, .bool true)] fun a h134 => ?_
   refine V.then_n (k133 _ _ ?_)
   refine V.ct h134 ?_
   refine V.sg fun K135 k136 => ?_
   refine V.run h134 [(0, .bs hB17_123 0 [.int .i64 0, .string ⟨#[]⟩, .slice none 0 0, .slice none 0 0, .slice none 0 0, .int .i64 0])] 1 1 0 [(21, .agg #[.int .i64 0, .string ⟨#[]⟩, .slice none 0 0, .slice none 0 0, .slice none 0 0, .int .i64 0])] fun a h140 => ?_
   refine V.go (V.stn b4 0 (.agg #[.int .i64 0, .string ⟨#[]⟩, .slice none 0 0, .slice none 0 0, .slice none 0 0, .int .i64 0]) [.int .i64 0, .string ⟨#[]⟩, .slice none 0 0, .slice none 0 0, .slice none 0 0, .int .i64 0] h140.e h140.e rfl rfl (by kernel_rfl) hB6_122 (by simp) [.int .i64 0, .string ⟨#[]⟩, .slice none 0 0, .slice none 0 0, .slice none 0 0, .int .i64 0] rfl ?_)
   intro w137 hB138 hF139 hsw137
   have hF_141 := hF_121.own hF139 (by simp <;> omega)
   refine V.re h140 [] 1 0 [(5, .bool false)] fun a h148 => k136 _ _ ?_
   refine V.ret (V.then_r ?_)
   refine V.retCT h148.sd rfl _ (h148.e (v := (.pointer (some ⟨b4, 0, none⟩)))) (V.run_loadVar_agg (cs := [.int .i64 0, .string ⟨#[]⟩, .slice none 0 0, .slice none 0 0, .slice none 0 0, .int .i64 0]) (by kernel_rfl) (blk_cells hB138 0 _ rfl)) (h148.e (v := (.bool false))) ?_
   refine ⟨?_, hF_141⟩
   unfold lookT; rw [hf]
   rfl
 ·
  rcases hT_32.2 with ⟨hb0, gA, vsA, hN⟩ | ⟨hb0, gA, gB, vsA, vsB, hN⟩
  ·
   have hb1 : T1.b.length = 0 := by rw [hb0]; rfl
   obtain ⟨hB, hRA, hlA, hK, hne, hpt, hpg⟩ := hN
   have hnb15t : t ≠ b15 := fun e => hpt.2 (by rw [e]; simp)
   have hnb15gA : gA ≠ b15 := fun e => hpg.2 (by rw [e]; simp)
   have hnb4t : t ≠ b4 := fun e => hpt.2 (by rw [e]; simp)
   have hnb4gA : gA ≠ b4 := fun e => hpg.2 (by rw [e]; simp)
   replace hK := hK.toH
   have hltt := hB.lt
   have hltg := hRA.lt
   have hE : FrP (gp (H) av) w30 w30 := FrP.refl _ _
   have hK0 : ∀ k ∈ av, k < w30.heap.size := fun k hk => hK.avl k (by simp [hk])
   obtain ⟨hsd, hpa, hla, hlb, hmv, hmz, hnn, hcn, hks⟩ := (show T1.Ok from hok1)
   have hbl := hok1.bl
   have hFPE := hFP_33
   refine V.cl (av := #[.pointer (some ⟨t, 0, none⟩), .string k]) h40 (Go.Proofs.enters_of Tryz.func70 (by kernel_rfl) rfl) (by have h := find_any w30 (H) (b15 :: b4 :: av) t T1 hT_32 k hkz; rw [hf] at h; exact h) ?_
   rintro _ w150 ⟨rfl, hF149⟩
   refine ⟨_, rfl, fun a h151 => ?_⟩
   have hsw150 := hF149.size
   have hF_152 := hF_34.new hF149
   have hB6_153 := hB6_35.fr0 hF149
   have hB_155 := hB.fr0 hF149
   have hRA_156 := hRA.fr0 hF149
   have hK_157 := hK.fr0 hF149
   have hbkl := bkt_lt T1.seed k (n := T1.a.length) (by omega)
   refine V.run h151 [] 3 13 13 [(17, .agg #[.int .i64 0, .int .i64 ((bkt T1.seed T1.a.length k : Nat) : Int), .int .i64 (j : Int)]), (18, .bool true)] fun a h163 => ?_
   refine V.go (V.mk [] trivial (by kernel_rfl) [.int .i64 0, .int .i64 0, .int .i64 0] 113 (fun b => .pointer (some ⟨b, 0, none⟩)) (by kernel_rfl) ?_)
   intro w160 b159 heb159 hB161 hF162 hsb159
   have hF_164 := hF_152.new hF162
   have hB6_165 := hB6_153.fr0 hF162
   have hB_167 := hB_155.fr0 hF162
   have hRA_168 := hRA_156.fr0 hF162
   have hK_169 := hK_157.alloc hF162 heb159 (by omega)
   refine V.pt h163 fun a h171 => ?_
   refine V.go (V.stn b159 0 (.agg #[.int .i64 0, .int .i64 ((bkt T1.seed T1.a.length k : Nat) : Int), .int .i64 (j : Int)]) [.int .i64 0, .int .i64 ((bkt T1.seed T1.a.length k : Nat) : Int), .int .i64 (j : Int)] h171.e h171.e rfl rfl (by kernel_rfl) hB161 (by simp) [.int .i64 0, .int .i64 ((bkt T1.seed T1.a.length k : Nat) : Int), .int .i64 (j : Int)] rfl ?_)
   intro w172 hB173 hF174 hsw172
   have hF_175 := hF_164.own hF174 (by simp <;> omega)
   have hB6_176 := hB6_165.fr1 hF174 (by omega)
   have hB_178 := hB_167.fr1 hF174 (by omega)
   have hRA_179 := hRA_168.fr1 hF174 (by omega)
   have hK_180 := hK_169.fr hF174 (by simp)
   refine V.re h171 [] 1 0 [(8, .bool true)] fun a h182 => k39 _ _ ?_
   refine V.seq fun K183 k184 => ?_
   refine V.seq fun K185 k186 => ?_
   refine V.rr h182 [] 19 19 [(20, .bool false)] fun a h187 => ?_
   refine V.then_n (k186 _ _ ?_)
   refine V.cf h187 ?_
   refine V.skip ?_
   refine V.then_n (k184 _ _ ?_)
   refine V.seq fun K188 k189 => ?_
   refine V.pl [([0,1,2,3,4,5,6,7,8,9,10,11,12,13,14,15],some (16,[])),([17],none)] fun w190 hF191 hsw190 => ?_
   have hF_192 := hF_175.new hF191
   have hB6_193 := hB6_176.fr0 hF191
   have hB_195 := hB_178.fr0 hF191
   have hRA_196 := hRA_179.fr0 hF191
   have hK_197 := hK_180.fr0 hF191
   have hB173_198 := hB173.fr0 hF191
   obtain ⟨A199, c200, hv201⟩ := hK_197.getA hlA (i := (bkt T1.seed T1.a.length k)) (by omega) nilS
   have hS202 := hK_197.slA hlA (i := (bkt T1.seed T1.a.length k)) (by omega) hv201
   obtain ⟨g203, o204, hA205, hA205l, hA205z⟩ := hS202.addr (by omega)
   obtain ⟨cs206, hok207, hE208⟩ := hS202.els hA205 (j : Int) (by omega) (by omega)
   refine V.pe0 ?_
   refine V.run h187 [(2, .b hB173_198 0), (3, .b hB_195 1), (1, .b hB173_198 1), (0, .ix gA 0 T1.a.length T1.a.length .i64 ((bkt T1.seed T1.a.length k : Nat) : Int) 1 rfl), (0, .l ⟨gA, 0 + ((bkt T1.seed T1.a.length k : Nat) : Int).toNat * 1, none⟩ (.slice A199 ((T1.a.getD (bkt T1.seed T1.a.length k) []).length) c200) ((hRA_196.at (bkt T1.seed T1.a.length k) nilS (by omega)).trans (congrArg some hv201))), (1, .b hB173_198 2), (0, .ix g203 o204 ((T1.a.getD (bkt T1.seed T1.a.length k) []).length) c200 .i64 (j : Int) 7 hA205)] 15 23 35 [(22, .pointer (some ⟨t, 0, none⟩)), (36, .pointer (some ⟨g203, (o204 + (j : Int).toNat * 7) + 1, none⟩))] fun a h209 => ?_
   obtain rfl : cs206 = [.string (at_ itI (T1.a.getD (bkt T1.seed T1.a.length k) []) (j : Int)).1, .int .i64 (at_ itI (T1.a.getD (bkt T1.seed T1.a.length k) []) (j : Int)).2.kind, .string (at_ itI (T1.a.getD (bkt T1.seed T1.a.length k) []) (j : Int)).2.s, .slice (at_ itI (T1.a.getD (bkt T1.seed T1.a.length k) []) (j : Int)).2.l.a (at_ itI (T1.a.getD (bkt T1.seed T1.a.length k) []) (j : Int)).2.l.n (at_ itI (T1.a.getD (bkt T1.seed T1.a.length k) []) (j : Int)).2.l.c, .slice (at_ itI (T1.a.getD (bkt T1.seed T1.a.length k) []) (j : Int)).2.z.a (at_ itI (T1.a.getD (bkt T1.seed T1.a.length k) []) (j : Int)).2.z.n (at_ itI (T1.a.getD (bkt T1.seed T1.a.length k) []) (j : Int)).2.z.c, .slice (at_ itI (T1.a.getD (bkt T1.seed T1.a.length k) []) (j : Int)).2.h.a (at_ itI (T1.a.getD (bkt T1.seed T1.a.length k) []) (j : Int)).2.h.n (at_ itI (T1.a.getD (bkt T1.seed T1.a.length k) []) (j : Int)).2.h.c, .int .i64 (at_ itI (T1.a.getD (bkt T1.seed T1.a.length k) []) (j : Int)).2.till] := hok207
   refine V.se h209 [(0, .ls ⟨g203, (o204 + (j : Int).toNat * 7) + 1, none⟩ [.int .i64 (((at_ itI (T1.a.getD (bkt T1.seed T1.a.length k) []) (j : Int)).2).kind), .string (((at_ itI (T1.a.getD (bkt T1.seed T1.a.length k) []) (j : Int)).2).s), .slice (((at_ itI (T1.a.getD (bkt T1.seed T1.a.length k) []) (j : Int)).2).l.a) (((at_ itI (T1.a.getD (bkt T1.seed T1.a.length k) []) (j : Int)).2).l.n) (((at_ itI (T1.a.getD (bkt T1.seed T1.a.length k) []) (j : Int)).2).l.c), .slice (((at_ itI (T1.a.getD (bkt T1.seed T1.a.length k) []) (j : Int)).2).z.a) (((at_ itI (T1.a.getD (bkt T1.seed T1.a.length k) []) (j : Int)).2).z.n) (((at_ itI (T1.a.getD (bkt T1.seed T1.a.length k) []) (j : Int)).2).z.c), .slice (((at_ itI (T1.a.getD (bkt T1.seed T1.a.length k) []) (j : Int)).2).h.a) (((at_ itI (T1.a.getD (bkt T1.seed T1.a.length k) []) (j : Int)).2).h.n) (((at_ itI (T1.a.getD (bkt T1.seed T1.a.length k) []) (j : Int)).2).h.c), .int .i64 (((at_ itI (T1.a.getD (bkt T1.seed T1.a.length k) []) (j : Int)).2).till)] (hE208.cells 1 _ rfl))] 1 0 [(37, .agg #[.int .i64 (((at_ itI (T1.a.getD (bkt T1.seed T1.a.length k) []) (j : Int)).2).kind), .string (((at_ itI (T1.a.getD (bkt T1.seed T1.a.length k) []) (j : Int)).2).s), .slice (((at_ itI (T1.a.getD (bkt T1.seed T1.a.length k) []) (j : Int)).2).l.a) (((at_ itI (T1.a.getD (bkt T1.seed T1.a.length k) []) (j : Int)).2).l.n) (((at_ itI (T1.a.getD (bkt T1.seed T1.a.length k) []) (j : Int)).2).l.c), .slice (((at_ itI (T1.a.getD (bkt T1.seed T1.a.length k) []) (j : Int)).2).z.a) (((at_ itI (T1.a.getD (bkt T1.seed T1.a.length k) []) (j : Int)).2).z.n) (((at_ itI (T1.a.getD (bkt T1.seed T1.a.length k) []) (j : Int)).2).z.c), .slice (((at_ itI (T1.a.getD (bkt T1.seed T1.a.length k) []) (j : Int)).2).h.a) (((at_ itI (T1.a.getD (bkt T1.seed T1.a.length k) []) (j : Int)).2).h.n) (((at_ itI (T1.a.getD (bkt T1.seed T1.a.length k) []) (j : Int)).2).h.c), .int .i64 (((at_ itI (T1.a.getD (bkt T1.seed T1.a.length k) []) (j : Int)).2).till)])] fun a h210 => ?_
   refine V.go (V.stn b4 0 (.agg #[.int .i64 (((at_ itI (T1.a.getD (bkt T1.seed T1.a.length k) []) (j : Int)).2).kind), .string (((at_ itI (T1.a.getD (bkt T1.seed T1.a.length k) []) (j : Int)).2).s), .slice (((at_ itI (T1.a.getD (bkt T1.seed T1.a.length k) []) (j : Int)).2).l.a) (((at_ itI (T1.a.getD (bkt T1.seed T1.a.length k) []) (j : Int)).2).l.n) (((at_ itI (T1.a.getD (bkt T1.seed T1.a.length k) []) (j : Int)).2).l.c), .slice (((at_ itI (T1.a.getD (bkt T1.seed T1.a.length k) []) (j : Int)).2).z.a) (((at_ itI (T1.a.getD (bkt T1.seed T1.a.length k) []) (j : Int)).2).z.n) (((at_ itI (T1.a.getD (bkt T1.seed T1.a.length k) []) (j : Int)).2).z.c), .slice (((at_ itI (T1.a.getD (bkt T1.seed T1.a.length k) []) (j : Int)).2).h.a) (((at_ itI (T1.a.getD (bkt T1.seed T1.a.length k) []) (j : Int)).2).h.n) (((at_ itI (T1.a.getD (bkt T1.seed T1.a.length k) []) (j : Int)).2).h.c), .int .i64 (((at_ itI (T1.a.getD (bkt T1.seed T1.a.length k) []) (j : Int)).2).till)]) [.int .i64 (((at_ itI (T1.a.getD (bkt T1.seed T1.a.length k) []) (j : Int)).2).kind), .string (((at_ itI (T1.a.getD (bkt T1.seed T1.a.length k) []) (j : Int)).2).s), .slice (((at_ itI (T1.a.getD (bkt T1.seed T1.a.length k) []) (j : Int)).2).l.a) (((at_ itI (T1.a.getD (bkt T1.seed T1.a.length k) []) (j : Int)).2).l.n) (((at_ itI (T1.a.getD (bkt T1.seed T1.a.length k) []) (j : Int)).2).l.c), .slice (((at_ itI (T1.a.getD (bkt T1.seed T1.a.length k) []) (j : Int)).2).z.a) (((at_ itI (T1.a.getD (bkt T1.seed T1.a.length k) []) (j : Int)).2).z.n) (((at_ itI (T1.a.getD (bkt T1.seed T1.a.length k) []) (j : Int)).2).z.c), .slice (((at_ itI (T1.a.getD (bkt T1.seed T1.a.length k) []) (j : Int)).2).h.a) (((at_ itI (T1.a.getD (bkt T1.seed T1.a.length k) []) (j : Int)).2).h.n) (((at_ itI (T1.a.getD (bkt T1.seed T1.a.length k) []) (j : Int)).2).h.c), .int .i64 (((at_ itI (T1.a.getD (bkt T1.seed T1.a.length k) []) (j : Int)).2).till)] h210.e h210.e rfl rfl (by kernel_rfl) hB6_193 (by simp) [.int .i64 (((at_ itI (T1.a.getD (bkt T1.seed T1.a.length k) []) (j : Int)).2).kind), .string (((at_ itI (T1.a.getD (bkt T1.seed T1.a.length k) []) (j : Int)).2).s), .slice (((at_ itI (T1.a.getD (bkt T1.seed T1.a.length k) []) (j : Int)).2).l.a) (((at_ itI (T1.a.getD (bkt T1.seed T1.a.length k) []) (j : Int)).2).l.n) (((at_ itI (T1.a.getD (bkt T1.seed T1.a.length k) []) (j : Int)).2).l.c), .slice (((at_ itI (T1.a.getD (bkt T1.seed T1.a.length k) []) (j : Int)).2).z.a) (((at_ itI (T1.a.getD (bkt T1.seed T1.a.length k) []) (j : Int)).2).z.n) (((at_ itI (T1.a.getD (bkt T1.seed T1.a.length k) []) (j : Int)).2).z.c), .slice (((at_ itI (T1.a.getD (bkt T1.seed T1.a.length k) []) (j : Int)).2).h.a) (((at_ itI (T1.a.getD (bkt T1.seed T1.a.length k) []) (j : Int)).2).h.n) (((at_ itI (T1.a.getD (bkt T1.seed T1.a.length k) []) (j : Int)).2).h.c), .int .i64 (((at_ itI (T1.a.getD (bkt T1.seed T1.a.length k) []) (j : Int)).2).till)] rfl ?_)
   intro w211 hB212 hF213 hsw211
   have hF_214 := hF_192.own hF213 (by simp <;> omega)
   refine V.eh trivial ?_
   refine V.pz h210 [] 1 0 [(5, .bool true)] fun a h220 => k189 _ _ ?_
   refine V.ret ?_
   refine V.retCT h220.sd rfl _ (h220.e (v := (.pointer (some ⟨b4, 0, none⟩)))) (V.run_loadVar_agg (cs := [.int .i64 (((at_ itI (T1.a.getD (bkt T1.seed T1.a.length k) []) (j : Int)).2).kind), .string (((at_ itI (T1.a.getD (bkt T1.seed T1.a.length k) []) (j : Int)).2).s), .slice (((at_ itI (T1.a.getD (bkt T1.seed T1.a.length k) []) (j : Int)).2).l.a) (((at_ itI (T1.a.getD (bkt T1.seed T1.a.length k) []) (j : Int)).2).l.n) (((at_ itI (T1.a.getD (bkt T1.seed T1.a.length k) []) (j : Int)).2).l.c), .slice (((at_ itI (T1.a.getD (bkt T1.seed T1.a.length k) []) (j : Int)).2).z.a) (((at_ itI (T1.a.getD (bkt T1.seed T1.a.length k) []) (j : Int)).2).z.n) (((at_ itI (T1.a.getD (bkt T1.seed T1.a.length k) []) (j : Int)).2).z.c), .slice (((at_ itI (T1.a.getD (bkt T1.seed T1.a.length k) []) (j : Int)).2).h.a) (((at_ itI (T1.a.getD (bkt T1.seed T1.a.length k) []) (j : Int)).2).h.n) (((at_ itI (T1.a.getD (bkt T1.seed T1.a.length k) []) (j : Int)).2).h.c), .int .i64 (((at_ itI (T1.a.getD (bkt T1.seed T1.a.length k) []) (j : Int)).2).till)]) (by kernel_rfl) (blk_cells hB212 0 _ rfl)) (h220.e (v := (.bool true))) ?_
   refine ⟨?_, hF_214⟩
   unfold lookT; rw [hf]
   rfl
  ·
   have hb1 : T1.b.length ≠ 0 := fun h => hb0 (List.eq_nil_of_length_eq_zero h)
   obtain ⟨hB, hRA, hRB, hlA, hlB, hK, hne, hne2, hne3, hpt, hpg, hph⟩ := hN
   have hnb15t : t ≠ b15 := fun e => hpt.2 (by rw [e]; simp)
   have hnb15gA : gA ≠ b15 := fun e => hpg.2 (by rw [e]; simp)
   have hnb15gB : gB ≠ b15 := fun e => hph.2 (by rw [e]; simp)
   have hnb4t : t ≠ b4 := fun e => hpt.2 (by rw [e]; simp)
   have hnb4gA : gA ≠ b4 := fun e => hpg.2 (by rw [e]; simp)
   have hnb4gB : gB ≠ b4 := fun e => hph.2 (by rw [e]; simp)
   replace hK := hK.toH
   have hltt := hB.lt
   have hltg := hRA.lt
   have hltg2 := hRB.lt
   have hE : FrP (gp (H) av) w30 w30 := FrP.refl _ _
   have hK0 : ∀ k ∈ av, k < w30.heap.size := fun k hk => hK.avl k (by simp [hk])
   obtain ⟨hsd, hpa, hla, hlb, hmv, hmz, hnn, hcn, hks⟩ := (show T1.Ok from hok1)
   have hbl := hok1.bl
   have hFPE := hFP_33
   refine V.cl (av := #[.pointer (some ⟨t, 0, none⟩), .string k]) h40 (Go.Proofs.enters_of Tryz.func70 (by kernel_rfl) rfl) (by have h := find_any w30 (H) (b15 :: b4 :: av) t T1 hT_32 k hkz; rw [hf] at h; exact h) ?_
   rintro _ w222 ⟨rfl, hF221⟩
   refine ⟨_, rfl, fun a h223 => ?_⟩
   have hsw222 := hF221.size
   have hF_224 := hF_34.new hF221
   have hB6_225 := hB6_35.fr0 hF221
   have hB_227 := hB.fr0 hF221
   have hRA_228 := hRA.fr0 hF221
   have hK_230 := hK.fr0 hF221
   have hbkl := bkt_lt T1.seed k (n := T1.a.length) (by omega)
   refine V.run h223 [] 3 13 13 [(17, .agg #[.int .i64 0, .int .i64 ((bkt T1.seed T1.a.length k : Nat) : Int), .int .i64 (j : Int)]), (18, .bool true)] fun a h236 => ?_
   refine V.go (V.mk [] trivial (by kernel_rfl) [.int .i64 0, .int .i64 0, .int .i64 0] 113 (fun b => .pointer (some ⟨b, 0, none⟩)) (by kernel_rfl) ?_)
   intro w233 b232 heb232 hB234 hF235 hsb232
   have hF_237 := hF_224.new hF235
   have hB6_238 := hB6_225.fr0 hF235
   have hB_240 := hB_227.fr0 hF235
   have hRA_241 := hRA_228.fr0 hF235
   have hK_243 := hK_230.alloc hF235 heb232 (by omega)
   refine V.pt h236 fun a h245 => ?_
   refine V.go (V.stn b232 0 (.agg #[.int .i64 0, .int .i64 ((bkt T1.seed T1.a.length k : Nat) : Int), .int .i64 (j : Int)]) [.int .i64 0, .int .i64 ((bkt T1.seed T1.a.length k : Nat) : Int), .int .i64 (j : Int)] h245.e h245.e rfl rfl (by kernel_rfl) hB234 (by simp) [.int .i64 0, .int .i64 ((bkt T1.seed T1.a.length k : Nat) : Int), .int .i64 (j : Int)] rfl ?_)
   intro w246 hB247 hF248 hsw246
   have hF_249 := hF_237.own hF248 (by simp <;> omega)
   have hB6_250 := hB6_238.fr1 hF248 (by omega)
   have hB_252 := hB_240.fr1 hF248 (by omega)
   have hRA_253 := hRA_241.fr1 hF248 (by omega)
   have hK_255 := hK_243.fr hF248 (by simp)
   refine V.re h245 [] 1 0 [(8, .bool true)] fun a h257 => k39 _ _ ?_
   refine V.seq fun K258 k259 => ?_
   refine V.seq fun K260 k261 => ?_
   refine V.rr h257 [] 19 19 [(20, .bool false)] fun a h262 => ?_
   refine V.then_n (k261 _ _ ?_)
   refine V.cf h262 ?_
   refine V.skip ?_
   refine V.then_n (k259 _ _ ?_)
   refine V.seq fun K263 k264 => ?_
   refine V.pl [([0,1,2,3,4,5,6,7,8,9,10,11,12,13,14,15],some (16,[])),([17],none)] fun w265 hF266 hsw265 => ?_
   have hF_267 := hF_249.new hF266
   have hB6_268 := hB6_250.fr0 hF266
   have hB_270 := hB_252.fr0 hF266
   have hRA_271 := hRA_253.fr0 hF266
   have hK_273 := hK_255.fr0 hF266
   have hB247_274 := hB247.fr0 hF266
   obtain ⟨A275, c276, hv277⟩ := hK_273.getA hlA (i := (bkt T1.seed T1.a.length k)) (by omega) nilS
   have hS278 := hK_273.slA hlA (i := (bkt T1.seed T1.a.length k)) (by omega) hv277
   obtain ⟨g279, o280, hA281, hA281l, hA281z⟩ := hS278.addr (by omega)
   obtain ⟨cs282, hok283, hE284⟩ := hS278.els hA281 (j : Int) (by omega) (by omega)
   refine V.pe0 ?_
   refine V.run h262 [(2, .b hB247_274 0), (3, .b hB_270 1), (1, .b hB247_274 1), (0, .ix gA 0 T1.a.length T1.a.length .i64 ((bkt T1.seed T1.a.length k : Nat) : Int) 1 rfl), (0, .l ⟨gA, 0 + ((bkt T1.seed T1.a.length k : Nat) : Int).toNat * 1, none⟩ (.slice A275 ((T1.a.getD (bkt T1.seed T1.a.length k) []).length) c276) ((hRA_271.at (bkt T1.seed T1.a.length k) nilS (by omega)).trans (congrArg some hv277))), (1, .b hB247_274 2), (0, .ix g279 o280 ((T1.a.getD (bkt T1.seed T1.a.length k) []).length) c276 .i64 (j : Int) 7 hA281)] 15 23 35 [(22, .pointer (some ⟨t, 0, none⟩)), (36, .pointer (some ⟨g279, (o280 + (j : Int).toNat * 7) + 1, none⟩))] fun a h285 => ?_
   obtain rfl : cs282 = [.string (at_ itI (T1.a.getD (bkt T1.seed T1.a.length k) []) (j : Int)).1, .int .i64 (at_ itI (T1.a.getD (bkt T1.seed T1.a.length k) []) (j : Int)).2.kind, .string (at_ itI (T1.a.getD (bkt T1.seed T1.a.length k) []) (j : Int)).2.s, .slice (at_ itI (T1.a.getD (bkt T1.seed T1.a.length k) []) (j : Int)).2.l.a (at_ itI (T1.a.getD (bkt T1.seed T1.a.length k) []) (j : Int)).2.l.n (at_ itI (T1.a.getD (bkt T1.seed T1.a.length k) []) (j : Int)).2.l.c, .slice (at_ itI (T1.a.getD (bkt T1.seed T1.a.length k) []) (j : Int)).2.z.a (at_ itI (T1.a.getD (bkt T1.seed T1.a.length k) []) (j : Int)).2.z.n (at_ itI (T1.a.getD (bkt T1.seed T1.a.length k) []) (j : Int)).2.z.c, .slice (at_ itI (T1.a.getD (bkt T1.seed T1.a.length k) []) (j : Int)).2.h.a (at_ itI (T1.a.getD (bkt T1.seed T1.a.length k) []) (j : Int)).2.h.n (at_ itI (T1.a.getD (bkt T1.seed T1.a.length k) []) (j : Int)).2.h.c, .int .i64 (at_ itI (T1.a.getD (bkt T1.seed T1.a.length k) []) (j : Int)).2.till] := hok283
   refine V.se h285 [(0, .ls ⟨g279, (o280 + (j : Int).toNat * 7) + 1, none⟩ [.int .i64 (((at_ itI (T1.a.getD (bkt T1.seed T1.a.length k) []) (j : Int)).2).kind), .string (((at_ itI (T1.a.getD (bkt T1.seed T1.a.length k) []) (j : Int)).2).s), .slice (((at_ itI (T1.a.getD (bkt T1.seed T1.a.length k) []) (j : Int)).2).l.a) (((at_ itI (T1.a.getD (bkt T1.seed T1.a.length k) []) (j : Int)).2).l.n) (((at_ itI (T1.a.getD (bkt T1.seed T1.a.length k) []) (j : Int)).2).l.c), .slice (((at_ itI (T1.a.getD (bkt T1.seed T1.a.length k) []) (j : Int)).2).z.a) (((at_ itI (T1.a.getD (bkt T1.seed T1.a.length k) []) (j : Int)).2).z.n) (((at_ itI (T1.a.getD (bkt T1.seed T1.a.length k) []) (j : Int)).2).z.c), .slice (((at_ itI (T1.a.getD (bkt T1.seed T1.a.length k) []) (j : Int)).2).h.a) (((at_ itI (T1.a.getD (bkt T1.seed T1.a.length k) []) (j : Int)).2).h.n) (((at_ itI (T1.a.getD (bkt T1.seed T1.a.length k) []) (j : Int)).2).h.c), .int .i64 (((at_ itI (T1.a.getD (bkt T1.seed T1.a.length k) []) (j : Int)).2).till)] (hE284.cells 1 _ rfl))] 1 0 [(37, .agg #[.int .i64 (((at_ itI (T1.a.getD (bkt T1.seed T1.a.length k) []) (j : Int)).2).kind), .string (((at_ itI (T1.a.getD (bkt T1.seed T1.a.length k) []) (j : Int)).2).s), .slice (((at_ itI (T1.a.getD (bkt T1.seed T1.a.length k) []) (j : Int)).2).l.a) (((at_ itI (T1.a.getD (bkt T1.seed T1.a.length k) []) (j : Int)).2).l.n) (((at_ itI (T1.a.getD (bkt T1.seed T1.a.length k) []) (j : Int)).2).l.c), .slice (((at_ itI (T1.a.getD (bkt T1.seed T1.a.length k) []) (j : Int)).2).z.a) (((at_ itI (T1.a.getD (bkt T1.seed T1.a.length k) []) (j : Int)).2).z.n) (((at_ itI (T1.a.getD (bkt T1.seed T1.a.length k) []) (j : Int)).2).z.c), .slice (((at_ itI (T1.a.getD (bkt T1.seed T1.a.length k) []) (j : Int)).2).h.a) (((at_ itI (T1.a.getD (bkt T1.seed T1.a.length k) []) (j : Int)).2).h.n) (((at_ itI (T1.a.getD (bkt T1.seed T1.a.length k) []) (j : Int)).2).h.c), .int .i64 (((at_ itI (T1.a.getD (bkt T1.seed T1.a.length k) []) (j : Int)).2).till)])] fun a h286 => ?_
   refine V.go (V.stn b4 0 (.agg #[.int .i64 (((at_ itI (T1.a.getD (bkt T1.seed T1.a.length k) []) (j : Int)).2).kind), .string (((at_ itI (T1.a.getD (bkt T1.seed T1.a.length k) []) (j : Int)).2).s), .slice (((at_ itI (T1.a.getD (bkt T1.seed T1.a.length k) []) (j : Int)).2).l.a) (((at_ itI (T1.a.getD (bkt T1.seed T1.a.length k) []) (j : Int)).2).l.n) (((at_ itI (T1.a.getD (bkt T1.seed T1.a.length k) []) (j : Int)).2).l.c), .slice (((at_ itI (T1.a.getD (bkt T1.seed T1.a.length k) []) (j : Int)).2).z.a) (((at_ itI (T1.a.getD (bkt T1.seed T1.a.length k) []) (j : Int)).2).z.n) (((at_ itI (T1.a.getD (bkt T1.seed T1.a.length k) []) (j : Int)).2).z.c), .slice (((at_ itI (T1.a.getD (bkt T1.seed T1.a.length k) []) (j : Int)).2).h.a) (((at_ itI (T1.a.getD (bkt T1.seed T1.a.length k) []) (j : Int)).2).h.n) (((at_ itI (T1.a.getD (bkt T1.seed T1.a.length k) []) (j : Int)).2).h.c), .int .i64 (((at_ itI (T1.a.getD (bkt T1.seed T1.a.length k) []) (j : Int)).2).till)]) [.int .i64 (((at_ itI (T1.a.getD (bkt T1.seed T1.a.length k) []) (j : Int)).2).kind), .string (((at_ itI (T1.a.getD (bkt T1.seed T1.a.length k) []) (j : Int)).2).s), .slice (((at_ itI (T1.a.getD (bkt T1.seed T1.a.length k) []) (j : Int)).2).l.a) (((at_ itI (T1.a.getD (bkt T1.seed T1.a.length k) []) (j : Int)).2).l.n) (((at_ itI (T1.a.getD (bkt T1.seed T1.a.length k) []) (j : Int)).2).l.c), .slice (((at_ itI (T1.a.getD (bkt T1.seed T1.a.length k) []) (j : Int)).2).z.a) (((at_ itI (T1.a.getD (bkt T1.seed T1.a.length k) []) (j : Int)).2).z.n) (((at_ itI (T1.a.getD (bkt T1.seed T1.a.length k) []) (j : Int)).2).z.c), .slice (((at_ itI (T1.a.getD (bkt T1.seed T1.a.length k) []) (j : Int)).2).h.a) (((at_ itI (T1.a.getD (bkt T1.seed T1.a.length k) []) (j : Int)).2).h.n) (((at_ itI (T1.a.getD (bkt T1.seed T1.a.length k) []) (j : Int)).2).h.c), .int .i64 (((at_ itI (T1.a.getD (bkt T1.seed T1.a.length k) []) (j : Int)).2).till)] h286.e h286.e rfl rfl (by kernel_rfl) hB6_268 (by simp) [.int .i64 (((at_ itI (T1.a.getD (bkt T1.seed T1.a.length k) []) (j : Int)).2).kind), .string (((at_ itI (T1.a.getD (bkt T1.seed T1.a.length k) []) (j : Int)).2).s), .slice (((at_ itI (T1.a.getD (bkt T1.seed T1.a.length k) []) (j : Int)).2).l.a) (((at_ itI (T1.a.getD (bkt T1.seed T1.a.length k) []) (j : Int)).2).l.n) (((at_ itI (T1.a.getD (bkt T1.seed T1.a.length k) []) (j : Int)).2).l.c), .slice (((at_ itI (T1.a.getD (bkt T1.seed T1.a.length k) []) (j : Int)).2).z.a) (((at_ itI (T1.a.getD (bkt T1.seed T1.a.length k) []) (j : Int)).2).z.n) (((at_ itI (T1.a.getD (bkt T1.seed T1.a.length k) []) (j : Int)).2).z.c), .slice (((at_ itI (T1.a.getD (bkt T1.seed T1.a.length k) []) (j : Int)).2).h.a) (((at_ itI (T1.a.getD (bkt T1.seed T1.a.length k) []) (j : Int)).2).h.n) (((at_ itI (T1.a.getD (bkt T1.seed T1.a.length k) []) (j : Int)).2).h.c), .int .i64 (((at_ itI (T1.a.getD (bkt T1.seed T1.a.length k) []) (j : Int)).2).till)] rfl ?_)
   intro w287 hB288 hF289 hsw287
   have hF_290 := hF_267.own hF289 (by simp <;> omega)
   refine V.eh trivial ?_
   refine V.pz h286 [] 1 0 [(5, .bool true)] fun a h297 => k264 _ _ ?_
   refine V.ret ?_
   refine V.retCT h297.sd rfl _ (h297.e (v := (.pointer (some ⟨b4, 0, none⟩)))) (V.run_loadVar_agg (cs := [.int .i64 (((at_ itI (T1.a.getD (bkt T1.seed T1.a.length k) []) (j : Int)).2).kind), .string (((at_ itI (T1.a.getD (bkt T1.seed T1.a.length k) []) (j : Int)).2).s), .slice (((at_ itI (T1.a.getD (bkt T1.seed T1.a.length k) []) (j : Int)).2).l.a) (((at_ itI (T1.a.getD (bkt T1.seed T1.a.length k) []) (j : Int)).2).l.n) (((at_ itI (T1.a.getD (bkt T1.seed T1.a.length k) []) (j : Int)).2).l.c), .slice (((at_ itI (T1.a.getD (bkt T1.seed T1.a.length k) []) (j : Int)).2).z.a) (((at_ itI (T1.a.getD (bkt T1.seed T1.a.length k) []) (j : Int)).2).z.n) (((at_ itI (T1.a.getD (bkt T1.seed T1.a.length k) []) (j : Int)).2).z.c), .slice (((at_ itI (T1.a.getD (bkt T1.seed T1.a.length k) []) (j : Int)).2).h.a) (((at_ itI (T1.a.getD (bkt T1.seed T1.a.length k) []) (j : Int)).2).h.n) (((at_ itI (T1.a.getD (bkt T1.seed T1.a.length k) []) (j : Int)).2).h.c), .int .i64 (((at_ itI (T1.a.getD (bkt T1.seed T1.a.length k) []) (j : Int)).2).till)]) (by kernel_rfl) (blk_cells hB288 0 _ rfl)) (h297.e (v := (.bool true))) ?_
   refine ⟨?_, hF_290⟩
   unfold lookT; rw [hf]
   rfl
 ·
  rcases hT_32.2 with ⟨hb0, gA, vsA, hN⟩ | ⟨hb0, gA, gB, vsA, vsB, hN⟩
  ·
   exact absurd (by rw [hb0]; rfl) hbn
  ·
   have hb1 : T1.b.length ≠ 0 := fun h => hb0 (List.eq_nil_of_length_eq_zero h)
   obtain ⟨hB, hRA, hRB, hlA, hlB, hK, hne, hne2, hne3, hpt, hpg, hph⟩ := hN
   have hnb15t : t ≠ b15 := fun e => hpt.2 (by rw [e]; simp)
   have hnb15gA : gA ≠ b15 := fun e => hpg.2 (by rw [e]; simp)
   have hnb15gB : gB ≠ b15 := fun e => hph.2 (by rw [e]; simp)
   have hnb4t : t ≠ b4 := fun e => hpt.2 (by rw [e]; simp)
   have hnb4gA : gA ≠ b4 := fun e => hpg.2 (by rw [e]; simp)
   have hnb4gB : gB ≠ b4 := fun e => hph.2 (by rw [e]; simp)
   replace hK := hK.toH
   have hltt := hB.lt
   have hltg := hRA.lt
   have hltg2 := hRB.lt
   have hE : FrP (gp (H) av) w30 w30 := FrP.refl _ _
   have hK0 : ∀ k ∈ av, k < w30.heap.size := fun k hk => hK.avl k (by simp [hk])
   obtain ⟨hsd, hpa, hla, hlb, hmv, hmz, hnn, hcn, hks⟩ := (show T1.Ok from hok1)
   have hbl := hok1.bl
   have hFPE := hFP_33
   refine V.cl (av := #[.pointer (some ⟨t, 0, none⟩), .string k]) h40 (Go.Proofs.enters_of Tryz.func70 (by kernel_rfl) rfl) (by have h := find_any w30 (H) (b15 :: b4 :: av) t T1 hT_32 k hkz; rw [hf] at h; exact h) ?_
   rintro _ w299 ⟨rfl, hF298⟩
   refine ⟨_, rfl, fun a h300 => ?_⟩
   have hsw299 := hF298.size
   have hF_301 := hF_34.new hF298
   have hB6_302 := hB6_35.fr0 hF298
   have hB_304 := hB.fr0 hF298
   have hRB_306 := hRB.fr0 hF298
   have hK_307 := hK.fr0 hF298
   have hbkl := bkt_lt T1.seed k (n := T1.b.length) (by omega)
   refine V.run h300 [] 3 13 13 [(17, .agg #[.int .i64 1, .int .i64 ((bkt T1.seed T1.b.length k : Nat) : Int), .int .i64 (j : Int)]), (18, .bool true)] fun a h313 => ?_
   refine V.go (V.mk [] trivial (by kernel_rfl) [.int .i64 0, .int .i64 0, .int .i64 0] 113 (fun b => .pointer (some ⟨b, 0, none⟩)) (by kernel_rfl) ?_)
   intro w310 b309 heb309 hB311 hF312 hsb309
   have hF_314 := hF_301.new hF312
   have hB6_315 := hB6_302.fr0 hF312
   have hB_317 := hB_304.fr0 hF312
   have hRB_319 := hRB_306.fr0 hF312
   have hK_320 := hK_307.alloc hF312 heb309 (by omega)
   refine V.pt h313 fun a h322 => ?_
   refine V.go (V.stn b309 0 (.agg #[.int .i64 1, .int .i64 ((bkt T1.seed T1.b.length k : Nat) : Int), .int .i64 (j : Int)]) [.int .i64 1, .int .i64 ((bkt T1.seed T1.b.length k : Nat) : Int), .int .i64 (j : Int)] h322.e h322.e rfl rfl (by kernel_rfl) hB311 (by simp) [.int .i64 1, .int .i64 ((bkt T1.seed T1.b.length k : Nat) : Int), .int .i64 (j : Int)] rfl ?_)
   intro w323 hB324 hF325 hsw323
   have hF_326 := hF_314.own hF325 (by simp <;> omega)
   have hB6_327 := hB6_315.fr1 hF325 (by omega)
   have hB_329 := hB_317.fr1 hF325 (by omega)
   have hRB_331 := hRB_319.fr1 hF325 (by omega)
   have hK_332 := hK_320.fr hF325 (by simp)
   refine V.re h322 [] 1 0 [(8, .bool true)] fun a h334 => k39 _ _ ?_
   refine V.seq fun K335 k336 => ?_
   refine V.seq fun K337 k338 => ?_
   refine V.rr h334 [] 19 19 [(20, .bool false)] fun a h339 => ?_
   refine V.then_n (k338 _ _ ?_)
   refine V.cf h339 ?_
   refine V.skip ?_
   refine V.then_n (k336 _ _ ?_)
   refine V.seq fun K340 k341 => ?_
   refine V.pl [([0,1,2,3,4,5,6,7,8,9,10,11,12,13,14,15],some (16,[])),([17],none)] fun w342 hF343 hsw342 => ?_
   have hF_344 := hF_326.new hF343
   have hB6_345 := hB6_327.fr0 hF343
   have hB_347 := hB_329.fr0 hF343
   have hRB_349 := hRB_331.fr0 hF343
   have hK_350 := hK_332.fr0 hF343
   have hB324_351 := hB324.fr0 hF343
   obtain ⟨A352, c353, hv354⟩ := hK_350.getB hlA (i := (bkt T1.seed T1.b.length k)) (by omega) nilS
   have hS355 := hK_350.slB hlA (i := (bkt T1.seed T1.b.length k)) (by omega) hv354
   obtain ⟨g356, o357, hA358, hA358l, hA358z⟩ := hS355.addr (by omega)
   obtain ⟨cs359, hok360, hE361⟩ := hS355.els hA358 (j : Int) (by omega) (by omega)
   refine V.pe0 ?_
   refine V.run h339 [(2, .b hB324_351 0), (3, .b hB_347 2), (1, .b hB324_351 1), (0, .ix gB 0 T1.b.length T1.b.length .i64 ((bkt T1.seed T1.b.length k : Nat) : Int) 1 rfl), (0, .l ⟨gB, 0 + ((bkt T1.seed T1.b.length k : Nat) : Int).toNat * 1, none⟩ (.slice A352 ((T1.b.getD (bkt T1.seed T1.b.length k) []).length) c353) ((hRB_349.at (bkt T1.seed T1.b.length k) nilS (by omega)).trans (congrArg some hv354))), (1, .b hB324_351 2), (0, .ix g356 o357 ((T1.b.getD (bkt T1.seed T1.b.length k) []).length) c353 .i64 (j : Int) 7 hA358)] 15 23 35 [(22, .pointer (some ⟨t, 0, none⟩)), (36, .pointer (some ⟨g356, (o357 + (j : Int).toNat * 7) + 1, none⟩))] fun a h362 => ?_
   obtain rfl : cs359 = [.string (at_ itI (T1.b.getD (bkt T1.seed T1.b.length k) []) (j : Int)).1, .int .i64 (at_ itI (T1.b.getD (bkt T1.seed T1.b.length k) []) (j : Int)).2.kind, .string (at_ itI (T1.b.getD (bkt T1.seed T1.b.length k) []) (j : Int)).2.s, .slice (at_ itI (T1.b.getD (bkt T1.seed T1.b.length k) []) (j : Int)).2.l.a (at_ itI (T1.b.getD (bkt T1.seed T1.b.length k) []) (j : Int)).2.l.n (at_ itI (T1.b.getD (bkt T1.seed T1.b.length k) []) (j : Int)).2.l.c, .slice (at_ itI (T1.b.getD (bkt T1.seed T1.b.length k) []) (j : Int)).2.z.a (at_ itI (T1.b.getD (bkt T1.seed T1.b.length k) []) (j : Int)).2.z.n (at_ itI (T1.b.getD (bkt T1.seed T1.b.length k) []) (j : Int)).2.z.c, .slice (at_ itI (T1.b.getD (bkt T1.seed T1.b.length k) []) (j : Int)).2.h.a (at_ itI (T1.b.getD (bkt T1.seed T1.b.length k) []) (j : Int)).2.h.n (at_ itI (T1.b.getD (bkt T1.seed T1.b.length k) []) (j : Int)).2.h.c, .int .i64 (at_ itI (T1.b.getD (bkt T1.seed T1.b.length k) []) (j : Int)).2.till] := hok360
   refine V.se h362 [(0, .ls ⟨g356, (o357 + (j : Int).toNat * 7) + 1, none⟩ [.int .i64 (((at_ itI (T1.b.getD (bkt T1.seed T1.b.length k) []) (j : Int)).2).kind), .string (((at_ itI (T1.b.getD (bkt T1.seed T1.b.length k) []) (j : Int)).2).s), .slice (((at_ itI (T1.b.getD (bkt T1.seed T1.b.length k) []) (j : Int)).2).l.a) (((at_ itI (T1.b.getD (bkt T1.seed T1.b.length k) []) (j : Int)).2).l.n) (((at_ itI (T1.b.getD (bkt T1.seed T1.b.length k) []) (j : Int)).2).l.c), .slice (((at_ itI (T1.b.getD (bkt T1.seed T1.b.length k) []) (j : Int)).2).z.a) (((at_ itI (T1.b.getD (bkt T1.seed T1.b.length k) []) (j : Int)).2).z.n) (((at_ itI (T1.b.getD (bkt T1.seed T1.b.length k) []) (j : Int)).2).z.c), .slice (((at_ itI (T1.b.getD (bkt T1.seed T1.b.length k) []) (j : Int)).2).h.a) (((at_ itI (T1.b.getD (bkt T1.seed T1.b.length k) []) (j : Int)).2).h.n) (((at_ itI (T1.b.getD (bkt T1.seed T1.b.length k) []) (j : Int)).2).h.c), .int .i64 (((at_ itI (T1.b.getD (bkt T1.seed T1.b.length k) []) (j : Int)).2).till)] (hE361.cells 1 _ rfl))] 1 0 [(37, .agg #[.int .i64 (((at_ itI (T1.b.getD (bkt T1.seed T1.b.length k) []) (j : Int)).2).kind), .string (((at_ itI (T1.b.getD (bkt T1.seed T1.b.length k) []) (j : Int)).2).s), .slice (((at_ itI (T1.b.getD (bkt T1.seed T1.b.length k) []) (j : Int)).2).l.a) (((at_ itI (T1.b.getD (bkt T1.seed T1.b.length k) []) (j : Int)).2).l.n) (((at_ itI (T1.b.getD (bkt T1.seed T1.b.length k) []) (j : Int)).2).l.c), .slice (((at_ itI (T1.b.getD (bkt T1.seed T1.b.length k) []) (j : Int)).2).z.a) (((at_ itI (T1.b.getD (bkt T1.seed T1.b.length k) []) (j : Int)).2).z.n) (((at_ itI (T1.b.getD (bkt T1.seed T1.b.length k) []) (j : Int)).2).z.c), .slice (((at_ itI (T1.b.getD (bkt T1.seed T1.b.length k) []) (j : Int)).2).h.a) (((at_ itI (T1.b.getD (bkt T1.seed T1.b.length k) []) (j : Int)).2).h.n) (((at_ itI (T1.b.getD (bkt T1.seed T1.b.length k) []) (j : Int)).2).h.c), .int .i64 (((at_ itI (T1.b.getD (bkt T1.seed T1.b.length k) []) (j : Int)).2).till)])] fun a h363 => ?_
   refine V.go (V.stn b4 0 (.agg #[.int .i64 (((at_ itI (T1.b.getD (bkt T1.seed T1.b.length k) []) (j : Int)).2).kind), .string (((at_ itI (T1.b.getD (bkt T1.seed T1.b.length k) []) (j : Int)).2).s), .slice (((at_ itI (T1.b.getD (bkt T1.seed T1.b.length k) []) (j : Int)).2).l.a) (((at_ itI (T1.b.getD (bkt T1.seed T1.b.length k) []) (j : Int)).2).l.n) (((at_ itI (T1.b.getD (bkt T1.seed T1.b.length k) []) (j : Int)).2).l.c), .slice (((at_ itI (T1.b.getD (bkt T1.seed T1.b.length k) []) (j : Int)).2).z.a) (((at_ itI (T1.b.getD (bkt T1.seed T1.b.length k) []) (j : Int)).2).z.n) (((at_ itI (T1.b.getD (bkt T1.seed T1.b.length k) []) (j : Int)).2).z.c), .slice (((at_ itI (T1.b.getD (bkt T1.seed T1.b.length k) []) (j : Int)).2).h.a) (((at_ itI (T1.b.getD (bkt T1.seed T1.b.length k) []) (j : Int)).2).h.n) (((at_ itI (T1.b.getD (bkt T1.seed T1.b.length k) []) (j : Int)).2).h.c), .int .i64 (((at_ itI (T1.b.getD (bkt T1.seed T1.b.length k) []) (j : Int)).2).till)]) [.int .i64 (((at_ itI (T1.b.getD (bkt T1.seed T1.b.length k) []) (j : Int)).2).kind), .string (((at_ itI (T1.b.getD (bkt T1.seed T1.b.length k) []) (j : Int)).2).s), .slice (((at_ itI (T1.b.getD (bkt T1.seed T1.b.length k) []) (j : Int)).2).l.a) (((at_ itI (T1.b.getD (bkt T1.seed T1.b.length k) []) (j : Int)).2).l.n) (((at_ itI (T1.b.getD (bkt T1.seed T1.b.length k) []) (j : Int)).2).l.c), .slice (((at_ itI (T1.b.getD (bkt T1.seed T1.b.length k) []) (j : Int)).2).z.a) (((at_ itI (T1.b.getD (bkt T1.seed T1.b.length k) []) (j : Int)).2).z.n) (((at_ itI (T1.b.getD (bkt T1.seed T1.b.length k) []) (j : Int)).2).z.c), .slice (((at_ itI (T1.b.getD (bkt T1.seed T1.b.length k) []) (j : Int)).2).h.a) (((at_ itI (T1.b.getD (bkt T1.seed T1.b.length k) []) (j : Int)).2).h.n) (((at_ itI (T1.b.getD (bkt T1.seed T1.b.length k) []) (j : Int)).2).h.c), .int .i64 (((at_ itI (T1.b.getD (bkt T1.seed T1.b.length k) []) (j : Int)).2).till)] h363.e h363.e rfl rfl (by kernel_rfl) hB6_345 (by simp) [.int .i64 (((at_ itI (T1.b.getD (bkt T1.seed T1.b.length k) []) (j : Int)).2).kind), .string (((at_ itI (T1.b.getD (bkt T1.seed T1.b.length k) []) (j : Int)).2).s), .slice (((at_ itI (T1.b.getD (bkt T1.seed T1.b.length k) []) (j : Int)).2).l.a) (((at_ itI (T1.b.getD (bkt T1.seed T1.b.length k) []) (j : Int)).2).l.n) (((at_ itI (T1.b.getD (bkt T1.seed T1.b.length k) []) (j : Int)).2).l.c), .slice (((at_ itI (T1.b.getD (bkt T1.seed T1.b.length k) []) (j : Int)).2).z.a) (((at_ itI (T1.b.getD (bkt T1.seed T1.b.length k) []) (j : Int)).2).z.n) (((at_ itI (T1.b.getD (bkt T1.seed T1.b.length k) []) (j : Int)).2).z.c), .slice (((at_ itI (T1.b.getD (bkt T1.seed T1.b.length k) []) (j : Int)).2).h.a) (((at_ itI (T1.b.getD (bkt T1.seed T1.b.length k) []) (j : Int)).2).h.n) (((at_ itI (T1.b.getD (bkt T1.seed T1.b.length k) []) (j : Int)).2).h.c), .int .i64 (((at_ itI (T1.b.getD (bkt T1.seed T1.b.length k) []) (j : Int)).2).till)] rfl ?_)
   intro w364 hB365 hF366 hsw364
   have hF_367 := hF_344.own hF366 (by simp <;> omega)
   refine V.eh trivial ?_
   refine V.pz h363 [] 1 0 [(5, .bool true)] fun a h374 => k341 _ _ ?_
   refine V.ret ?_
   refine V.retCT h374.sd rfl _ (h374.e (v := (.pointer (some ⟨b4, 0, none⟩)))) (V.run_loadVar_agg (cs := [.int .i64 (((at_ itI (T1.b.getD (bkt T1.seed T1.b.length k) []) (j : Int)).2).kind), .string (((at_ itI (T1.b.getD (bkt T1.seed T1.b.length k) []) (j : Int)).2).s), .slice (((at_ itI (T1.b.getD (bkt T1.seed T1.b.length k) []) (j : Int)).2).l.a) (((at_ itI (T1.b.getD (bkt T1.seed T1.b.length k) []) (j : Int)).2).l.n) (((at_ itI (T1.b.getD (bkt T1.seed T1.b.length k) []) (j : Int)).2).l.c), .slice (((at_ itI (T1.b.getD (bkt T1.seed T1.b.length k) []) (j : Int)).2).z.a) (((at_ itI (T1.b.getD (bkt T1.seed T1.b.length k) []) (j : Int)).2).z.n) (((at_ itI (T1.b.getD (bkt T1.seed T1.b.length k) []) (j : Int)).2).z.c), .slice (((at_ itI (T1.b.getD (bkt T1.seed T1.b.length k) []) (j : Int)).2).h.a) (((at_ itI (T1.b.getD (bkt T1.seed T1.b.length k) []) (j : Int)).2).h.n) (((at_ itI (T1.b.getD (bkt T1.seed T1.b.length k) []) (j : Int)).2).h.c), .int .i64 (((at_ itI (T1.b.getD (bkt T1.seed T1.b.length k) []) (j : Int)).2).till)]) (by kernel_rfl) (blk_cells hB365 0 _ rfl)) (h374.e (v := (.bool true))) ?_
   refine ⟨?_, hF_367⟩
   unfold lookT; rw [hf]
   rfl
theorem get_any (w : World) (H : Nat → Prop) (av0 : List Nat) (t : Nat) (T : Tb EntV) (hT : TabX 122 118 117 itI w H av0 t T) (hm : T.Mv) (k : ByteArray) (hkz : k.size ≤ 9223372036854775807) : Calls Tryz.prog 30 #[.pointer (some ⟨t, 0, none⟩), .string k] w (fun e w' => e = .returned (.tuple #[.agg #[.int .i64 (lookT EntV.nil (tbStep T) k).1.kind, .string (lookT EntV.nil (tbStep T) k).1.s, .slice (lookT EntV.nil (tbStep T) k).1.l.a (lookT EntV.nil (tbStep T) k).1.l.n (lookT EntV.nil (tbStep T) k).1.l.c, .slice (lookT EntV.nil (tbStep T) k).1.z.a (lookT EntV.nil (tbStep T) k).1.z.n (lookT EntV.nil (tbStep T) k).1.z.c, .slice (lookT EntV.nil (tbStep T) k).1.h.a (lookT EntV.nil (tbStep T) k).1.h.n (lookT EntV.nil (tbStep T) k).1.h.c, .int .i64 (lookT EntV.nil (tbStep T) k).1.till], .bool (lookT EntV.nil (tbStep T) k).2]) ∧ TabX 122 118 117 itI w' (gr H w w') av0 t (tbStep T) ∧ FrP (gp H av0) w w') := by
 have hFP := FrP.refl (gp H av0) w
 obtain ⟨hok0, hm1⟩ := tbStep_ok hT.1 hm
 obtain ⟨T1, hT1⟩ : ∃ T1, T1 = tbStep T := ⟨_, rfl⟩
 rw [← hT1] at hok0 hm1 ⊢
 refine V.en 15 Tryz.func30 fun a h1 => ?_
 refine V.sg fun K2 k3 => ?_
 refine V.go (V.mk [] trivial (by kernel_rfl) [.int .i64 0, .string ⟨#[]⟩, .slice none 0 0, .slice none 0 0, .slice none 0 0, .int .i64 0] 79 (fun b => .pointer (some ⟨b, 0, none⟩)) (by kernel_rfl) ?_)
 intro w5 b4 heb4 hB6 hF7 hsb4
 have hT_8 := hT.alloc hF7 heb4 (by omega)
 have hFP_9 := hFP.tr0 hF7
 refine V.pt h1 fun a h10 => ?_
 refine V.re h10 [] 5 5 [] fun a h11 => k3 _ _ ?_
 refine V.seq fun K12 k13 => ?_
 refine V.seq fun K14 k15 => ?_
 obtain ⟨av, hav⟩ : ∃ l, l = b4 :: av0 := ⟨_, rfl⟩
 rw [← hav] at hT_8
 have hFP16 := hFP_9.addav hav (by omega)
 refine V.rg ?_
 refine V.run h11 [] 1 1 0 [(6, .pointer (some ⟨t, 0, none⟩))] fun a h17 => ?_
 refine V.cl h17 (Go.Proofs.enters_of Tryz.func64 (by kernel_rfl) rfl) (made_any w5 (H) (av) t (T) hT_8) ?_
 rintro _ w19 ⟨rfl, hF18⟩
 refine ⟨_, rfl, fun a h20 => ?_⟩
 have hsw19 := hF18.size
 have hT_21 := hT_8.fr0 hF18
 have hB6_22 := hB6.fr0 hF18
 have hFP16_23 := hFP16.tr0 hF18
 refine V.nt (k15 _ _ ?_)
 refine V.ct h20 ?_
 refine V.rg ?_
 refine V.run h20 [] 1 1 0 [(8, .pointer (some ⟨t, 0, none⟩))] fun a h24 => ?_
 refine V.cl h24 (Go.Proofs.enters_of Tryz.func65 (by kernel_rfl) rfl) (step_any w19 (H) (av) t (T) hT_21 hm) ?_
 rintro _ w27 ⟨rfl, hT25, hfp26⟩
 refine ⟨_, rfl, fun a h28 => ?_⟩
 have hsw27 := hfp26.size
 have hB6_29 := hB6_22.frP hfp26 (by exact fun hp => hp.2 (by first | simp | (rw [hav]; simp)))
 have hFP16_30 := hFP16_23.trP hfp26 (fun k hk => .inl hk)
 have hT25q := hT25.grm (w := w) (by omega)
 rw [← hT1] at hT25q
 refine V.nt (k13 _ _ ?_)
 refine V.sg fun K31 k32 => ?_
 refine V.run h28 [] 2 1 0 [(10, .pointer (some ⟨t, 0, none⟩)), (11, .string k)] fun a h33 => ?_
 refine V.cl h33 (Go.Proofs.enters_of Tryz.func37 (by kernel_rfl) rfl) (look_any w27 (gr H w w27) (av) t (T1) hT25q k (by first | exact hkz | decide | omega)) ?_
 rintro _ w35 ⟨rfl, hF34⟩
 refine ⟨_, rfl, fun a h36 => ?_⟩
 have hsw35 := hF34.size
 have hB6_37 := hB6_29.fr0 hF34
 have hFP16_38 := hFP16_30.tr0 hF34
 have hT25q_39 := hT25q.fr0 hF34
 refine V.run h36 [] 2 1 0 [(13, .agg #[.int .i64 (((lookT EntV.nil (T1) k).1).kind), .string (((lookT EntV.nil (T1) k).1).s), .slice (((lookT EntV.nil (T1) k).1).l.a) (((lookT EntV.nil (T1) k).1).l.n) (((lookT EntV.nil (T1) k).1).l.c), .slice (((lookT EntV.nil (T1) k).1).z.a) (((lookT EntV.nil (T1) k).1).z.n) (((lookT EntV.nil (T1) k).1).z.c), .slice (((lookT EntV.nil (T1) k).1).h.a) (((lookT EntV.nil (T1) k).1).h.n) (((lookT EntV.nil (T1) k).1).h.c), .int .i64 (((lookT EntV.nil (T1) k).1).till)]), (14, .bool ((lookT EntV.nil (T1) k).2))] fun a h43 => ?_
 refine V.go (V.stn b4 0 (.agg #[.int .i64 (((lookT EntV.nil (T1) k).1).kind), .string (((lookT EntV.nil (T1) k).1).s), .slice (((lookT EntV.nil (T1) k).1).l.a) (((lookT EntV.nil (T1) k).1).l.n) (((lookT EntV.nil (T1) k).1).l.c), .slice (((lookT EntV.nil (T1) k).1).z.a) (((lookT EntV.nil (T1) k).1).z.n) (((lookT EntV.nil (T1) k).1).z.c), .slice (((lookT EntV.nil (T1) k).1).h.a) (((lookT EntV.nil (T1) k).1).h.n) (((lookT EntV.nil (T1) k).1).h.c), .int .i64 (((lookT EntV.nil (T1) k).1).till)]) [.int .i64 (((lookT EntV.nil (T1) k).1).kind), .string (((lookT EntV.nil (T1) k).1).s), .slice (((lookT EntV.nil (T1) k).1).l.a) (((lookT EntV.nil (T1) k).1).l.n) (((lookT EntV.nil (T1) k).1).l.c), .slice (((lookT EntV.nil (T1) k).1).z.a) (((lookT EntV.nil (T1) k).1).z.n) (((lookT EntV.nil (T1) k).1).z.c), .slice (((lookT EntV.nil (T1) k).1).h.a) (((lookT EntV.nil (T1) k).1).h.n) (((lookT EntV.nil (T1) k).1).h.c), .int .i64 (((lookT EntV.nil (T1) k).1).till)] h43.e h43.e rfl rfl (by kernel_rfl) hB6_37 (by simp) [.int .i64 (((lookT EntV.nil (T1) k).1).kind), .string (((lookT EntV.nil (T1) k).1).s), .slice (((lookT EntV.nil (T1) k).1).l.a) (((lookT EntV.nil (T1) k).1).l.n) (((lookT EntV.nil (T1) k).1).l.c), .slice (((lookT EntV.nil (T1) k).1).z.a) (((lookT EntV.nil (T1) k).1).z.n) (((lookT EntV.nil (T1) k).1).z.c), .slice (((lookT EntV.nil (T1) k).1).h.a) (((lookT EntV.nil (T1) k).1).h.n) (((lookT EntV.nil (T1) k).1).h.c), .int .i64 (((lookT EntV.nil (T1) k).1).till)] rfl ?_)
 intro w40 hB41 hF42 hsw40
 have hFP16_44 := hFP16_38.tr1 hF42 (by first | exact .inl (by assumption) | exact .inr (by omega) | exact .inl (.inl rfl))
 have hT25q_45 := hT25q_39.fr hF42 (by intro k hk; simp only [List.mem_singleton] at hk; subst hk; exact .inl (by first | simp | (rw [hav]; simp)))
 refine V.re h43 [] 1 0 [(5, .bool ((lookT EntV.nil (T1) k).2))] fun a h46 => k32 _ _ ?_
 refine V.ret ?_
 refine V.retCT h46.sd rfl _ (h46.e (v := (.pointer (some ⟨b4, 0, none⟩)))) (V.run_loadVar_agg (cs := [.int .i64 (((lookT EntV.nil (T1) k).1).kind), .string (((lookT EntV.nil (T1) k).1).s), .slice (((lookT EntV.nil (T1) k).1).l.a) (((lookT EntV.nil (T1) k).1).l.n) (((lookT EntV.nil (T1) k).1).l.c), .slice (((lookT EntV.nil (T1) k).1).z.a) (((lookT EntV.nil (T1) k).1).z.n) (((lookT EntV.nil (T1) k).1).z.c), .slice (((lookT EntV.nil (T1) k).1).h.a) (((lookT EntV.nil (T1) k).1).h.n) (((lookT EntV.nil (T1) k).1).h.c), .int .i64 (((lookT EntV.nil (T1) k).1).till)]) (by kernel_rfl) (blk_cells hB41 0 _ rfl)) (h46.e (v := (.bool ((lookT EntV.nil (T1) k).2)))) ?_
 exact ⟨rfl, (hT25q_45.grl (by omega)).dropav hav, hFP16_44.dropav hav⟩
theorem len_blk (w : World) (t : Nat) (seed n0 c0 : Nat) (A0 : Option Addr) (v1 m1 m2 : Value) (hB : Blk w t [.int .u64 (seed : Int), .slice A0 n0 c0, v1, m1, m2] 122) : Calls Tryz.prog 53 #[.pointer (some ⟨t, 0, none⟩)] w (fun e w' => e = .returned m2 ∧ Fr [] w w') := by
 have hF := Fr.refl [] w
 refine V.en 9 Tryz.func53 fun a h1 => ?_
 refine V.sr h1 [] 2 2 [] fun a h4 => ?_
 refine V.seq fun K5 k6 => ?_
 refine V.sr h4 [] 3 3 [(4, .bool false)] fun a h9 => ?_
 refine V.cf h9 ?_
 refine V.skip ?_
 refine V.then_n (k6 _ _ ?_)
 refine V.sr h9 [(3, .b hB 4)] 5 8 [(2, m2)] fun a h12 => ?_
 refine V.ret ?_
 refine V.r1 h12 (m2) ?_
 exact ⟨rfl, hF⟩
theorem new_any (w : World) (av : List Nat) (hav : ∀ k ∈ av, k < w.heap.size) (seed : Nat) (hsd : seed < 18446744073709551616) : Calls Tryz.prog 54 #[.int .u64 (seed : Int)] w (fun e w' => ∃ t, e = .returned (.pointer (some ⟨t, 0, none⟩)) ∧ TabX 122 118 117 itI w' (gr (fun _ => False) w w') av t (newT seed) ∧ Fr [] w w') := by
 have hF := Fr.refl [] w
 refine V.en 13 Tryz.func54 fun a h1 => ?_
 refine V.sr h1 [] 2 2 [] fun a h4 => ?_
 refine V.sg fun K5 k6 => ?_
 refine V.run h4 [] 2 4 4 [(5, .agg #[.int .u64 (seed : Int), .slice none 0 0, .slice none 0 0, .int .i64 0, .int .i64 0])] fun a h7 => ?_
 refine V.go (V.mk [(5, .agg #[.int .u64 (seed : Int), .slice none 0 0, .slice none 0 0, .int .i64 0, .int .i64 0])] ⟨h7.e, trivial⟩ (by kernel_rfl) [.int .u64 (seed : Int), .slice none 0 0, .slice none 0 0, .int .i64 0, .int .i64 0] 122 (fun b => .pointer (some ⟨b, 0, none⟩)) (by kernel_rfl) ?_)
 intro w9 b8 heb8 hB10 hF11 hsb8
 have hF_12 := hF.new hF11
 refine V.pt h7 fun a h13 => ?_
 refine V.re h13 [] 1 0 [(3, .pointer (some ⟨b8, 0, none⟩))] fun a h14 => k6 _ _ ?_
 refine V.seq fun K15 k16 => ?_
 refine V.pl [([0,2,3],some (1,[])),([4],some (5,[])),([],none)] fun w17 hF18 hsw17 => ?_
 have hF_19 := hF_12.new hF18
 have hB10_20 := hB10.fr0 hF18
 refine V.pe h14 [] 7 9 [(10, .pointer (some ⟨b8, 1, none⟩))] fun a h21 => ?_
 refine V.go (V.mks (enc := idV) (4) (.slice none 0 0) nilS 24 (evc.trans (V.int_eq (by omega))) (evc.trans (V.int_eq (by omega))) (by kernel_rfl) info118 rfl rfl (by omega) (by omega) ?_)
 intro w23 b22 heb22 hR24 hF25
 have hsb22 := hR24.lt
 have hF_26 := hF_19.new hF25
 have hB10_27 := hB10_20.fr0 hF25
 refine V.pt h21 fun a h28 => ?_
 refine V.eh trivial ?_
 refine V.pe h28 [] 1 0 [(11, .pointer (some ⟨b8, 1, none⟩))] fun a h29 => ?_
 refine V.go (V.stn b8 1 (.slice (some ⟨b22, 0, none⟩) 4 4) [.slice (some ⟨b22, 0, none⟩) 4 4] h29.e h29.e rfl rfl (by kernel_rfl) hB10_27 (by simp) [.int .u64 (seed : Int), .slice (some ⟨b22, 0, none⟩) 4 4, .slice none 0 0, .int .i64 0, .int .i64 0] rfl ?_)
 intro w30 hB31 hF32 hsw30
 have hF_33 := hF_26.own hF32 (by simp <;> omega)
 have hR24_34 := hR24.fr1 hF32 (by omega)
 refine V.eh trivial ?_
 refine V.pz h29 [] 1 0 [] fun a h35 => k16 _ _ ?_
 refine V.sr h35 [] 12 12 [(2, .pointer (some ⟨b8, 0, none⟩))] fun a h38 => ?_
 refine V.ret ?_
 refine V.r1 h38 (.pointer (some ⟨b8, 0, none⟩)) ?_
 exact ⟨b8, rfl, newT_tab hB31 hR24_34 (by omega) (by omega) (by omega) hsd hav, hF_33⟩
theorem len_any (w : World) (H : Nat → Prop) (av : List Nat) (t : Nat) (T : Tb EntV) (hT : TabX 122 118 117 itI w H av t T) :
    Calls Tryz.prog 53 #[.pointer (some ⟨t, 0, none⟩)] w (fun e w' => e = .returned (.int .i64 (T.n : Int)) ∧ Fr [] w w') := by
  rcases hT.2 with ⟨hb, gA, vsA, h⟩ | ⟨hb, gA, gB, vsA, vsB, h⟩
  · exact len_blk w t T.seed T.a.length T.a.length _ _ _ _ h.blk
  · exact len_blk w t T.seed T.a.length T.a.length _ _ _ _ h.blk
theorem isp_any (w : World) (sp t : Nat) (hB : Blk w sp [.pointer (some ⟨t, 0, none⟩)] 63) : Calls Tryz.prog 29 #[.pointer (some ⟨sp, 0, none⟩)] w (fun e w' => e = .returned (.bool (true)) ∧ Fr [] w w') := by
 have hF := Fr.refl [] w
 refine V.en 12 Tryz.func29 fun a h1 => ?_
 refine V.sr h1 [] 2 2 [] fun a h4 => ?_
 refine V.sr h4 [(6, .b hB 0)] 3 11 [(2, .bool true)] fun a h7 => ?_
 refine V.ret ?_
 refine V.r1 h7 (.bool true) ?_
 exact ⟨rfl, hF⟩
theorem splen_any (w : World) (H : Nat → Prop) (av : List Nat) (sp t : Nat) (T : Tb EntV) (hB : Blk w sp [.pointer (some ⟨t, 0, none⟩)] 63) (hT : TabX 122 118 117 itI w H av t T) : Calls Tryz.prog 17 #[.pointer (some ⟨sp, 0, none⟩)] w (fun e w' => e = .returned (.int .i64 (T.n : Int)) ∧ Fr [] w w') := by
 have hF := Fr.refl [] w
 refine V.en 11 Tryz.func17 fun a h1 => ?_
 refine V.sr h1 [] 2 2 [] fun a h4 => ?_
 refine V.seq fun K5 k6 => ?_
 refine V.sg fun K7 k8 => ?_
 refine V.run h4 [] 1 1 0 [(3, .pointer (some ⟨sp, 0, none⟩))] fun a h9 => ?_
 refine V.cl h9 (Go.Proofs.enters_of Tryz.func29 (by kernel_rfl) rfl) (isp_any w sp t hB) ?_
 rintro _ w11 ⟨rfl, hF10⟩
 refine ⟨_, rfl, fun a h12 => ?_⟩
 have hsw11 := hF10.size
 have hF_13 := hF.new hF10
 have hB_14 := hB.fr0 hF10
 have hT_15 := hT.fr0 hF10
 refine V.re h12 [] 1 0 [(5, .bool false)] fun a h16 => k8 _ _ ?_
 refine V.cf h16 ?_
 refine V.skip ?_
 refine V.then_n (k6 _ _ ?_)
 refine V.sg fun K17 k18 => ?_
 refine V.run h16 [(3, .b hB_14 0)] 4 6 8 [(9, .pointer (some ⟨t, 0, none⟩))] fun a h19 => ?_
 refine V.cl h19 (Go.Proofs.enters_of Tryz.func53 (by kernel_rfl) rfl) (len_any w11 (H) (av) t (T) hT_15) ?_
 rintro _ w21 ⟨rfl, hF20⟩
 refine ⟨_, rfl, fun a h22 => ?_⟩
 have hsw21 := hF20.size
 have hF_23 := hF_13.new hF20
 refine V.re h22 [] 1 0 [(2, .int .i64 ((T).n : Int))] fun a h26 => k18 _ _ ?_
 refine V.ret ?_
 refine V.r1 h26 (.int .i64 ((T).n : Int)) ?_
 exact ⟨rfl, hF_23⟩
theorem spnew_any (w : World)  : Calls Tryz.prog 26 #[] w (fun e w' => ∃ sp t H, e = .returned (.pointer (some ⟨sp, 0, none⟩)) ∧ Blk w' sp [.pointer (some ⟨t, 0, none⟩)] 63 ∧ TabX 122 118 117 itI w' H [] t (newT 0) ∧ (∀ k, H k → w.heap.size ≤ k ∧ k < w'.heap.size ∧ k ≠ sp) ∧ w.heap.size ≤ sp ∧ Fr [] w w') := by
 have hF := Fr.refl [] w
 refine V.en 4 Tryz.func26 fun a h1 => ?_
 refine V.sr h1 [] 0 0 [] fun a h4 => ?_
 refine V.sg fun K5 k6 => ?_
 refine V.cl h4 (Go.Proofs.enters_of Tryz.func54 (by kernel_rfl) rfl) (new_any w [] (by simp) 0 (by omega)) ?_
 rintro _ w10 ⟨t7, rfl, hT8, hF9⟩
 refine ⟨_, rfl, fun a h11 => ?_⟩
 have hsw10 := hF9.size
 have hF_12 := hF.new hF9
 refine V.run h11 [] 1 1 0 [(2, .agg #[.pointer (some ⟨t7, 0, none⟩)])] fun a h13 => ?_
 refine V.go (V.mk [(2, .agg #[.pointer (some ⟨t7, 0, none⟩)])] ⟨h13.e, trivial⟩ (by kernel_rfl) [.pointer (some ⟨t7, 0, none⟩)] 63 (fun b => .pointer (some ⟨b, 0, none⟩)) (by kernel_rfl) ?_)
 intro w15 b14 heb14 hB16 hF17 hsb14
 have hF_18 := hF_12.new hF17
 have hT8_19 := hT8.alloc hF17 heb14 (by omega)
 refine V.pt h13 fun a h20 => ?_
 refine V.re h20 [] 1 0 [(0, .pointer (some ⟨b14, 0, none⟩))] fun a h21 => k6 _ _ ?_
 refine V.ret ?_
 refine V.r1 h21 (.pointer (some ⟨b14, 0, none⟩)) ?_
 exact ⟨_, _, _, rfl, hB16, hT8_19.sub (by simp) (fun _ _ q => q), (fun k hk => by rcases hk with hk | hk; exact hk.elim; exact ⟨by omega, by omega, by omega⟩), by omega, hF_18⟩
end Go.Proofs.YtjkegckfncfoaaaGreat
end
