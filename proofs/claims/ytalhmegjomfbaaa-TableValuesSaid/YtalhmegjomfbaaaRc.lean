/- Walks: the reference: Look, Get, Put, New. -/
import Derived.Test.YtalhmegjomfbaaaProg
import Derived.Test.YtalhmegjomfbaaaRb
namespace Go.Proofs.Ytalhmegjomfbaaa
open Go.V Go.Base
open Go.RowKit (Below)
attribute [local irreducible] Act.put Act.eval
set_option linter.unusedVariables false
set_option linter.unusedSimpArgs false
section
variable {w : World} {H : Nat → Prop} {av : List Nat} {t : Nat} {T : Tb Int}
theorem rfind_any (w : World) (H : Nat → Prop) (av : List Nat) (t : Nat) (T : Tb Int) (hT : TabX 40 42 60 itI w H av t T) (k : ByteArray) (hk : k.size ≤ 9223372036854775807) :
    Calls Try.prog 71 #[.pointer (some ⟨t, 0, none⟩), .string k] w (fun e w' => e = .returned (.tuple #[.int .i64 (rfT T k).1, .int .i64 (rfT T k).2.1, .int .i64 (rfT T k).2.2]) ∧ Fr [] w w') := by
  rcases hT.2 with ⟨hb, gA, vsA, h⟩ | ⟨hb, gA, gB, vsA, vsB, h⟩
  · exact rfind_N w H av t gA vsA T hT.1 h k hk (by rw [hb]; rfl)
  · exact rfind_M w H av t gA gB vsA vsB T hT.1 h k hk (fun h => hb (List.eq_nil_of_length_eq_zero h))
theorem rstep_any (w : World) (H : Nat → Prop) (av : List Nat) (t : Nat) (T : Tb Int) (hT : TabX 40 42 60 itI w H av t T) (hm : T.Mv) :
    Calls Try.prog 49 #[.pointer (some ⟨t, 0, none⟩)] w (fun e w' => e = .returned (.bool (decide ((tbStep T).b.length ≠ 0))) ∧ TabX 40 42 60 itI w' (gr H w w') av t (tbStep T) ∧ FrP (gp H av) w w') := by
  rcases hT.2 with ⟨hb, gA, vsA, h⟩ | ⟨hb, gA, gB, vsA, vsB, h⟩
  · have hb0 : T.b.length = 0 := by rw [hb]; rfl
    have hst : tbStep T = T := by unfold tbStep; rw [if_pos hb0]
    refine (rstep_N w H av t gA vsA T hT.1 h hb0).mono fun e w' q => ⟨?_, ?_, (FrP.refl _ _).tr0 q.2⟩
    · rw [hst, q.1, decide_eq_false (by omega)]
    · rw [hst]; exact (hT.fr0 q.2).gr1
  · exact rstep_M w H av t gA gB vsA vsB T hT.1 h (fun h => hb (List.eq_nil_of_length_eq_zero h)) hm
end
set_option maxHeartbeats 4000000 in
set_option maxRecDepth 20000 in
theorem rlook_any (w : World) (H : Nat → Prop) (av : List Nat) (t : Nat) (T1 : Tb Int) (hT : TabX 40 42 60 itI w H av t T1) (k : ByteArray) (hkz : k.size ≤ 9223372036854775807) : Calls Try.prog 48 #[.pointer (some ⟨t, 0, none⟩), .string k] w (fun e w' => e = .returned (.tuple #[.int .i64 (lookT 0 T1 k).1, .bool (lookT 0 T1 k).2]) ∧ Fr [] w w') := by
 have hFP := FrP.refl (gp H av) w
 have hF := Fr.refl [] w
 refine V.enter 43 Try.func48 rfl rfl ?_
 intro a hz ha
 have s0 : a.eval (.tmp 0) = (.pointer (some ⟨t, 0, none⟩)) := ha 0 _ rfl
 have s1 : a.eval (.tmp 1) = (.string k) := ha 1 _ rfl
 clear ha
 refine V.seq (fun K1 hK2 => ?_)
 refine V.rg ?_
 refine V.ga evc ?_
 refine V.ga evc ?_
 refine V.nil ?_
 refine V.then_n (hK2 _ _ ?_)
 refine V.seq (fun K3 hK4 => ?_)
 refine V.rg ?_
 refine V.gm (o2 rfl s0) ?_
 refine V.gm (o2 rfl (o1 rfl s1)) ?_
 have hok1 := hT.1
 rcases findT_cases hok1 k with hf | ⟨j, hf, hj⟩ | ⟨hbn, j, hf, hj⟩
 ·
  rcases hT.2 with ⟨hb0, gA, vsA, hN⟩ | ⟨hb0, gA, gB, vsA, vsB, hN⟩
  ·
   have hb1 : T1.b.length = 0 := by rw [hb0]; rfl
   obtain ⟨hB, hRA, hlA, hK, hne, hpt, hpg⟩ := hN
   replace hK := hK.toH
   have hltt := hB.lt
   have hltg := hRA.lt
   have hE : FrP (gp (H) av) w w := FrP.refl _ _
   have hK0 : ∀ k ∈ av, k < w.heap.size := fun k hk => hK.avl k (by simp [hk])
   obtain ⟨hsd, hpa, hla, hlb, hmv, hmz, hnn, hcn, hks⟩ := (show T1.Ok from hok1)
   have hbl := hok1.bl
   have hFPE := hFP
   refine V.go (V.call 71 #[] #[.pointer (some ⟨t, 0, none⟩), .string k] evf (args2 (o1 rfl (sm hz.p2 rfl)) (sm hz.p2.p1 rfl)) (Go.Proofs.enters_of Try.func71 (by kernel_rfl) rfl) (by have h := rfind_any w (H) (av) t T1 hT k hkz; rw [rfT_no hf] at h; exact h) ?_)
   rintro _ w6 ⟨rfl, hF5⟩
   refine ⟨_, rfl, ?_⟩
   have hsw6 := hF5.size
   have hF_7 := hF.new hF5
   have hB_8 := hB.fr0 hF5
   have hRA_9 := hRA.fr0 hF5
   have hK_10 := hK.fr0 hF5
   have hE_11 := hE.tr0 hF5
   refine V.gm (sm hz.p4 rfl) ?_
   refine V.ge_ [(9, .tuple #[.int .i64 (-1), .int .i64 0, .int .i64 0])] ⟨(sm hz.p4.p1 rfl), trivial⟩ (.int .i64 (-1)) ?_
   refine V.ge_ [(9, .tuple #[.int .i64 (-1), .int .i64 0, .int .i64 0])] ⟨(o1 rfl (sm hz.p4.p1 rfl)), trivial⟩ (.int .i64 0) ?_
   refine V.ge_ [(9, .tuple #[.int .i64 (-1), .int .i64 0, .int .i64 0])] ⟨(o2 rfl (sm hz.p4.p1 rfl)), trivial⟩ (.int .i64 0) ?_
   refine V.ga (o2 rfl (sm hz.p4.p2 rfl)) ?_
   refine V.ga (o2 rfl (sm hz.p4.p2.p1 rfl)) ?_
   refine V.ga (o2 rfl (sm hz.p8 rfl)) ?_
   refine V.nil ?_
   refine V.then_n (hK4 _ _ ?_)
   refine V.flushW hz.p8.p4 (fun a12 hz13 up14 => ?_)
   have s0_15 := up14 0 _ (o8 rfl (o4 rfl s0))
   have s6_16 := up14 6 _ (o2 rfl (sm hz.p8.p1 rfl))
   have s7_17 := up14 7 _ (o1 rfl (sm hz.p8.p2 rfl))
   have s8_18 := up14 8 _ (sm hz.p8.p2.p1 rfl)
   clear up14
   refine V.seq (fun K19 hK20 => ?_)
   refine V.seq (fun K21 hK22 => ?_)
   refine V.rg ?_
   refine V.gm (s6_16) ?_
   refine V.nil ?_
   refine V.then_n (hK22 _ _ ?_)
   refine V.block ?_
   refine V.seq (fun K23 hK24 => ?_)
   refine V.rg ?_
   refine V.ge_ [(16, .int .i64 (-1))] ⟨(sm hz13 rfl), trivial⟩ (.bool false) ?_
   refine V.ga (sm hz13.p1 rfl) ?_
   refine V.nil ?_
   refine V.then_n (hK24 _ _ ?_)
   refine V.cond_f (sm hz13.p2 rfl) ?_
   refine V.seq (fun K25 hK26 => ?_)
   refine V.rg ?_
   refine V.ge_ [(16, .int .i64 (-1))] ⟨(o2 rfl (sm hz13 rfl)), trivial⟩ (.bool false) ?_
   refine V.ga (sm hz13.p2.p1 rfl) ?_
   refine V.nil ?_
   refine V.then_n (hK26 _ _ ?_)
   refine V.flushW hz13.p4.p1 (fun a27 hz28 up29 => ?_)
   have s0_30 := up29 0 _ (o4 rfl (o1 rfl s0_15))
   have s7_31 := up29 7 _ (o4 rfl (o1 rfl s7_17))
   have s8_32 := up29 8 _ (o4 rfl (o1 rfl s8_18))
   have s30_33 := up29 30 _ (sm hz13.p4 rfl)
   clear up29
   refine V.cond_f (s30_33) ?_
   refine V.skip ?_
   refine V.blk_n ?_
   refine V.then_n (hK20 _ _ ?_)
   refine V.seq (fun K34 hK35 => ?_)
   refine V.rg ?_
   refine V.ga evc ?_
   refine V.ga evc ?_
   refine V.nil ?_
   refine V.then_n (hK35 _ _ ?_)
   refine V.ret ?_
   refine V.ret2 hz28.p2 rfl (o1 rfl (sm hz28 rfl)) (sm hz28.p1 rfl) ?_
   refine ⟨?_, hF_7⟩
   unfold lookT; rw [hf]
   rfl
  ·
   have hb1 : T1.b.length ≠ 0 := fun h => hb0 (List.eq_nil_of_length_eq_zero h)
   obtain ⟨hB, hRA, hRB, hlA, hlB, hK, hne, hne2, hne3, hpt, hpg, hph⟩ := hN
   replace hK := hK.toH
   have hltt := hB.lt
   have hltg := hRA.lt
   have hltg2 := hRB.lt
   have hE : FrP (gp (H) av) w w := FrP.refl _ _
   have hK0 : ∀ k ∈ av, k < w.heap.size := fun k hk => hK.avl k (by simp [hk])
   obtain ⟨hsd, hpa, hla, hlb, hmv, hmz, hnn, hcn, hks⟩ := (show T1.Ok from hok1)
   have hbl := hok1.bl
   have hFPE := hFP
   refine V.go (V.call 71 #[] #[.pointer (some ⟨t, 0, none⟩), .string k] evf (args2 (o1 rfl (sm hz.p2 rfl)) (sm hz.p2.p1 rfl)) (Go.Proofs.enters_of Try.func71 (by kernel_rfl) rfl) (by have h := rfind_any w (H) (av) t T1 hT k hkz; rw [rfT_no hf] at h; exact h) ?_)
   rintro _ w37 ⟨rfl, hF36⟩
   refine ⟨_, rfl, ?_⟩
   have hsw37 := hF36.size
   have hF_38 := hF.new hF36
   have hB_39 := hB.fr0 hF36
   have hRA_40 := hRA.fr0 hF36
   have hRB_41 := hRB.fr0 hF36
   have hK_42 := hK.fr0 hF36
   have hE_43 := hE.tr0 hF36
   refine V.gm (sm hz.p4 rfl) ?_
   refine V.ge_ [(9, .tuple #[.int .i64 (-1), .int .i64 0, .int .i64 0])] ⟨(sm hz.p4.p1 rfl), trivial⟩ (.int .i64 (-1)) ?_
   refine V.ge_ [(9, .tuple #[.int .i64 (-1), .int .i64 0, .int .i64 0])] ⟨(o1 rfl (sm hz.p4.p1 rfl)), trivial⟩ (.int .i64 0) ?_
   refine V.ge_ [(9, .tuple #[.int .i64 (-1), .int .i64 0, .int .i64 0])] ⟨(o2 rfl (sm hz.p4.p1 rfl)), trivial⟩ (.int .i64 0) ?_
   refine V.ga (o2 rfl (sm hz.p4.p2 rfl)) ?_
   refine V.ga (o2 rfl (sm hz.p4.p2.p1 rfl)) ?_
   refine V.ga (o2 rfl (sm hz.p8 rfl)) ?_
   refine V.nil ?_
   refine V.then_n (hK4 _ _ ?_)
   refine V.flushW hz.p8.p4 (fun a44 hz45 up46 => ?_)
   have s0_47 := up46 0 _ (o8 rfl (o4 rfl s0))
   have s6_48 := up46 6 _ (o2 rfl (sm hz.p8.p1 rfl))
   have s7_49 := up46 7 _ (o1 rfl (sm hz.p8.p2 rfl))
   have s8_50 := up46 8 _ (sm hz.p8.p2.p1 rfl)
   clear up46
   refine V.seq (fun K51 hK52 => ?_)
   refine V.seq (fun K53 hK54 => ?_)
   refine V.rg ?_
   refine V.gm (s6_48) ?_
   refine V.nil ?_
   refine V.then_n (hK54 _ _ ?_)
   refine V.block ?_
   refine V.seq (fun K55 hK56 => ?_)
   refine V.rg ?_
   refine V.ge_ [(16, .int .i64 (-1))] ⟨(sm hz45 rfl), trivial⟩ (.bool false) ?_
   refine V.ga (sm hz45.p1 rfl) ?_
   refine V.nil ?_
   refine V.then_n (hK56 _ _ ?_)
   refine V.cond_f (sm hz45.p2 rfl) ?_
   refine V.seq (fun K57 hK58 => ?_)
   refine V.rg ?_
   refine V.ge_ [(16, .int .i64 (-1))] ⟨(o2 rfl (sm hz45 rfl)), trivial⟩ (.bool false) ?_
   refine V.ga (sm hz45.p2.p1 rfl) ?_
   refine V.nil ?_
   refine V.then_n (hK58 _ _ ?_)
   refine V.flushW hz45.p4.p1 (fun a59 hz60 up61 => ?_)
   have s0_62 := up61 0 _ (o4 rfl (o1 rfl s0_47))
   have s7_63 := up61 7 _ (o4 rfl (o1 rfl s7_49))
   have s8_64 := up61 8 _ (o4 rfl (o1 rfl s8_50))
   have s30_65 := up61 30 _ (sm hz45.p4 rfl)
   clear up61
   refine V.cond_f (s30_65) ?_
   refine V.skip ?_
   refine V.blk_n ?_
   refine V.then_n (hK52 _ _ ?_)
   refine V.seq (fun K66 hK67 => ?_)
   refine V.rg ?_
   refine V.ga evc ?_
   refine V.ga evc ?_
   refine V.nil ?_
   refine V.then_n (hK67 _ _ ?_)
   refine V.ret ?_
   refine V.ret2 hz60.p2 rfl (o1 rfl (sm hz60 rfl)) (sm hz60.p1 rfl) ?_
   refine ⟨?_, hF_38⟩
   unfold lookT; rw [hf]
   rfl
 ·
  rcases hT.2 with ⟨hb0, gA, vsA, hN⟩ | ⟨hb0, gA, gB, vsA, vsB, hN⟩
  ·
   have hb1 : T1.b.length = 0 := by rw [hb0]; rfl
   obtain ⟨hB, hRA, hlA, hK, hne, hpt, hpg⟩ := hN
   replace hK := hK.toH
   have hltt := hB.lt
   have hltg := hRA.lt
   have hE : FrP (gp (H) av) w w := FrP.refl _ _
   have hK0 : ∀ k ∈ av, k < w.heap.size := fun k hk => hK.avl k (by simp [hk])
   obtain ⟨hsd, hpa, hla, hlb, hmv, hmz, hnn, hcn, hks⟩ := (show T1.Ok from hok1)
   have hbl := hok1.bl
   have hFPE := hFP
   refine V.go (V.call 71 #[] #[.pointer (some ⟨t, 0, none⟩), .string k] evf (args2 (o1 rfl (sm hz.p2 rfl)) (sm hz.p2.p1 rfl)) (Go.Proofs.enters_of Try.func71 (by kernel_rfl) rfl) (by have h := rfind_any w (H) (av) t T1 hT k hkz; rw [rfT_yes hf] at h; exact h) ?_)
   rintro _ w69 ⟨rfl, hF68⟩
   refine ⟨_, rfl, ?_⟩
   have hsw69 := hF68.size
   have hF_70 := hF.new hF68
   have hB_71 := hB.fr0 hF68
   have hRA_72 := hRA.fr0 hF68
   have hK_73 := hK.fr0 hF68
   have hE_74 := hE.tr0 hF68
   have hbkl := bkt_lt T1.seed k (n := T1.a.length) (by omega)
   have hbq := hbl (bkt T1.seed T1.a.length k)
   refine V.gm (sm hz.p4 rfl) ?_
   refine V.ge_ [(9, .tuple #[.int .i64 0, .int .i64 ((bkt T1.seed T1.a.length k : Nat) : Int), .int .i64 (j : Int)])] ⟨(sm hz.p4.p1 rfl), trivial⟩ (.int .i64 0) ?_
   refine V.ge_ [(9, .tuple #[.int .i64 0, .int .i64 ((bkt T1.seed T1.a.length k : Nat) : Int), .int .i64 (j : Int)])] ⟨(o1 rfl (sm hz.p4.p1 rfl)), trivial⟩ (.int .i64 ((bkt T1.seed T1.a.length k : Nat) : Int)) ?_
   refine V.ge_ [(9, .tuple #[.int .i64 0, .int .i64 ((bkt T1.seed T1.a.length k : Nat) : Int), .int .i64 (j : Int)])] ⟨(o2 rfl (sm hz.p4.p1 rfl)), trivial⟩ (.int .i64 (j : Int)) ?_
   refine V.ga (o2 rfl (sm hz.p4.p2 rfl)) ?_
   refine V.ga (o2 rfl (sm hz.p4.p2.p1 rfl)) ?_
   refine V.ga (o2 rfl (sm hz.p8 rfl)) ?_
   refine V.nil ?_
   refine V.then_n (hK4 _ _ ?_)
   refine V.flushW hz.p8.p4 (fun a75 hz76 up77 => ?_)
   have s0_78 := up77 0 _ (o8 rfl (o4 rfl s0))
   have s6_79 := up77 6 _ (o2 rfl (sm hz.p8.p1 rfl))
   have s7_80 := up77 7 _ (o1 rfl (sm hz.p8.p2 rfl))
   have s8_81 := up77 8 _ (sm hz.p8.p2.p1 rfl)
   clear up77
   refine V.seq (fun K82 hK83 => ?_)
   refine V.seq (fun K84 hK85 => ?_)
   refine V.rg ?_
   refine V.gm (s6_79) ?_
   refine V.nil ?_
   refine V.then_n (hK85 _ _ ?_)
   refine V.block ?_
   refine V.seq (fun K86 hK87 => ?_)
   refine V.rg ?_
   refine V.ge_ [(16, .int .i64 0)] ⟨(sm hz76 rfl), trivial⟩ (.bool true) ?_
   refine V.ga (sm hz76.p1 rfl) ?_
   refine V.nil ?_
   refine V.then_n (hK87 _ _ ?_)
   refine V.cond_t (sm hz76.p2 rfl) ?_
   refine V.seq (fun K88 hK89 => ?_)
   refine V.rg ?_
   refine V.gm (o2 rfl (o1 rfl s0_78)) ?_
   refine V.ge_ [(19, .pointer (some ⟨t, 0, none⟩))] ⟨(sm hz76.p2.p1 rfl), trivial⟩ (.pointer (some ⟨t, 0, none⟩)) ?_
   refine V.ge_ [(20, .pointer (some ⟨t, 0, none⟩))] ⟨(sm hz76.p4 rfl), trivial⟩ (.pointer (some ⟨t, 1, none⟩)) ?_
   refine V.go (V.ld ⟨t, 1, none⟩ (.slice (some ⟨gA, 0, none⟩) T1.a.length T1.a.length) (sm hz76.p4.p1 rfl) (by kernel_rfl) (hB_71.at 1 rfl) ?_)
   refine V.gm (o4 rfl (o2 rfl (o1 rfl s7_80))) ?_
   refine V.go (V.ixa gA 0 T1.a.length T1.a.length .i64 ((bkt T1.seed T1.a.length k : Nat) : Int) 1 (o1 rfl (sm hz76.p4.p2 rfl)) (sm hz76.p4.p2.p1 rfl) (by omega) (by omega) (by kernel_rfl) ?_)
   obtain ⟨A90, c91, hv92⟩ := hK_73.getA hlA (i := (bkt T1.seed T1.a.length k)) (by omega) nilS
   refine V.go (V.ld ⟨gA, 0 + ((bkt T1.seed T1.a.length k : Nat) : Int).toNat * 1, none⟩ (.slice A90 ((T1.a.getD (bkt T1.seed T1.a.length k) []).length) c91) (sm hz76.p8 rfl) (by kernel_rfl) ((hRA_72.at (bkt T1.seed T1.a.length k) nilS (by omega)).trans (congrArg some hv92)) ?_)
   have hS93 := hK_73.slA hlA (i := (bkt T1.seed T1.a.length k)) (by omega) hv92
   refine V.gm (o8 rfl (o2 rfl s8_81)) ?_
   obtain ⟨g94, o95, hA96, hA96l, hA96z⟩ := hS93.addr (by omega)
   refine V.go (V.ixa g94 o95 ((T1.a.getD (bkt T1.seed T1.a.length k) []).length) c91 .i64 (j : Int) 2 ((o1 rfl (sm hz76.p8.p1 rfl)).trans (by rw [hA96])) (sm hz76.p8.p2 rfl) (by omega) (by omega) (by kernel_rfl) ?_)
   refine V.go (V.fa (sm hz76.p8.p2.p1 rfl) 1 (fun _ _ => by kernel_rfl) ?_)
   obtain ⟨cs97, hok98, hE99⟩ := hS93.els hA96 (j : Int) (by omega) (by omega)
   obtain rfl : cs97 = [.string (at_ itI (T1.a.getD (bkt T1.seed T1.a.length k) []) (j : Int)).1, .int .i64 (at_ itI (T1.a.getD (bkt T1.seed T1.a.length k) []) (j : Int)).2] := hok98
   refine V.go (V.ld ⟨g94, (o95 + (j : Int).toNat * 2) + 1, none⟩ (.int .i64 ((at_ itI (T1.a.getD (bkt T1.seed T1.a.length k) []) (j : Int)).2)) (sm hz76.p8.p4 rfl) (by kernel_rfl) (hE99.at 1 rfl) ?_)
   refine V.ga (sm hz76.p8.p4.p1 rfl) ?_
   refine V.ga evc ?_
   refine V.nil ?_
   refine V.then_n (hK89 _ _ ?_)
   refine V.flushW hz76.p16 (fun a100 hz101 up102 => ?_)
   have s4_103 := up102 4 _ (o1 rfl (sm hz76.p8.p4.p2 rfl))
   have s5_104 := up102 5 _ (sm hz76.p8.p4.p2.p1 rfl)
   clear up102
   refine V.ret ?_
   refine V.blk_r ?_
   refine V.then_r ?_
   refine V.ret2 hz101 rfl (s4_103) (s5_104) ?_
   refine ⟨?_, hF_70⟩
   unfold lookT; rw [hf]
   rfl
  ·
   have hb1 : T1.b.length ≠ 0 := fun h => hb0 (List.eq_nil_of_length_eq_zero h)
   obtain ⟨hB, hRA, hRB, hlA, hlB, hK, hne, hne2, hne3, hpt, hpg, hph⟩ := hN
   replace hK := hK.toH
   have hltt := hB.lt
   have hltg := hRA.lt
   have hltg2 := hRB.lt
   have hE : FrP (gp (H) av) w w := FrP.refl _ _
   have hK0 : ∀ k ∈ av, k < w.heap.size := fun k hk => hK.avl k (by simp [hk])
   obtain ⟨hsd, hpa, hla, hlb, hmv, hmz, hnn, hcn, hks⟩ := (show T1.Ok from hok1)
   have hbl := hok1.bl
   have hFPE := hFP
   refine V.go (V.call 71 #[] #[.pointer (some ⟨t, 0, none⟩), .string k] evf (args2 (o1 rfl (sm hz.p2 rfl)) (sm hz.p2.p1 rfl)) (Go.Proofs.enters_of Try.func71 (by kernel_rfl) rfl) (by have h := rfind_any w (H) (av) t T1 hT k hkz; rw [rfT_yes hf] at h; exact h) ?_)
   rintro _ w106 ⟨rfl, hF105⟩
   refine ⟨_, rfl, ?_⟩
   have hsw106 := hF105.size
   have hF_107 := hF.new hF105
   have hB_108 := hB.fr0 hF105
   have hRA_109 := hRA.fr0 hF105
   have hRB_110 := hRB.fr0 hF105
   have hK_111 := hK.fr0 hF105
   have hE_112 := hE.tr0 hF105
   have hbkl := bkt_lt T1.seed k (n := T1.a.length) (by omega)
   have hbq := hbl (bkt T1.seed T1.a.length k)
   refine V.gm (sm hz.p4 rfl) ?_
   refine V.ge_ [(9, .tuple #[.int .i64 0, .int .i64 ((bkt T1.seed T1.a.length k : Nat) : Int), .int .i64 (j : Int)])] ⟨(sm hz.p4.p1 rfl), trivial⟩ (.int .i64 0) ?_
   refine V.ge_ [(9, .tuple #[.int .i64 0, .int .i64 ((bkt T1.seed T1.a.length k : Nat) : Int), .int .i64 (j : Int)])] ⟨(o1 rfl (sm hz.p4.p1 rfl)), trivial⟩ (.int .i64 ((bkt T1.seed T1.a.length k : Nat) : Int)) ?_
   refine V.ge_ [(9, .tuple #[.int .i64 0, .int .i64 ((bkt T1.seed T1.a.length k : Nat) : Int), .int .i64 (j : Int)])] ⟨(o2 rfl (sm hz.p4.p1 rfl)), trivial⟩ (.int .i64 (j : Int)) ?_
   refine V.ga (o2 rfl (sm hz.p4.p2 rfl)) ?_
   refine V.ga (o2 rfl (sm hz.p4.p2.p1 rfl)) ?_
   refine V.ga (o2 rfl (sm hz.p8 rfl)) ?_
   refine V.nil ?_
   refine V.then_n (hK4 _ _ ?_)
   refine V.flushW hz.p8.p4 (fun a113 hz114 up115 => ?_)
   have s0_116 := up115 0 _ (o8 rfl (o4 rfl s0))
   have s6_117 := up115 6 _ (o2 rfl (sm hz.p8.p1 rfl))
   have s7_118 := up115 7 _ (o1 rfl (sm hz.p8.p2 rfl))
   have s8_119 := up115 8 _ (sm hz.p8.p2.p1 rfl)
   clear up115
   refine V.seq (fun K120 hK121 => ?_)
   refine V.seq (fun K122 hK123 => ?_)
   refine V.rg ?_
   refine V.gm (s6_117) ?_
   refine V.nil ?_
   refine V.then_n (hK123 _ _ ?_)
   refine V.block ?_
   refine V.seq (fun K124 hK125 => ?_)
   refine V.rg ?_
   refine V.ge_ [(16, .int .i64 0)] ⟨(sm hz114 rfl), trivial⟩ (.bool true) ?_
   refine V.ga (sm hz114.p1 rfl) ?_
   refine V.nil ?_
   refine V.then_n (hK125 _ _ ?_)
   refine V.cond_t (sm hz114.p2 rfl) ?_
   refine V.seq (fun K126 hK127 => ?_)
   refine V.rg ?_
   refine V.gm (o2 rfl (o1 rfl s0_116)) ?_
   refine V.ge_ [(19, .pointer (some ⟨t, 0, none⟩))] ⟨(sm hz114.p2.p1 rfl), trivial⟩ (.pointer (some ⟨t, 0, none⟩)) ?_
   refine V.ge_ [(20, .pointer (some ⟨t, 0, none⟩))] ⟨(sm hz114.p4 rfl), trivial⟩ (.pointer (some ⟨t, 1, none⟩)) ?_
   refine V.go (V.ld ⟨t, 1, none⟩ (.slice (some ⟨gA, 0, none⟩) T1.a.length T1.a.length) (sm hz114.p4.p1 rfl) (by kernel_rfl) (hB_108.at 1 rfl) ?_)
   refine V.gm (o4 rfl (o2 rfl (o1 rfl s7_118))) ?_
   refine V.go (V.ixa gA 0 T1.a.length T1.a.length .i64 ((bkt T1.seed T1.a.length k : Nat) : Int) 1 (o1 rfl (sm hz114.p4.p2 rfl)) (sm hz114.p4.p2.p1 rfl) (by omega) (by omega) (by kernel_rfl) ?_)
   obtain ⟨A128, c129, hv130⟩ := hK_111.getA hlA (i := (bkt T1.seed T1.a.length k)) (by omega) nilS
   refine V.go (V.ld ⟨gA, 0 + ((bkt T1.seed T1.a.length k : Nat) : Int).toNat * 1, none⟩ (.slice A128 ((T1.a.getD (bkt T1.seed T1.a.length k) []).length) c129) (sm hz114.p8 rfl) (by kernel_rfl) ((hRA_109.at (bkt T1.seed T1.a.length k) nilS (by omega)).trans (congrArg some hv130)) ?_)
   have hS131 := hK_111.slA hlA (i := (bkt T1.seed T1.a.length k)) (by omega) hv130
   refine V.gm (o8 rfl (o2 rfl s8_119)) ?_
   obtain ⟨g132, o133, hA134, hA134l, hA134z⟩ := hS131.addr (by omega)
   refine V.go (V.ixa g132 o133 ((T1.a.getD (bkt T1.seed T1.a.length k) []).length) c129 .i64 (j : Int) 2 ((o1 rfl (sm hz114.p8.p1 rfl)).trans (by rw [hA134])) (sm hz114.p8.p2 rfl) (by omega) (by omega) (by kernel_rfl) ?_)
   refine V.go (V.fa (sm hz114.p8.p2.p1 rfl) 1 (fun _ _ => by kernel_rfl) ?_)
   obtain ⟨cs135, hok136, hE137⟩ := hS131.els hA134 (j : Int) (by omega) (by omega)
   obtain rfl : cs135 = [.string (at_ itI (T1.a.getD (bkt T1.seed T1.a.length k) []) (j : Int)).1, .int .i64 (at_ itI (T1.a.getD (bkt T1.seed T1.a.length k) []) (j : Int)).2] := hok136
   refine V.go (V.ld ⟨g132, (o133 + (j : Int).toNat * 2) + 1, none⟩ (.int .i64 ((at_ itI (T1.a.getD (bkt T1.seed T1.a.length k) []) (j : Int)).2)) (sm hz114.p8.p4 rfl) (by kernel_rfl) (hE137.at 1 rfl) ?_)
   refine V.ga (sm hz114.p8.p4.p1 rfl) ?_
   refine V.ga evc ?_
   refine V.nil ?_
   refine V.then_n (hK127 _ _ ?_)
   refine V.flushW hz114.p16 (fun a138 hz139 up140 => ?_)
   have s4_141 := up140 4 _ (o1 rfl (sm hz114.p8.p4.p2 rfl))
   have s5_142 := up140 5 _ (sm hz114.p8.p4.p2.p1 rfl)
   clear up140
   refine V.ret ?_
   refine V.blk_r ?_
   refine V.then_r ?_
   refine V.ret2 hz139 rfl (s4_141) (s5_142) ?_
   refine ⟨?_, hF_107⟩
   unfold lookT; rw [hf]
   rfl
 ·
  rcases hT.2 with ⟨hb0, gA, vsA, hN⟩ | ⟨hb0, gA, gB, vsA, vsB, hN⟩
  ·
   exact absurd (by rw [hb0]; rfl) hbn
  ·
   have hb1 : T1.b.length ≠ 0 := fun h => hb0 (List.eq_nil_of_length_eq_zero h)
   obtain ⟨hB, hRA, hRB, hlA, hlB, hK, hne, hne2, hne3, hpt, hpg, hph⟩ := hN
   replace hK := hK.toH
   have hltt := hB.lt
   have hltg := hRA.lt
   have hltg2 := hRB.lt
   have hE : FrP (gp (H) av) w w := FrP.refl _ _
   have hK0 : ∀ k ∈ av, k < w.heap.size := fun k hk => hK.avl k (by simp [hk])
   obtain ⟨hsd, hpa, hla, hlb, hmv, hmz, hnn, hcn, hks⟩ := (show T1.Ok from hok1)
   have hbl := hok1.bl
   have hFPE := hFP
   refine V.go (V.call 71 #[] #[.pointer (some ⟨t, 0, none⟩), .string k] evf (args2 (o1 rfl (sm hz.p2 rfl)) (sm hz.p2.p1 rfl)) (Go.Proofs.enters_of Try.func71 (by kernel_rfl) rfl) (by have h := rfind_any w (H) (av) t T1 hT k hkz; rw [rfT_yes hf] at h; exact h) ?_)
   rintro _ w144 ⟨rfl, hF143⟩
   refine ⟨_, rfl, ?_⟩
   have hsw144 := hF143.size
   have hF_145 := hF.new hF143
   have hB_146 := hB.fr0 hF143
   have hRA_147 := hRA.fr0 hF143
   have hRB_148 := hRB.fr0 hF143
   have hK_149 := hK.fr0 hF143
   have hE_150 := hE.tr0 hF143
   have hbkl := bkt_lt T1.seed k (n := T1.b.length) (by omega)
   have hbq := hbl (bkt T1.seed T1.b.length k)
   refine V.gm (sm hz.p4 rfl) ?_
   refine V.ge_ [(9, .tuple #[.int .i64 1, .int .i64 ((bkt T1.seed T1.b.length k : Nat) : Int), .int .i64 (j : Int)])] ⟨(sm hz.p4.p1 rfl), trivial⟩ (.int .i64 1) ?_
   refine V.ge_ [(9, .tuple #[.int .i64 1, .int .i64 ((bkt T1.seed T1.b.length k : Nat) : Int), .int .i64 (j : Int)])] ⟨(o1 rfl (sm hz.p4.p1 rfl)), trivial⟩ (.int .i64 ((bkt T1.seed T1.b.length k : Nat) : Int)) ?_
   refine V.ge_ [(9, .tuple #[.int .i64 1, .int .i64 ((bkt T1.seed T1.b.length k : Nat) : Int), .int .i64 (j : Int)])] ⟨(o2 rfl (sm hz.p4.p1 rfl)), trivial⟩ (.int .i64 (j : Int)) ?_
   refine V.ga (o2 rfl (sm hz.p4.p2 rfl)) ?_
   refine V.ga (o2 rfl (sm hz.p4.p2.p1 rfl)) ?_
   refine V.ga (o2 rfl (sm hz.p8 rfl)) ?_
   refine V.nil ?_
   refine V.then_n (hK4 _ _ ?_)
   refine V.flushW hz.p8.p4 (fun a151 hz152 up153 => ?_)
   have s0_154 := up153 0 _ (o8 rfl (o4 rfl s0))
   have s6_155 := up153 6 _ (o2 rfl (sm hz.p8.p1 rfl))
   have s7_156 := up153 7 _ (o1 rfl (sm hz.p8.p2 rfl))
   have s8_157 := up153 8 _ (sm hz.p8.p2.p1 rfl)
   clear up153
   refine V.seq (fun K158 hK159 => ?_)
   refine V.seq (fun K160 hK161 => ?_)
   refine V.rg ?_
   refine V.gm (s6_155) ?_
   refine V.nil ?_
   refine V.then_n (hK161 _ _ ?_)
   refine V.block ?_
   refine V.seq (fun K162 hK163 => ?_)
   refine V.rg ?_
   refine V.ge_ [(16, .int .i64 1)] ⟨(sm hz152 rfl), trivial⟩ (.bool false) ?_
   refine V.ga (sm hz152.p1 rfl) ?_
   refine V.nil ?_
   refine V.then_n (hK163 _ _ ?_)
   refine V.cond_f (sm hz152.p2 rfl) ?_
   refine V.seq (fun K164 hK165 => ?_)
   refine V.rg ?_
   refine V.ge_ [(16, .int .i64 1)] ⟨(o2 rfl (sm hz152 rfl)), trivial⟩ (.bool true) ?_
   refine V.ga (sm hz152.p2.p1 rfl) ?_
   refine V.nil ?_
   refine V.then_n (hK165 _ _ ?_)
   refine V.flushW hz152.p4.p1 (fun a166 hz167 up168 => ?_)
   have s0_169 := up168 0 _ (o4 rfl (o1 rfl s0_154))
   have s7_170 := up168 7 _ (o4 rfl (o1 rfl s7_156))
   have s8_171 := up168 8 _ (o4 rfl (o1 rfl s8_157))
   have s30_172 := up168 30 _ (sm hz152.p4 rfl)
   clear up168
   refine V.cond_t (s30_172) ?_
   refine V.seq (fun K173 hK174 => ?_)
   refine V.rg ?_
   refine V.gm (s0_169) ?_
   refine V.ge_ [(32, .pointer (some ⟨t, 0, none⟩))] ⟨(sm hz167 rfl), trivial⟩ (.pointer (some ⟨t, 0, none⟩)) ?_
   refine V.ge_ [(33, .pointer (some ⟨t, 0, none⟩))] ⟨(sm hz167.p1 rfl), trivial⟩ (.pointer (some ⟨t, 2, none⟩)) ?_
   refine V.go (V.ld ⟨t, 2, none⟩ (.slice (some ⟨gB, 0, none⟩) T1.b.length T1.b.length) (sm hz167.p2 rfl) (by kernel_rfl) (hB_146.at 2 rfl) ?_)
   refine V.gm (o4 rfl s7_170) ?_
   refine V.go (V.ixa gB 0 T1.b.length T1.b.length .i64 ((bkt T1.seed T1.b.length k : Nat) : Int) 1 (o1 rfl (sm hz167.p2.p1 rfl)) (sm hz167.p4 rfl) (by omega) (by omega) (by kernel_rfl) ?_)
   obtain ⟨A175, c176, hv177⟩ := hK_149.getB hlA (i := (bkt T1.seed T1.b.length k)) (by omega) nilS
   refine V.go (V.ld ⟨gB, 0 + ((bkt T1.seed T1.b.length k : Nat) : Int).toNat * 1, none⟩ (.slice A175 ((T1.b.getD (bkt T1.seed T1.b.length k) []).length) c176) (sm hz167.p4.p1 rfl) (by kernel_rfl) ((hRB_148.at (bkt T1.seed T1.b.length k) nilS (by omega)).trans (congrArg some hv177)) ?_)
   have hS178 := hK_149.slB hlA (i := (bkt T1.seed T1.b.length k)) (by omega) hv177
   refine V.gm (o4 rfl (o2 rfl (o1 rfl s8_171))) ?_
   obtain ⟨g179, o180, hA181, hA181l, hA181z⟩ := hS178.addr (by omega)
   refine V.go (V.ixa g179 o180 ((T1.b.getD (bkt T1.seed T1.b.length k) []).length) c176 .i64 (j : Int) 2 ((o1 rfl (sm hz167.p4.p2 rfl)).trans (by rw [hA181])) (sm hz167.p4.p2.p1 rfl) (by omega) (by omega) (by kernel_rfl) ?_)
   refine V.go (V.fa (sm hz167.p8 rfl) 1 (fun _ _ => by kernel_rfl) ?_)
   obtain ⟨cs182, hok183, hE184⟩ := hS178.els hA181 (j : Int) (by omega) (by omega)
   obtain rfl : cs182 = [.string (at_ itI (T1.b.getD (bkt T1.seed T1.b.length k) []) (j : Int)).1, .int .i64 (at_ itI (T1.b.getD (bkt T1.seed T1.b.length k) []) (j : Int)).2] := hok183
   refine V.go (V.ld ⟨g179, (o180 + (j : Int).toNat * 2) + 1, none⟩ (.int .i64 ((at_ itI (T1.b.getD (bkt T1.seed T1.b.length k) []) (j : Int)).2)) (sm hz167.p8.p1 rfl) (by kernel_rfl) (hE184.at 1 rfl) ?_)
   refine V.ga (sm hz167.p8.p2 rfl) ?_
   refine V.ga evc ?_
   refine V.nil ?_
   refine V.then_n (hK174 _ _ ?_)
   refine V.flushW hz167.p8.p4.p1 (fun a185 hz186 up187 => ?_)
   have s4_188 := up187 4 _ (o1 rfl (sm hz167.p8.p2.p1 rfl))
   have s5_189 := up187 5 _ (sm hz167.p8.p4 rfl)
   clear up187
   refine V.ret ?_
   refine V.blk_r ?_
   refine V.then_r ?_
   refine V.ret2 hz186 rfl (s4_188) (s5_189) ?_
   refine ⟨?_, hF_145⟩
   unfold lookT; rw [hf]
   rfl
set_option maxHeartbeats 4000000 in
set_option maxRecDepth 20000 in
theorem rget_any (w : World) (H : Nat → Prop) (av : List Nat) (t : Nat) (T : Tb Int) (hT : TabX 40 42 60 itI w H av t T) (hm : T.Mv) (k : ByteArray) (hkz : k.size ≤ 9223372036854775807) : Calls Try.prog 46 #[.pointer (some ⟨t, 0, none⟩), .string k] w (fun e w' => e = .returned (.tuple #[.int .i64 (lookT 0 (tbStep T) k).1, .bool (lookT 0 (tbStep T) k).2]) ∧ TabX 40 42 60 itI w' (gr H w w') av t (tbStep T) ∧ FrP (gp H av) w w') := by
 have hFP := FrP.refl (gp H av) w
 obtain ⟨hok0, hm1⟩ := tbStep_ok hT.1 hm
 obtain ⟨T1, hT1⟩ : ∃ T1, T1 = tbStep T := ⟨_, rfl⟩
 rw [← hT1] at hok0 hm1 ⊢
 refine V.enter 13 Try.func46 rfl rfl ?_
 intro a hz ha
 have s0 : a.eval (.tmp 0) = (.pointer (some ⟨t, 0, none⟩)) := ha 0 _ rfl
 have s1 : a.eval (.tmp 1) = (.string k) := ha 1 _ rfl
 clear ha
 refine V.seq (fun K1 hK2 => ?_)
 refine V.rg ?_
 refine V.ga evc ?_
 refine V.ga evc ?_
 refine V.nil ?_
 refine V.then_n (hK2 _ _ ?_)
 refine V.seq (fun K3 hK4 => ?_)
 refine V.rg ?_
 refine V.gm (o2 rfl s0) ?_
 refine V.go (V.call 49 #[] #[.pointer (some ⟨t, 0, none⟩)] evf (args1 (sm hz.p2 rfl)) (Go.Proofs.enters_of Try.func49 (by kernel_rfl) rfl) (rstep_any w (H) (av) t (T) hT hm) ?_)
 rintro _ w7 ⟨rfl, hT5, hfp6⟩
 refine ⟨_, rfl, ?_⟩
 have hsw7 := hfp6.size
 have hFP_8 := hFP.trP hfp6 (fun k hk => .inl hk)
 have hT5q := hT5.grm (w := w) (by omega)
 rw [← hT1] at hT5q
 refine V.nil ?_
 refine V.then_n (hK4 _ _ ?_)
 refine V.flushW hz.p4 (fun a9 hz10 up11 => ?_)
 have s0_12 := up11 0 _ (o4 rfl s0)
 have s1_13 := up11 1 _ (o4 rfl s1)
 clear up11
 refine V.seq (fun K14 hK15 => ?_)
 refine V.rg ?_
 refine V.gm (s0_12) ?_
 refine V.gm (o1 rfl s1_13) ?_
 refine V.go (V.call 48 #[] #[.pointer (some ⟨t, 0, none⟩), .string k] evf (args2 (o1 rfl (sm hz10 rfl)) (sm hz10.p1 rfl)) (Go.Proofs.enters_of Try.func48 (by kernel_rfl) rfl) (rlook_any w7 (gr H w w7) (av) t (T1) hT5q k (by first | exact hkz | decide | omega)) ?_)
 rintro _ w17 ⟨rfl, hF16⟩
 refine ⟨_, rfl, ?_⟩
 have hsw17 := hF16.size
 have hFP_18 := hFP_8.tr0 hF16
 have hT5q_19 := hT5q.fr0 hF16
 refine V.ge_ [(10, .tuple #[.int .i64 ((lookT 0 (T1) k).1), .bool ((lookT 0 (T1) k).2)])] ⟨(sm hz10.p2 rfl), trivial⟩ (.int .i64 ((lookT 0 (T1) k).1)) ?_
 refine V.ge_ [(10, .tuple #[.int .i64 ((lookT 0 (T1) k).1), .bool ((lookT 0 (T1) k).2)])] ⟨(o1 rfl (sm hz10.p2 rfl)), trivial⟩ (.bool ((lookT 0 (T1) k).2)) ?_
 refine V.ga (o1 rfl (sm hz10.p2.p1 rfl)) ?_
 refine V.ga (o1 rfl (sm hz10.p4 rfl)) ?_
 refine V.nil ?_
 refine V.then_n (hK15 _ _ ?_)
 refine V.flushW hz10.p4.p2.p1 (fun a20 hz21 up22 => ?_)
 have s4_23 := up22 4 _ (o1 rfl (sm hz10.p4.p1 rfl))
 have s5_24 := up22 5 _ (sm hz10.p4.p2 rfl)
 clear up22
 refine V.ret ?_
 refine V.ret2 hz21 rfl (s4_23) (s5_24) ?_
 exact ⟨rfl, hT5q_19.grl (by omega), hFP_18⟩
set_option maxHeartbeats 4000000 in
set_option maxRecDepth 20000 in
theorem rput_any (w : World) (H : Nat → Prop) (av : List Nat) (t : Nat) (T : Tb Int) (hT : TabX 40 42 60 itI w H av t T) (hm : T.Mv) (k : ByteArray) (hkz : k.size ≤ 9223372036854775807) (v : Int) (hv : -9223372036854775808 ≤ v ∧ v ≤ 9223372036854775807) (hn : T.n < 1099511627776) : Calls Try.prog 45 #[.pointer (some ⟨t, 0, none⟩), .string k, .int .i64 v] w (fun e w' => e = .returned (.bool (findT (tbStep T) k).2) ∧ TabX 40 42 60 itI w' (gr H w w') av t (putT T k v) ∧ FrP (gp H av) w w') := by
 have hFP := FrP.refl (gp H av) w
 obtain ⟨hok0, hm1⟩ := tbStep_ok hT.1 hm
 obtain ⟨T1, hT1⟩ : ∃ T1, T1 = tbStep T := ⟨_, rfl⟩
 rw [← hT1] at hok0 hm1 ⊢
 have hn1 : T1.n < 1099511627776 := by rw [hT1, tbStep_n]; exact hn
 refine V.enter 131 Try.func45 rfl rfl ?_
 intro a hz ha
 have s0 : a.eval (.tmp 0) = (.pointer (some ⟨t, 0, none⟩)) := ha 0 _ rfl
 have s1 : a.eval (.tmp 1) = (.string k) := ha 1 _ rfl
 have s2 : a.eval (.tmp 2) = (.int .i64 v) := ha 2 _ rfl
 clear ha
 refine V.seq (fun K1 hK2 => ?_)
 refine V.rg ?_
 refine V.ga evc ?_
 refine V.nil ?_
 refine V.then_n (hK2 _ _ ?_)
 refine V.seq (fun K3 hK4 => ?_)
 refine V.rg ?_
 refine V.gm (o1 rfl s0) ?_
 refine V.go (V.call 49 #[] #[.pointer (some ⟨t, 0, none⟩)] evf (args1 (sm hz.p1 rfl)) (Go.Proofs.enters_of Try.func49 (by kernel_rfl) rfl) (rstep_any w (H) (av) t (T) hT hm) ?_)
 rintro _ w7 ⟨rfl, hT5, hfp6⟩
 refine ⟨_, rfl, ?_⟩
 have hsw7 := hfp6.size
 have hFP_8 := hFP.trP hfp6 (fun k hk => .inl hk)
 have hT5q := hT5.grm (w := w) (by omega)
 rw [← hT1] at hT5q
 refine V.nil ?_
 refine V.then_n (hK4 _ _ ?_)
 refine V.seq (fun K9 hK10 => ?_)
 refine V.rg ?_
 refine V.gm (o2 rfl (o1 rfl s0)) ?_
 refine V.gm (o4 rfl s1) ?_
 have hok1 := hT5q.1
 rcases findT_cases hok1 k with hf | ⟨j, hf, hj⟩ | ⟨hbn, j, hf, hj⟩
 ·
  rcases hT5q.2 with ⟨hb0, gA, vsA, hN⟩ | ⟨hb0, gA, gB, vsA, vsB, hN⟩
  ·
   have hb1 : T1.b.length = 0 := by rw [hb0]; rfl
   obtain ⟨hB, hRA, hlA, hK, hne, hpt, hpg⟩ := hN
   replace hK := hK.toH
   have hltt := hB.lt
   have hltg := hRA.lt
   have hE : FrP (gp (gr H w w7) av) w7 w7 := FrP.refl _ _
   have hK0 : ∀ k ∈ av, k < w7.heap.size := fun k hk => hK.avl k (by simp [hk])
   obtain ⟨hsd, hpa, hla, hlb, hmv, hmz, hnn, hcn, hks⟩ := (show T1.Ok from hok1)
   have hbl := hok1.bl
   have hFPE := hFP_8
   refine V.go (V.call 71 #[] #[.pointer (some ⟨t, 0, none⟩), .string k] evf (args2 (o1 rfl (sm hz.p2.p1 rfl)) (sm hz.p4 rfl)) (Go.Proofs.enters_of Try.func71 (by kernel_rfl) rfl) (by have h := rfind_any w7 (gr H w w7) (av) t T1 hT5q k hkz; rw [rfT_no hf] at h; exact h) ?_)
   rintro _ w12 ⟨rfl, hF11⟩
   refine ⟨_, rfl, ?_⟩
   have hsw12 := hF11.size
   have hB_13 := hB.fr0 hF11
   have hRA_14 := hRA.fr0 hF11
   have hK_15 := hK.fr0 hF11
   have hE_16 := hE.tr0 hF11
   refine V.gm (sm hz.p4.p1 rfl) ?_
   refine V.ge_ [(12, .tuple #[.int .i64 (-1), .int .i64 0, .int .i64 0])] ⟨(sm hz.p4.p2 rfl), trivial⟩ (.int .i64 (-1)) ?_
   refine V.ge_ [(12, .tuple #[.int .i64 (-1), .int .i64 0, .int .i64 0])] ⟨(o1 rfl (sm hz.p4.p2 rfl)), trivial⟩ (.int .i64 0) ?_
   refine V.ge_ [(12, .tuple #[.int .i64 (-1), .int .i64 0, .int .i64 0])] ⟨(o2 rfl (sm hz.p4.p2 rfl)), trivial⟩ (.int .i64 0) ?_
   refine V.ga (o2 rfl (sm hz.p4.p2.p1 rfl)) ?_
   refine V.ga (o2 rfl (sm hz.p8 rfl)) ?_
   refine V.ga (o2 rfl (sm hz.p8.p1 rfl)) ?_
   refine V.nil ?_
   refine V.then_n (hK10 _ _ ?_)
   refine V.flushW hz.p8.p4.p1 (fun a17 hz18 up19 => ?_)
   have s0_20 := up19 0 _ (o8 rfl (o4 rfl (o1 rfl s0)))
   have s1_21 := up19 1 _ (o8 rfl (o4 rfl (o1 rfl s1)))
   have s2_22 := up19 2 _ (o8 rfl (o4 rfl (o1 rfl s2)))
   have s7_23 := up19 7 _ (o2 rfl (sm hz.p8.p2 rfl))
   have s8_24 := up19 8 _ (o1 rfl (sm hz.p8.p2.p1 rfl))
   have s9_25 := up19 9 _ (sm hz.p8.p4 rfl)
   clear up19
   refine V.seq (fun K26 hK27 => ?_)
   refine V.seq (fun K28 hK29 => ?_)
   refine V.rg ?_
   refine V.gm (s7_23) ?_
   refine V.nil ?_
   refine V.then_n (hK29 _ _ ?_)
   refine V.block ?_
   refine V.seq (fun K30 hK31 => ?_)
   refine V.rg ?_
   refine V.ge_ [(19, .int .i64 (-1))] ⟨(sm hz18 rfl), trivial⟩ (.bool false) ?_
   refine V.ga (sm hz18.p1 rfl) ?_
   refine V.nil ?_
   refine V.then_n (hK31 _ _ ?_)
   refine V.cond_f (sm hz18.p2 rfl) ?_
   refine V.seq (fun K32 hK33 => ?_)
   refine V.rg ?_
   refine V.ge_ [(19, .int .i64 (-1))] ⟨(o2 rfl (sm hz18 rfl)), trivial⟩ (.bool false) ?_
   refine V.ga (sm hz18.p2.p1 rfl) ?_
   refine V.nil ?_
   refine V.then_n (hK33 _ _ ?_)
   refine V.flushW hz18.p4.p1 (fun a34 hz35 up36 => ?_)
   have s0_37 := up36 0 _ (o4 rfl (o1 rfl s0_20))
   have s1_38 := up36 1 _ (o4 rfl (o1 rfl s1_21))
   have s2_39 := up36 2 _ (o4 rfl (o1 rfl s2_22))
   have s8_40 := up36 8 _ (o4 rfl (o1 rfl s8_24))
   have s9_41 := up36 9 _ (o4 rfl (o1 rfl s9_25))
   have s33_42 := up36 33 _ (sm hz18.p4 rfl)
   clear up36
   refine V.cond_f (s33_42) ?_
   refine V.skip ?_
   refine V.blk_n ?_
   refine V.then_n (hK27 _ _ ?_)
   refine V.seq (fun K43 hK44 => ?_)
   refine V.rg ?_
   refine V.gm (s0_37) ?_
   refine V.ge_ [(46, .pointer (some ⟨t, 0, none⟩))] ⟨(sm hz35 rfl), trivial⟩ (.pointer (some ⟨t, 0, none⟩)) ?_
   refine V.ge_ [(47, .pointer (some ⟨t, 0, none⟩))] ⟨(sm hz35.p1 rfl), trivial⟩ (.pointer (some ⟨t, 4, none⟩)) ?_
   refine V.go (V.ld ⟨t, 4, none⟩ (.int .i64 (T1.n : Int)) (sm hz35.p2 rfl) (by kernel_rfl) (hB_13.at 4 rfl) ?_)
   refine V.gf_ [(49, .int .i64 (T1.n : Int))] ⟨(sm hz35.p2.p1 rfl), trivial⟩ (.int .i64 (IntKind.i64.wrap ((T1.n : Int) + 1))) (.int .i64 ((T1.n : Int) + 1)) (V.w_i64 (by omega) (by omega)) ?_
   refine V.ge_ [(46, .pointer (some ⟨t, 0, none⟩))] ⟨(o4 rfl (sm hz35 rfl)), trivial⟩ (.pointer (some ⟨t, 0, none⟩)) ?_
   refine V.ge_ [(51, .pointer (some ⟨t, 0, none⟩))] ⟨(sm hz35.p4.p1 rfl), trivial⟩ (.pointer (some ⟨t, 4, none⟩)) ?_
   refine V.go (V.stn t 4 (.int .i64 ((T1.n : Int) + 1)) [.int .i64 ((T1.n : Int) + 1)] (sm hz35.p4.p2 rfl) (o2 rfl (sm hz35.p4 rfl)) rfl rfl (by kernel_rfl) hB_13 (by simp) [.int .u64 (T1.seed : Int), .slice (some ⟨gA, 0, none⟩) T1.a.length T1.a.length, .slice none 0 0, .int .i64 (T1.moved : Int), .int .i64 ((T1.n : Int) + 1)] rfl ?_)
   intro w45 hB46 hF47 hsw45
   have hRA_48 := hRA_14.fr1 hF47 (by omega)
   have hK_49 := hK_15.fr hF47 (by simp)
   have hE_50 := hE_16.tr1 hF47 (by first | exact .inl (by assumption) | exact .inr (by omega) | exact .inl (.inl rfl))
   refine V.nil ?_
   refine V.then_n (hK44 _ _ ?_)
   refine V.flushW hz35.p4.p2.p1 (fun a51 hz52 up53 => ?_)
   have s0_54 := up53 0 _ (o4 rfl (o2 rfl (o1 rfl s0_37)))
   have s1_55 := up53 1 _ (o4 rfl (o2 rfl (o1 rfl s1_38)))
   have s2_56 := up53 2 _ (o4 rfl (o2 rfl (o1 rfl s2_39)))
   clear up53
   refine V.seq (fun K57 hK58 => ?_)
   refine V.seq (fun K59 hK60 => ?_)
   refine V.rg ?_
   refine V.gm (s0_54) ?_
   refine V.ge_ [(53, .pointer (some ⟨t, 0, none⟩))] ⟨(sm hz52 rfl), trivial⟩ (.pointer (some ⟨t, 0, none⟩)) ?_
   refine V.ge_ [(54, .pointer (some ⟨t, 0, none⟩))] ⟨(sm hz52.p1 rfl), trivial⟩ (.pointer (some ⟨t, 2, none⟩)) ?_
   refine V.go (V.ld ⟨t, 2, none⟩ (.slice none 0 0) (sm hz52.p2 rfl) (by kernel_rfl) (hB46.at 2 rfl) ?_)
   refine V.ge_ [(56, .slice none 0 0)] ⟨(sm hz52.p2.p1 rfl), trivial⟩ (.int .i64 0) ?_
   refine V.ge_ [(57, .int .i64 0)] ⟨(sm hz52.p4 rfl), trivial⟩ (.bool false) ?_
   refine V.nil ?_
   refine V.then_n (hK60 _ _ ?_)
   refine V.flushW hz52.p4.p2 (fun a61 hz62 up63 => ?_)
   have s0_64 := up63 0 _ (o4 rfl (o2 rfl s0_54))
   have s1_65 := up63 1 _ (o4 rfl (o2 rfl s1_55))
   have s2_66 := up63 2 _ (o4 rfl (o2 rfl s2_56))
   have s58_67 := up63 58 _ (sm hz52.p4.p1 rfl)
   clear up63
   refine V.cond_f (s58_67) ?_
   refine V.skip ?_
   refine V.then_n (hK58 _ _ ?_)
   refine V.seq (fun K68 hK69 => ?_)
   refine V.rg ?_
   refine V.gm (s0_64) ?_
   refine V.gm (o1 rfl s0_64) ?_
   refine V.ge_ [(86, .pointer (some ⟨t, 0, none⟩))] ⟨(sm hz62.p1 rfl), trivial⟩ (.pointer (some ⟨t, 0, none⟩)) ?_
   refine V.ge_ [(87, .pointer (some ⟨t, 0, none⟩))] ⟨(sm hz62.p2 rfl), trivial⟩ (.pointer (some ⟨t, 1, none⟩)) ?_
   refine V.go (V.ld ⟨t, 1, none⟩ (.slice (some ⟨gA, 0, none⟩) T1.a.length T1.a.length) (sm hz62.p2.p1 rfl) (by kernel_rfl) (hB46.at 1 rfl) ?_)
   refine V.ge_ [(89, .slice (some ⟨gA, 0, none⟩) T1.a.length T1.a.length)] ⟨(sm hz62.p4 rfl), trivial⟩ (.int .i64 ((T1.a.length : Nat) : Int)) ?_
   refine V.gm (o4 rfl (o2 rfl s1_65)) ?_
   refine V.go (V.call 72 #[] #[.pointer (some ⟨t, 0, none⟩), .int .i64 ((T1.a.length : Nat) : Int), .string k] evf (args3 (o4 rfl (o2 rfl (sm hz62 rfl))) (o1 rfl (sm hz62.p4.p1 rfl)) (sm hz62.p4.p2 rfl)) (Go.Proofs.enters_of Try.func72 (by kernel_rfl) rfl) (rbucket_blk w45 t T1.seed (.slice (some ⟨gA, 0, none⟩) T1.a.length T1.a.length) (.slice none 0 0) (.int .i64 (T1.moved : Int)) (.int .i64 ((T1.n : Int) + 1)) hB46 T1.a.length k  (by omega) (by omega) (by omega) (by omega)) ?_)
   rintro _ w71 ⟨rfl, hF70⟩
   refine ⟨_, rfl, ?_⟩
   have hsw71 := hF70.size
   have hRA_72 := hRA_48.fr0 hF70
   have hK_73 := hK_49.fr0 hF70
   have hE_74 := hE_50.tr0 hF70
   have hB46_75 := hB46.fr0 hF70
   have hbl70 := bkt_lt T1.seed k (n := T1.a.length) (by omega)
   refine V.ga (v := (.int .i64 ((bkt T1.seed T1.a.length k : Nat) : Int))) (sm hz62.p4.p2.p1 rfl) ?_
   refine V.nil ?_
   refine V.then_n (hK69 _ _ ?_)
   refine V.flushW hz62.p8.p1 (fun a76 hz77 up78 => ?_)
   have s0_79 := up78 0 _ (o8 rfl (o1 rfl s0_64))
   have s1_80 := up78 1 _ (o8 rfl (o1 rfl s1_65))
   have s2_81 := up78 2 _ (o8 rfl (o1 rfl s2_66))
   have s8_82 : a76.eval (.tmp 8) = (.int .i64 ((bkt T1.seed T1.a.length k : Nat) : Int)) := up78 _ _ (sm hz62.p8 rfl)
   clear up78
   refine V.seq (fun K83 hK84 => ?_)
   have hbq := hbl (bkt T1.seed T1.a.length k)
   refine V.plan [[], [0], [0, 1], [0, 1, 2], [], [], [5], [5, 6], [5, 6, 7], [], [5, 6, 7, 8, 9], [5, 6, 7, 8, 9, 10], [], [], [12, 13], [12, 13, 14], [5, 6, 7, 8, 9, 10, 11, 12, 13, 14, 15], [0, 1, 2, 3, 4, 5, 6, 7, 8, 9, 10, 11, 12, 13, 14, 15, 16], [0, 1, 2, 3, 4, 5, 6, 7, 8, 9, 10, 11, 12, 13, 14, 15, 16, 17]] [([0, 1, 2, 3, 4, 5, 6, 7, 8, 9, 10, 11, 12, 13, 14], some (15, [3, 8, 11])), ([], some (16, [3])), ([17], some (18, [])), ([], none)] (by kernel_rfl) (by kernel_rfl) (by exact fun _ _ _ _ h => h) ?_
   simp only [Plan.wpSegs, Plan.pickAll, Plan.nth, V.L_eq]
   obtain ⟨w85, hF86e⟩ : ∃ w1, w1 = w71.drew := ⟨_, rfl⟩
   rw [← hF86e]
   have hF86 : Fr [] w71 w85 := by rw [hF86e]; exact Fr.drew _ _
   have hsw85 : w85.heap.size = w71.heap.size := by rw [hF86e]; rfl
   clear hF86e
   have hRA_87 := hRA_72.fr0 hF86
   have hK_88 := hK_73.fr0 hF86
   have hE_89 := hE_74.tr0 hF86
   have hB46_90 := hB46_75.fr0 hF86
   refine V.gm (s0_79) ?_
   refine V.ge_ [(93, .pointer (some ⟨t, 0, none⟩))] ⟨(sm hz77 rfl), trivial⟩ (.pointer (some ⟨t, 0, none⟩)) ?_
   refine V.ge_ [(94, .pointer (some ⟨t, 0, none⟩))] ⟨(sm hz77.p1 rfl), trivial⟩ (.pointer (some ⟨t, 1, none⟩)) ?_
   refine V.go (V.ld ⟨t, 1, none⟩ (.slice (some ⟨gA, 0, none⟩) T1.a.length T1.a.length) (sm hz77.p2 rfl) (by kernel_rfl) (hB46_90.at 1 rfl) ?_)
   refine V.gm (v := (.int .i64 ((bkt T1.seed T1.a.length k : Nat) : Int))) (o4 rfl s8_82) ?_
   refine V.gm (o4 rfl (o1 rfl s0_79)) ?_
   refine V.ge_ [(98, .pointer (some ⟨t, 0, none⟩))] ⟨(sm hz77.p4.p1 rfl), trivial⟩ (.pointer (some ⟨t, 0, none⟩)) ?_
   refine V.ge_ [(99, .pointer (some ⟨t, 0, none⟩))] ⟨(sm hz77.p4.p2 rfl), trivial⟩ (.pointer (some ⟨t, 1, none⟩)) ?_
   refine V.go (V.ld ⟨t, 1, none⟩ (.slice (some ⟨gA, 0, none⟩) T1.a.length T1.a.length) (sm hz77.p4.p2.p1 rfl) (by kernel_rfl) (hB46_90.at 1 rfl) ?_)
   refine V.gm (v := (.int .i64 ((bkt T1.seed T1.a.length k : Nat) : Int))) (o8 rfl (o1 rfl s8_82)) ?_
   refine V.go (V.ixa gA 0 T1.a.length T1.a.length .i64 ((bkt T1.seed T1.a.length k : Nat) : Int) 1 (o1 rfl (sm hz77.p8 rfl)) (sm hz77.p8.p1 rfl) (by omega) (by omega) (by kernel_rfl) ?_)
   obtain ⟨A91, c92, hv93⟩ := hK_88.getA hlA (i := (bkt T1.seed T1.a.length k)) (by omega) nilS
   refine V.go (V.ld ⟨gA, 0 + ((bkt T1.seed T1.a.length k : Nat) : Int).toNat * 1, none⟩ (.slice A91 ((T1.a.getD (bkt T1.seed T1.a.length k) []).length) c92) (sm hz77.p8.p2 rfl) (by kernel_rfl) ((hRA_87.at (bkt T1.seed T1.a.length k) nilS (by omega)).trans (congrArg some hv93)) ?_)
   have hS94 := hK_88.slA hlA (i := (bkt T1.seed T1.a.length k)) (by omega) hv93
   refine V.gm (o8 rfl (o4 rfl s1_80)) ?_
   refine V.gm (o8 rfl (o4 rfl (o1 rfl s2_81))) ?_
   refine V.ge_ [(105, .string k), (106, .int .i64 v)] ⟨(o1 rfl (sm hz77.p8.p4 rfl)), (sm hz77.p8.p4.p1 rfl), trivial⟩ (.agg #[.string k, .int .i64 v]) ?_
   refine V.nil ?_
   refine ⟨chk [(93, .pointer (some ⟨t, 0, none⟩)), (98, .pointer (some ⟨t, 0, none⟩))] ⟨(o8 rfl (o4 rfl (o2 rfl (sm hz77 rfl)))), (o8 rfl (o1 rfl (sm hz77.p4.p1 rfl))), trivial⟩ (by kernel_rfl), ?_⟩
   refine V.go (V.mk [(107, .agg #[.string k, .int .i64 v])] ⟨(sm hz77.p8.p4.p2 rfl), trivial⟩ (by kernel_rfl) [.string k, .int .i64 v] 60 (fun b => .slice (some ⟨b, 0, none⟩) 1 1) (by kernel_rfl) ?_)
   intro w96 b95 heb95 hB97 hF98 hsb95
   have hRA_99 := hRA_87.fr0 hF98
   have hK_100 := hK_88.alloc hF98 heb95 (by omega)
   have hE_101 := hE_89.tr0 hF98
   have hB46_102 := hB46_90.fr0 hF98
   have hS94_103 := hS94.fr0 hF98
   refine V.nil ?_
   refine ⟨⟨(fun _ => held_blk (n := 1) (hx := (o8 rfl (o4 rfl (sm hz77.p2 rfl)))) hB46_90 hB46_102 (by kernel_rfl) rfl (by simp only [List.length]; omega)), (fun _ => held_blk (n := 1) (hx := (o4 rfl (o2 rfl (o1 rfl (sm hz77.p4.p2.p1 rfl))))) hB46_90 hB46_102 (by kernel_rfl) rfl (by simp only [List.length]; omega)), (fun _ => held_row (hx := (o4 rfl (sm hz77.p8.p2 rfl))) hRA_87 hRA_99 (by kernel_rfl) (by omega))⟩, ?_⟩
   refine V.nil ?_
   refine ⟨chk [] trivial (by kernel_rfl), ?_⟩
   refine V.go (V.appRA (R := itI) (ys := ([(k, v)])) (news := [.string k, .int .i64 v]) hK_100 hlA (i := (bkt T1.seed T1.a.length k)) (by omega) hv93 (o4 rfl (sm hz77.p8.p2.p1 rfl)) ⟨b95, 0, none⟩ 1 1 (sm hz77.p8.p4.p2.p1 rfl) (by kernel_rfl) (info60) (by kernel_rfl) (by decide) rfl ⟨[.string k, .int .i64 v], [], rfl, rfl, rfl⟩ (blk_cells hB97 0 _ rfl) (by omega) (by decide) (.inr (by omega)) ?_)
   intro A104 c105 w106 hK107 hF108 ho109
   have hsw106 := hF108.size
   have hRA_110 := hRA_99.fr hF108 (fun hm => (ho109 _ hm).1 (by simp))
   have hE_111 := hE_101.tr hF108 (fun k hk => ((ho109 k hk).2).imp (fun h => ⟨h, fun hm => (ho109 k hk).1 (by simp [hm])⟩) id)
   have hB46_112 := hB46_102.fr hF108 (fun hm => (ho109 _ hm).1 (by simp))
   refine V.nil ?_
   refine ⟨(fun _ => held_blk (n := 1) (hx := (o8 rfl (o4 rfl (o1 rfl (sm hz77.p2 rfl))))) hB46_102 hB46_112 (by kernel_rfl) rfl (by simp only [List.length]; omega)), ?_⟩
   refine V.go (V.ixa gA 0 T1.a.length T1.a.length .i64 ((bkt T1.seed T1.a.length k : Nat) : Int) 1 (o8 rfl (o4 rfl (o1 rfl (sm hz77.p2.p1 rfl)))) (o8 rfl (o4 rfl (sm hz77.p4 rfl))) (by omega) (by omega) (by kernel_rfl) ?_)
   refine V.nil ?_
   refine ⟨chk [] trivial (by kernel_rfl), ?_⟩
   refine V.go (V.strow (enc := idV) gA (((bkt T1.seed T1.a.length k : Nat) : Int).toNat) (.slice A104 ((T1.a.getD (bkt T1.seed T1.a.length k) []).length + 1) c105) (sm hz77.p16.p1 rfl) (o1 rfl (sm hz77.p16 rfl)) rfl rfl (by kernel_rfl) hRA_110 (by first | omega | (simp only [List.length_set, List.length_replicate]; omega)) ?_)
   intro w113 hR114 hF115 hsw113
   have hE_116 := hE_111.tr1 hF115 (by first | exact .inl (by assumption) | exact .inr (by omega) | exact .inl (.inl rfl))
   have hB46_117 := hB46_112.fr1 hF115 (by omega)
   have hK107_118 := hK107.fr hF115 (by simp)
   refine V.nil ?_
   refine ⟨trivial, ?_⟩
   refine V.nil ?_
   refine ⟨chk [] trivial (by kernel_rfl), ?_⟩
   refine V.then_n (hK84 _ _ ?_)
   refine V.flushW hz77.p16.p2 (fun a119 hz120 up121 => ?_)
   have s0_122 := up121 0 _ (o16 rfl (o2 rfl s0_79))
   clear up121
   refine V.seq (fun K123 hK124 => ?_)
   refine V.seq (fun K125 hK126 => ?_)
   refine V.plan [[], [0], [0, 1], [0, 1, 2], [], [4], [4, 5], [4, 5, 6], [4, 5, 6, 7], [0, 1, 2, 3, 4, 5, 6, 7, 8]] [([0, 1, 2, 3, 4, 5, 6, 7, 8, 9], none)] (by kernel_rfl) (by kernel_rfl) (by exact fun _ _ _ _ h => h) ?_
   simp only [Plan.wpSegs, Plan.pickAll, Plan.nth, V.L_eq]
   obtain ⟨w127, hF128e⟩ : ∃ w1, w1 = w113.drew := ⟨_, rfl⟩
   rw [← hF128e]
   have hF128 : Fr [] w113 w127 := by rw [hF128e]; exact Fr.drew _ _
   have hsw127 : w127.heap.size = w113.heap.size := by rw [hF128e]; rfl
   clear hF128e
   have hE_129 := hE_116.tr0 hF128
   have hB46_130 := hB46_117.fr0 hF128
   have hK107_131 := hK107_118.fr0 hF128
   have hR114_132 := hR114.fr0 hF128
   refine V.gm (s0_122) ?_
   refine V.ge_ [(111, .pointer (some ⟨t, 0, none⟩))] ⟨(sm hz120 rfl), trivial⟩ (.pointer (some ⟨t, 0, none⟩)) ?_
   refine V.ge_ [(112, .pointer (some ⟨t, 0, none⟩))] ⟨(sm hz120.p1 rfl), trivial⟩ (.pointer (some ⟨t, 4, none⟩)) ?_
   refine V.go (V.ld ⟨t, 4, none⟩ (.int .i64 ((T1.n : Int) + 1)) (sm hz120.p2 rfl) (by kernel_rfl) (hB46_130.at 4 rfl) ?_)
   refine V.gm (o4 rfl s0_122) ?_
   refine V.ge_ [(115, .pointer (some ⟨t, 0, none⟩))] ⟨(sm hz120.p4 rfl), trivial⟩ (.pointer (some ⟨t, 0, none⟩)) ?_
   refine V.ge_ [(116, .pointer (some ⟨t, 0, none⟩))] ⟨(sm hz120.p4.p1 rfl), trivial⟩ (.pointer (some ⟨t, 1, none⟩)) ?_
   refine V.go (V.ld ⟨t, 1, none⟩ (.slice (some ⟨gA, 0, none⟩) T1.a.length T1.a.length) (sm hz120.p4.p2 rfl) (by kernel_rfl) (hB46_130.at 1 rfl) ?_)
   refine V.ge_ [(118, .slice (some ⟨gA, 0, none⟩) T1.a.length T1.a.length)] ⟨(sm hz120.p4.p2.p1 rfl), trivial⟩ (.int .i64 ((T1.a.length : Nat) : Int)) ?_
   refine V.ge_ [(114, .int .i64 ((T1.n : Int) + 1)), (119, .int .i64 ((T1.a.length : Nat) : Int))] ⟨(o4 rfl (o1 rfl (sm hz120.p2.p1 rfl))), (sm hz120.p8 rfl), trivial⟩ (.bool (decide (((T1.n : Int) + 1) > ((T1.a.length : Nat) : Int)))) ?_
   refine V.nil ?_
   refine ⟨chk [(111, .pointer (some ⟨t, 0, none⟩)), (115, .pointer (some ⟨t, 0, none⟩)), (118, .slice (some ⟨gA, 0, none⟩) T1.a.length T1.a.length), (114, .int .i64 ((T1.n : Int) + 1)), (119, .int .i64 ((T1.a.length : Nat) : Int))] ⟨(o8 rfl (o1 rfl (sm hz120 rfl))), (o4 rfl (o1 rfl (sm hz120.p4 rfl))), (o2 rfl (sm hz120.p4.p2.p1 rfl)), (o4 rfl (o2 rfl (sm hz120.p2.p1 rfl))), (o1 rfl (sm hz120.p8 rfl)), trivial⟩ (by kernel_rfl), ?_⟩
   refine V.then_n (hK126 _ _ ?_)
   refine V.flushW hz120.p8.p2 (fun a133 hz134 up135 => ?_)
   have s0_136 := up135 0 _ (o8 rfl (o2 rfl s0_122))
   have s120_137 := up135 120 _ (sm hz120.p8.p1 rfl)
   clear up135
   refine V.condP (p := ((T1.n : Int) + 1) > ((T1.a.length : Nat) : Int)) (s120_137) (fun ht138 => ?_) (fun ht138 => ?_)
   ·
    refine V.rg ?_
    refine V.gm (s0_136) ?_
    refine V.gm (o1 rfl s0_136) ?_
    refine V.ge_ [(122, .pointer (some ⟨t, 0, none⟩))] ⟨(sm hz134.p1 rfl), trivial⟩ (.pointer (some ⟨t, 0, none⟩)) ?_
    refine V.ge_ [(123, .pointer (some ⟨t, 0, none⟩))] ⟨(sm hz134.p2 rfl), trivial⟩ (.pointer (some ⟨t, 1, none⟩)) ?_
    refine V.go (V.ld ⟨t, 1, none⟩ (.slice (some ⟨gA, 0, none⟩) T1.a.length T1.a.length) (sm hz134.p2.p1 rfl) (by kernel_rfl) (hB46_130.at 1 rfl) ?_)
    refine V.ge_ [(125, .slice (some ⟨gA, 0, none⟩) T1.a.length T1.a.length)] ⟨(sm hz134.p4 rfl), trivial⟩ (.int .i64 ((T1.a.length : Nat) : Int)) ?_
    refine V.go (V.mulN 2 T1.a.length evc (sm hz134.p4.p1 rfl) (by omega) ?_)
    refine V.go (V.mks (enc := idV) (2 * T1.a.length) (.slice none 0 0) nilS 24 ((sm hz134.p4.p2 rfl).trans (V.int_eq (by omega))) ((sm hz134.p4.p2 rfl).trans (V.int_eq (by omega))) (by kernel_rfl) info42 rfl rfl (by omega) (by omega) ?_)
    intro w140 b139 heb139 hR141 hF142
    have hsb139 := hR141.lt
    have hE_143 := hE_129.tr0 hF142
    have hB46_144 := hB46_130.fr0 hF142
    have hK107_145 := hK107_131.alloc hF142 heb139 (by omega)
    have hR114_146 := hR114_132.fr0 hF142
    refine V.ge_ [(121, .pointer (some ⟨t, 0, none⟩))] ⟨(o4 rfl (o2 rfl (o1 rfl (sm hz134 rfl)))), trivial⟩ (.pointer (some ⟨t, 0, none⟩)) ?_
    refine V.ge_ [(129, .pointer (some ⟨t, 0, none⟩))] ⟨(sm hz134.p8 rfl), trivial⟩ (.pointer (some ⟨t, 2, none⟩)) ?_
    refine V.go (V.stn t 2 (.slice (some ⟨b139, 0, none⟩) (2 * T1.a.length) (2 * T1.a.length)) [.slice (some ⟨b139, 0, none⟩) (2 * T1.a.length) (2 * T1.a.length)] (sm hz134.p8.p1 rfl) (o2 rfl (sm hz134.p4.p2.p1 rfl)) rfl rfl (by kernel_rfl) hB46_144 (by simp) [.int .u64 (T1.seed : Int), .slice (some ⟨gA, 0, none⟩) T1.a.length T1.a.length, .slice (some ⟨b139, 0, none⟩) (2 * T1.a.length) (2 * T1.a.length), .int .i64 (T1.moved : Int), .int .i64 ((T1.n : Int) + 1)] rfl ?_)
    intro w147 hB148 hF149 hsw147
    have hE_150 := hE_143.tr1 hF149 (by first | exact .inl (by assumption) | exact .inr (by omega) | exact .inl (.inl rfl))
    have hK107_151 := hK107_145.fr hF149 (by simp)
    have hR114_152 := hR114_146.fr1 hF149 (by omega)
    have hR141_153 := hR141.fr1 hF149 (by omega)
    refine V.nil ?_
    refine V.then_n (hK124 _ _ ?_)
    refine V.flushW hz134.p8.p2 (fun a154 hz155 up156 => ?_)
    clear up156
    refine V.seq (fun K157 hK158 => ?_)
    refine V.rg ?_
    refine V.ga evc ?_
    refine V.nil ?_
    refine V.then_n (hK158 _ _ ?_)
    refine V.ret ?_
    refine V.ret1 hz155.p1 rfl (sm hz155 rfl) ?_
    have hst : putT T k v = insT T1 k v := by (unfold putT; rw [← hT1]; unfold put1T; rw [hf, if_neg (by simp)])
    have hup := (insT_ok hok1 hm1 (by omega) k hkz v).1
    rw [hst]
    have hu2 : insT T1 k v = startT ({ T1 with a := putB T1.seed T1.a (k, v), n := T1.n + 1 } : Tb Int) (2 * T1.a.length) := by (unfold insT; rw [if_pos hb1, if_pos (by omega)])
    rw [hu2] at hup ⊢
    have hKa159 := hK107_151.addNil (2 * T1.a.length)
    simp only [List.append_nil] at hKa159
    exact ⟨by rw [hf], (TabM.fin (T := (startT ({ T1 with a := putB T1.seed T1.a (k, v), n := T1.n + 1 } : Tb Int) (2 * T1.a.length))) hup (by simp only [startT]; intro h; have := congrArg List.length h; simp at this; omega) hB148 hR114_152 hR141_153 (by rw [List.length_set, List.length_set]; exact hlA) hKa159 (mem4 (l := (b139 :: b95 :: t :: gA :: av)) (by simp) (by simp) (by simp) (by intro k hk; simp [hk])) (by first | assumption | omega) (by first | assumption | omega) (by first | assumption | omega) hpt ⟨.inl hpg.1, hpg.2⟩ ⟨.inr (by omega), fun hm => by have := hK0 _ hm; omega⟩ rfl (putB_length _ _ _).symm (by have h := hmz hb1; show ((T1.moved : Nat) : Int) = ((0 : Nat) : Int); omega) (by simp [startT]) rfl rfl (by simp [startT])).gr3 (by omega), (hFPE.gr hE_150)⟩
   ·
    refine V.skip ?_
    refine V.then_n (hK124 _ _ ?_)
    refine V.seq (fun K160 hK161 => ?_)
    refine V.rg ?_
    refine V.ga evc ?_
    refine V.nil ?_
    refine V.then_n (hK161 _ _ ?_)
    refine V.ret ?_
    refine V.ret1 hz134.p1 rfl (sm hz134 rfl) ?_
    have hst : putT T k v = insT T1 k v := by (unfold putT; rw [← hT1]; unfold put1T; rw [hf, if_neg (by simp)])
    have hup := (insT_ok hok1 hm1 (by omega) k hkz v).1
    rw [hst]
    have hu2 : insT T1 k v = ({ T1 with a := putB T1.seed T1.a (k, v), n := T1.n + 1 } : Tb Int) := by (unfold insT; rw [if_pos hb1, if_neg (by omega)])
    rw [hu2] at hup ⊢
    exact ⟨by rw [hf], (TabN.fin (T := ({ T1 with a := putB T1.seed T1.a (k, v), n := T1.n + 1 })) hup hb0 hB46_130 hR114_132 (by have h := hK107_131; rw [List.append_nil, List.append_nil] at h; exact h) (mem3 (l := (b95 :: t :: gA :: av)) (by simp) (by simp) (by intro k hk; simp [hk])) (by first | assumption | exact Ne.symm (by assumption) | omega) hpt ⟨.inl hpg.1, hpg.2⟩ rfl (putB_length _ _ _).symm rfl (by simp) rfl).gr3 (by omega), (hFPE.gr hE_129)⟩
  ·
   have hb1 : T1.b.length ≠ 0 := fun h => hb0 (List.eq_nil_of_length_eq_zero h)
   obtain ⟨hB, hRA, hRB, hlA, hlB, hK, hne, hne2, hne3, hpt, hpg, hph⟩ := hN
   replace hK := hK.toH
   have hltt := hB.lt
   have hltg := hRA.lt
   have hltg2 := hRB.lt
   have hE : FrP (gp (gr H w w7) av) w7 w7 := FrP.refl _ _
   have hK0 : ∀ k ∈ av, k < w7.heap.size := fun k hk => hK.avl k (by simp [hk])
   obtain ⟨hsd, hpa, hla, hlb, hmv, hmz, hnn, hcn, hks⟩ := (show T1.Ok from hok1)
   have hbl := hok1.bl
   have hFPE := hFP_8
   refine V.go (V.call 71 #[] #[.pointer (some ⟨t, 0, none⟩), .string k] evf (args2 (o1 rfl (sm hz.p2.p1 rfl)) (sm hz.p4 rfl)) (Go.Proofs.enters_of Try.func71 (by kernel_rfl) rfl) (by have h := rfind_any w7 (gr H w w7) (av) t T1 hT5q k hkz; rw [rfT_no hf] at h; exact h) ?_)
   rintro _ w163 ⟨rfl, hF162⟩
   refine ⟨_, rfl, ?_⟩
   have hsw163 := hF162.size
   have hB_164 := hB.fr0 hF162
   have hRA_165 := hRA.fr0 hF162
   have hRB_166 := hRB.fr0 hF162
   have hK_167 := hK.fr0 hF162
   have hE_168 := hE.tr0 hF162
   refine V.gm (sm hz.p4.p1 rfl) ?_
   refine V.ge_ [(12, .tuple #[.int .i64 (-1), .int .i64 0, .int .i64 0])] ⟨(sm hz.p4.p2 rfl), trivial⟩ (.int .i64 (-1)) ?_
   refine V.ge_ [(12, .tuple #[.int .i64 (-1), .int .i64 0, .int .i64 0])] ⟨(o1 rfl (sm hz.p4.p2 rfl)), trivial⟩ (.int .i64 0) ?_
   refine V.ge_ [(12, .tuple #[.int .i64 (-1), .int .i64 0, .int .i64 0])] ⟨(o2 rfl (sm hz.p4.p2 rfl)), trivial⟩ (.int .i64 0) ?_
   refine V.ga (o2 rfl (sm hz.p4.p2.p1 rfl)) ?_
   refine V.ga (o2 rfl (sm hz.p8 rfl)) ?_
   refine V.ga (o2 rfl (sm hz.p8.p1 rfl)) ?_
   refine V.nil ?_
   refine V.then_n (hK10 _ _ ?_)
   refine V.flushW hz.p8.p4.p1 (fun a169 hz170 up171 => ?_)
   have s0_172 := up171 0 _ (o8 rfl (o4 rfl (o1 rfl s0)))
   have s1_173 := up171 1 _ (o8 rfl (o4 rfl (o1 rfl s1)))
   have s2_174 := up171 2 _ (o8 rfl (o4 rfl (o1 rfl s2)))
   have s7_175 := up171 7 _ (o2 rfl (sm hz.p8.p2 rfl))
   have s8_176 := up171 8 _ (o1 rfl (sm hz.p8.p2.p1 rfl))
   have s9_177 := up171 9 _ (sm hz.p8.p4 rfl)
   clear up171
   refine V.seq (fun K178 hK179 => ?_)
   refine V.seq (fun K180 hK181 => ?_)
   refine V.rg ?_
   refine V.gm (s7_175) ?_
   refine V.nil ?_
   refine V.then_n (hK181 _ _ ?_)
   refine V.block ?_
   refine V.seq (fun K182 hK183 => ?_)
   refine V.rg ?_
   refine V.ge_ [(19, .int .i64 (-1))] ⟨(sm hz170 rfl), trivial⟩ (.bool false) ?_
   refine V.ga (sm hz170.p1 rfl) ?_
   refine V.nil ?_
   refine V.then_n (hK183 _ _ ?_)
   refine V.cond_f (sm hz170.p2 rfl) ?_
   refine V.seq (fun K184 hK185 => ?_)
   refine V.rg ?_
   refine V.ge_ [(19, .int .i64 (-1))] ⟨(o2 rfl (sm hz170 rfl)), trivial⟩ (.bool false) ?_
   refine V.ga (sm hz170.p2.p1 rfl) ?_
   refine V.nil ?_
   refine V.then_n (hK185 _ _ ?_)
   refine V.flushW hz170.p4.p1 (fun a186 hz187 up188 => ?_)
   have s0_189 := up188 0 _ (o4 rfl (o1 rfl s0_172))
   have s1_190 := up188 1 _ (o4 rfl (o1 rfl s1_173))
   have s2_191 := up188 2 _ (o4 rfl (o1 rfl s2_174))
   have s8_192 := up188 8 _ (o4 rfl (o1 rfl s8_176))
   have s9_193 := up188 9 _ (o4 rfl (o1 rfl s9_177))
   have s33_194 := up188 33 _ (sm hz170.p4 rfl)
   clear up188
   refine V.cond_f (s33_194) ?_
   refine V.skip ?_
   refine V.blk_n ?_
   refine V.then_n (hK179 _ _ ?_)
   refine V.seq (fun K195 hK196 => ?_)
   refine V.rg ?_
   refine V.gm (s0_189) ?_
   refine V.ge_ [(46, .pointer (some ⟨t, 0, none⟩))] ⟨(sm hz187 rfl), trivial⟩ (.pointer (some ⟨t, 0, none⟩)) ?_
   refine V.ge_ [(47, .pointer (some ⟨t, 0, none⟩))] ⟨(sm hz187.p1 rfl), trivial⟩ (.pointer (some ⟨t, 4, none⟩)) ?_
   refine V.go (V.ld ⟨t, 4, none⟩ (.int .i64 (T1.n : Int)) (sm hz187.p2 rfl) (by kernel_rfl) (hB_164.at 4 rfl) ?_)
   refine V.gf_ [(49, .int .i64 (T1.n : Int))] ⟨(sm hz187.p2.p1 rfl), trivial⟩ (.int .i64 (IntKind.i64.wrap ((T1.n : Int) + 1))) (.int .i64 ((T1.n : Int) + 1)) (V.w_i64 (by omega) (by omega)) ?_
   refine V.ge_ [(46, .pointer (some ⟨t, 0, none⟩))] ⟨(o4 rfl (sm hz187 rfl)), trivial⟩ (.pointer (some ⟨t, 0, none⟩)) ?_
   refine V.ge_ [(51, .pointer (some ⟨t, 0, none⟩))] ⟨(sm hz187.p4.p1 rfl), trivial⟩ (.pointer (some ⟨t, 4, none⟩)) ?_
   refine V.go (V.stn t 4 (.int .i64 ((T1.n : Int) + 1)) [.int .i64 ((T1.n : Int) + 1)] (sm hz187.p4.p2 rfl) (o2 rfl (sm hz187.p4 rfl)) rfl rfl (by kernel_rfl) hB_164 (by simp) [.int .u64 (T1.seed : Int), .slice (some ⟨gA, 0, none⟩) T1.a.length T1.a.length, .slice (some ⟨gB, 0, none⟩) T1.b.length T1.b.length, .int .i64 (T1.moved : Int), .int .i64 ((T1.n : Int) + 1)] rfl ?_)
   intro w197 hB198 hF199 hsw197
   have hRA_200 := hRA_165.fr1 hF199 (by omega)
   have hRB_201 := hRB_166.fr1 hF199 (by omega)
   have hK_202 := hK_167.fr hF199 (by simp)
   have hE_203 := hE_168.tr1 hF199 (by first | exact .inl (by assumption) | exact .inr (by omega) | exact .inl (.inl rfl))
   refine V.nil ?_
   refine V.then_n (hK196 _ _ ?_)
   refine V.flushW hz187.p4.p2.p1 (fun a204 hz205 up206 => ?_)
   have s0_207 := up206 0 _ (o4 rfl (o2 rfl (o1 rfl s0_189)))
   have s1_208 := up206 1 _ (o4 rfl (o2 rfl (o1 rfl s1_190)))
   have s2_209 := up206 2 _ (o4 rfl (o2 rfl (o1 rfl s2_191)))
   clear up206
   refine V.seq (fun K210 hK211 => ?_)
   refine V.seq (fun K212 hK213 => ?_)
   refine V.rg ?_
   refine V.gm (s0_207) ?_
   refine V.ge_ [(53, .pointer (some ⟨t, 0, none⟩))] ⟨(sm hz205 rfl), trivial⟩ (.pointer (some ⟨t, 0, none⟩)) ?_
   refine V.ge_ [(54, .pointer (some ⟨t, 0, none⟩))] ⟨(sm hz205.p1 rfl), trivial⟩ (.pointer (some ⟨t, 2, none⟩)) ?_
   refine V.go (V.ld ⟨t, 2, none⟩ (.slice (some ⟨gB, 0, none⟩) T1.b.length T1.b.length) (sm hz205.p2 rfl) (by kernel_rfl) (hB198.at 2 rfl) ?_)
   refine V.ge_ [(56, .slice (some ⟨gB, 0, none⟩) T1.b.length T1.b.length)] ⟨(sm hz205.p2.p1 rfl), trivial⟩ (.int .i64 ((T1.b.length : Nat) : Int)) ?_
   refine V.ge_ [(57, .int .i64 ((T1.b.length : Nat) : Int))] ⟨(sm hz205.p4 rfl), trivial⟩ (.bool (decide (((T1.b.length : Nat) : Int) > 0))) ?_
   refine V.nil ?_
   refine V.then_n (hK213 _ _ ?_)
   refine V.flushW hz205.p4.p2 (fun a214 hz215 up216 => ?_)
   have s0_217 := up216 0 _ (o4 rfl (o2 rfl s0_207))
   have s1_218 := up216 1 _ (o4 rfl (o2 rfl s1_208))
   have s2_219 := up216 2 _ (o4 rfl (o2 rfl s2_209))
   have s58_220 := up216 58 _ (sm hz205.p4.p1 rfl)
   clear up216
   refine V.condP (p := ((T1.b.length : Nat) : Int) > 0) (s58_220) (fun ht221 => ?_) (fun ht221 => ?_)
   ·
    refine V.seq (fun K222 hK223 => ?_)
    refine V.rg ?_
    refine V.gm (s0_217) ?_
    refine V.gm (o1 rfl s0_217) ?_
    refine V.ge_ [(60, .pointer (some ⟨t, 0, none⟩))] ⟨(sm hz215.p1 rfl), trivial⟩ (.pointer (some ⟨t, 0, none⟩)) ?_
    refine V.ge_ [(61, .pointer (some ⟨t, 0, none⟩))] ⟨(sm hz215.p2 rfl), trivial⟩ (.pointer (some ⟨t, 2, none⟩)) ?_
    refine V.go (V.ld ⟨t, 2, none⟩ (.slice (some ⟨gB, 0, none⟩) T1.b.length T1.b.length) (sm hz215.p2.p1 rfl) (by kernel_rfl) (hB198.at 2 rfl) ?_)
    refine V.ge_ [(63, .slice (some ⟨gB, 0, none⟩) T1.b.length T1.b.length)] ⟨(sm hz215.p4 rfl), trivial⟩ (.int .i64 ((T1.b.length : Nat) : Int)) ?_
    refine V.gm (o4 rfl (o2 rfl s1_218)) ?_
    refine V.go (V.call 72 #[] #[.pointer (some ⟨t, 0, none⟩), .int .i64 ((T1.b.length : Nat) : Int), .string k] evf (args3 (o4 rfl (o2 rfl (sm hz215 rfl))) (o1 rfl (sm hz215.p4.p1 rfl)) (sm hz215.p4.p2 rfl)) (Go.Proofs.enters_of Try.func72 (by kernel_rfl) rfl) (rbucket_blk w197 t T1.seed (.slice (some ⟨gA, 0, none⟩) T1.a.length T1.a.length) (.slice (some ⟨gB, 0, none⟩) T1.b.length T1.b.length) (.int .i64 (T1.moved : Int)) (.int .i64 ((T1.n : Int) + 1)) hB198 T1.b.length k  (by omega) (by omega) (by omega) (by omega)) ?_)
    rintro _ w225 ⟨rfl, hF224⟩
    refine ⟨_, rfl, ?_⟩
    have hsw225 := hF224.size
    have hRA_226 := hRA_200.fr0 hF224
    have hRB_227 := hRB_201.fr0 hF224
    have hK_228 := hK_202.fr0 hF224
    have hE_229 := hE_203.tr0 hF224
    have hB198_230 := hB198.fr0 hF224
    have hbl224 := bkt_lt T1.seed k (n := T1.b.length) (by omega)
    refine V.ga (v := (.int .i64 ((bkt T1.seed T1.b.length k : Nat) : Int))) (sm hz215.p4.p2.p1 rfl) ?_
    refine V.nil ?_
    refine V.then_n (hK223 _ _ ?_)
    refine V.flushW hz215.p8.p1 (fun a231 hz232 up233 => ?_)
    have s0_234 := up233 0 _ (o8 rfl (o1 rfl s0_217))
    have s1_235 := up233 1 _ (o8 rfl (o1 rfl s1_218))
    have s2_236 := up233 2 _ (o8 rfl (o1 rfl s2_219))
    have s8_237 : a231.eval (.tmp 8) = (.int .i64 ((bkt T1.seed T1.b.length k : Nat) : Int)) := up233 _ _ (sm hz215.p8 rfl)
    clear up233
    refine V.seq (fun K238 hK239 => ?_)
    have hbq := hbl (bkt T1.seed T1.b.length k)
    refine V.plan [[], [0], [0, 1], [0, 1, 2], [], [], [5], [5, 6], [5, 6, 7], [], [5, 6, 7, 8, 9], [5, 6, 7, 8, 9, 10], [], [], [12, 13], [12, 13, 14], [5, 6, 7, 8, 9, 10, 11, 12, 13, 14, 15], [0, 1, 2, 3, 4, 5, 6, 7, 8, 9, 10, 11, 12, 13, 14, 15, 16], [0, 1, 2, 3, 4, 5, 6, 7, 8, 9, 10, 11, 12, 13, 14, 15, 16, 17]] [([0, 1, 2, 3, 4, 5, 6, 7, 8, 9, 10, 11, 12, 13, 14], some (15, [3, 8, 11])), ([], some (16, [3])), ([17], some (18, [])), ([], none)] (by kernel_rfl) (by kernel_rfl) (by exact fun _ _ _ _ h => h) ?_
    simp only [Plan.wpSegs, Plan.pickAll, Plan.nth, V.L_eq]
    obtain ⟨w240, hF241e⟩ : ∃ w1, w1 = w225.drew := ⟨_, rfl⟩
    rw [← hF241e]
    have hF241 : Fr [] w225 w240 := by rw [hF241e]; exact Fr.drew _ _
    have hsw240 : w240.heap.size = w225.heap.size := by rw [hF241e]; rfl
    clear hF241e
    have hRA_242 := hRA_226.fr0 hF241
    have hRB_243 := hRB_227.fr0 hF241
    have hK_244 := hK_228.fr0 hF241
    have hE_245 := hE_229.tr0 hF241
    have hB198_246 := hB198_230.fr0 hF241
    refine V.gm (s0_234) ?_
    refine V.ge_ [(67, .pointer (some ⟨t, 0, none⟩))] ⟨(sm hz232 rfl), trivial⟩ (.pointer (some ⟨t, 0, none⟩)) ?_
    refine V.ge_ [(68, .pointer (some ⟨t, 0, none⟩))] ⟨(sm hz232.p1 rfl), trivial⟩ (.pointer (some ⟨t, 2, none⟩)) ?_
    refine V.go (V.ld ⟨t, 2, none⟩ (.slice (some ⟨gB, 0, none⟩) T1.b.length T1.b.length) (sm hz232.p2 rfl) (by kernel_rfl) (hB198_246.at 2 rfl) ?_)
    refine V.gm (v := (.int .i64 ((bkt T1.seed T1.b.length k : Nat) : Int))) (o4 rfl s8_237) ?_
    refine V.gm (o4 rfl (o1 rfl s0_234)) ?_
    refine V.ge_ [(72, .pointer (some ⟨t, 0, none⟩))] ⟨(sm hz232.p4.p1 rfl), trivial⟩ (.pointer (some ⟨t, 0, none⟩)) ?_
    refine V.ge_ [(73, .pointer (some ⟨t, 0, none⟩))] ⟨(sm hz232.p4.p2 rfl), trivial⟩ (.pointer (some ⟨t, 2, none⟩)) ?_
    refine V.go (V.ld ⟨t, 2, none⟩ (.slice (some ⟨gB, 0, none⟩) T1.b.length T1.b.length) (sm hz232.p4.p2.p1 rfl) (by kernel_rfl) (hB198_246.at 2 rfl) ?_)
    refine V.gm (v := (.int .i64 ((bkt T1.seed T1.b.length k : Nat) : Int))) (o8 rfl (o1 rfl s8_237)) ?_
    refine V.go (V.ixa gB 0 T1.b.length T1.b.length .i64 ((bkt T1.seed T1.b.length k : Nat) : Int) 1 (o1 rfl (sm hz232.p8 rfl)) (sm hz232.p8.p1 rfl) (by omega) (by omega) (by kernel_rfl) ?_)
    obtain ⟨A247, c248, hv249⟩ := hK_244.getB hlA (i := (bkt T1.seed T1.b.length k)) (by omega) nilS
    refine V.go (V.ld ⟨gB, 0 + ((bkt T1.seed T1.b.length k : Nat) : Int).toNat * 1, none⟩ (.slice A247 ((T1.b.getD (bkt T1.seed T1.b.length k) []).length) c248) (sm hz232.p8.p2 rfl) (by kernel_rfl) ((hRB_243.at (bkt T1.seed T1.b.length k) nilS (by omega)).trans (congrArg some hv249)) ?_)
    have hS250 := hK_244.slB hlA (i := (bkt T1.seed T1.b.length k)) (by omega) hv249
    refine V.gm (o8 rfl (o4 rfl s1_235)) ?_
    refine V.gm (o8 rfl (o4 rfl (o1 rfl s2_236))) ?_
    refine V.ge_ [(79, .string k), (80, .int .i64 v)] ⟨(o1 rfl (sm hz232.p8.p4 rfl)), (sm hz232.p8.p4.p1 rfl), trivial⟩ (.agg #[.string k, .int .i64 v]) ?_
    refine V.nil ?_
    refine ⟨chk [(67, .pointer (some ⟨t, 0, none⟩)), (72, .pointer (some ⟨t, 0, none⟩))] ⟨(o8 rfl (o4 rfl (o2 rfl (sm hz232 rfl)))), (o8 rfl (o1 rfl (sm hz232.p4.p1 rfl))), trivial⟩ (by kernel_rfl), ?_⟩
    refine V.go (V.mk [(81, .agg #[.string k, .int .i64 v])] ⟨(sm hz232.p8.p4.p2 rfl), trivial⟩ (by kernel_rfl) [.string k, .int .i64 v] 60 (fun b => .slice (some ⟨b, 0, none⟩) 1 1) (by kernel_rfl) ?_)
    intro w252 b251 heb251 hB253 hF254 hsb251
    have hRA_255 := hRA_242.fr0 hF254
    have hRB_256 := hRB_243.fr0 hF254
    have hK_257 := hK_244.alloc hF254 heb251 (by omega)
    have hE_258 := hE_245.tr0 hF254
    have hB198_259 := hB198_246.fr0 hF254
    have hS250_260 := hS250.fr0 hF254
    refine V.nil ?_
    refine ⟨⟨(fun _ => held_blk (n := 1) (hx := (o8 rfl (o4 rfl (sm hz232.p2 rfl)))) hB198_246 hB198_259 (by kernel_rfl) rfl (by simp only [List.length]; omega)), (fun _ => held_blk (n := 1) (hx := (o4 rfl (o2 rfl (o1 rfl (sm hz232.p4.p2.p1 rfl))))) hB198_246 hB198_259 (by kernel_rfl) rfl (by simp only [List.length]; omega)), (fun _ => held_row (hx := (o4 rfl (sm hz232.p8.p2 rfl))) hRB_243 hRB_256 (by kernel_rfl) (by omega))⟩, ?_⟩
    refine V.nil ?_
    refine ⟨chk [] trivial (by kernel_rfl), ?_⟩
    refine V.go (V.appRB (R := itI) (ys := ([(k, v)])) (news := [.string k, .int .i64 v]) hK_257 hlA (i := (bkt T1.seed T1.b.length k)) (by omega) hv249 (o4 rfl (sm hz232.p8.p2.p1 rfl)) ⟨b251, 0, none⟩ 1 1 (sm hz232.p8.p4.p2.p1 rfl) (by kernel_rfl) (info60) (by kernel_rfl) (by decide) rfl ⟨[.string k, .int .i64 v], [], rfl, rfl, rfl⟩ (blk_cells hB253 0 _ rfl) (by omega) (by decide) (.inr (by omega)) ?_)
    intro A261 c262 w263 hK264 hF265 ho266
    have hsw263 := hF265.size
    have hRA_267 := hRA_255.fr hF265 (fun hm => (ho266 _ hm).1 (by simp))
    have hRB_268 := hRB_256.fr hF265 (fun hm => (ho266 _ hm).1 (by simp))
    have hE_269 := hE_258.tr hF265 (fun k hk => ((ho266 k hk).2).imp (fun h => ⟨h, fun hm => (ho266 k hk).1 (by simp [hm])⟩) id)
    have hB198_270 := hB198_259.fr hF265 (fun hm => (ho266 _ hm).1 (by simp))
    refine V.nil ?_
    refine ⟨(fun _ => held_blk (n := 1) (hx := (o8 rfl (o4 rfl (o1 rfl (sm hz232.p2 rfl))))) hB198_259 hB198_270 (by kernel_rfl) rfl (by simp only [List.length]; omega)), ?_⟩
    refine V.go (V.ixa gB 0 T1.b.length T1.b.length .i64 ((bkt T1.seed T1.b.length k : Nat) : Int) 1 (o8 rfl (o4 rfl (o1 rfl (sm hz232.p2.p1 rfl)))) (o8 rfl (o4 rfl (sm hz232.p4 rfl))) (by omega) (by omega) (by kernel_rfl) ?_)
    refine V.nil ?_
    refine ⟨chk [] trivial (by kernel_rfl), ?_⟩
    refine V.go (V.strow (enc := idV) gB (((bkt T1.seed T1.b.length k : Nat) : Int).toNat) (.slice A261 ((T1.b.getD (bkt T1.seed T1.b.length k) []).length + 1) c262) (sm hz232.p16.p1 rfl) (o1 rfl (sm hz232.p16 rfl)) rfl rfl (by kernel_rfl) hRB_268 (by first | omega | (simp only [List.length_set, List.length_replicate]; omega)) ?_)
    intro w271 hR272 hF273 hsw271
    have hRA_274 := hRA_267.fr1 hF273 (by omega)
    have hE_275 := hE_269.tr1 hF273 (by first | exact .inl (by assumption) | exact .inr (by omega) | exact .inl (.inl rfl))
    have hB198_276 := hB198_270.fr1 hF273 (by omega)
    have hK264_277 := hK264.fr hF273 (by simp)
    refine V.nil ?_
    refine ⟨trivial, ?_⟩
    refine V.nil ?_
    refine ⟨chk [] trivial (by kernel_rfl), ?_⟩
    refine V.then_n (hK239 _ _ ?_)
    refine V.flushW hz232.p16.p2 (fun a278 hz279 up280 => ?_)
    have s0_281 := up280 0 _ (o16 rfl (o2 rfl s0_234))
    have s1_282 := up280 1 _ (o16 rfl (o2 rfl s1_235))
    have s2_283 := up280 2 _ (o16 rfl (o2 rfl s2_236))
    clear up280
    refine V.seq (fun K284 hK285 => ?_)
    refine V.rg ?_
    refine V.ga evc ?_
    refine V.nil ?_
    refine V.then_n (hK285 _ _ ?_)
    refine V.ret ?_
    refine V.then_r ?_
    refine V.ret1 hz279.p1 rfl (sm hz279 rfl) ?_
    have hst : putT T k v = insT T1 k v := by (unfold putT; rw [← hT1]; unfold put1T; rw [hf, if_neg (by simp)])
    have hup := (insT_ok hok1 hm1 (by omega) k hkz v).1
    rw [hst]
    have hu2 : insT T1 k v = ({ T1 with b := putB T1.seed T1.b (k, v), n := T1.n + 1 } : Tb Int) := by (unfold insT; rw [if_neg hb1])
    rw [hu2] at hup ⊢
    exact ⟨by rw [hf], (TabM.fin (T := ({ T1 with b := putB T1.seed T1.b (k, v), n := T1.n + 1 })) hup (fun h => hb1 (by have := congrArg List.length h; rwa [putB_length] at this)) hB198_276 hRA_274 hR272 (by first | exact hlA | (simp only [List.length_set]; exact hlA)) hK264_277 (mem4 (l := (b251 :: t :: gA :: gB :: av)) (by simp) (by simp) (by simp) (by intro k hk; simp [hk])) (by first | assumption | omega) (by first | assumption | omega) (by first | assumption | omega) hpt ⟨.inl hpg.1, hpg.2⟩ ⟨.inl hph.1, hph.2⟩ rfl rfl rfl (by simp) rfl rfl (putB_length _ _ _).symm).gr3 (by omega), (hFPE.gr hE_275)⟩
   ·
    refine V.skip ?_
    refine V.then_n (hK211 _ _ ?_)
    refine V.seq (fun K286 hK287 => ?_)
    refine V.rg ?_
    refine V.gm (s0_217) ?_
    refine V.gm (o1 rfl s0_217) ?_
    refine V.ge_ [(86, .pointer (some ⟨t, 0, none⟩))] ⟨(sm hz215.p1 rfl), trivial⟩ (.pointer (some ⟨t, 0, none⟩)) ?_
    refine V.ge_ [(87, .pointer (some ⟨t, 0, none⟩))] ⟨(sm hz215.p2 rfl), trivial⟩ (.pointer (some ⟨t, 1, none⟩)) ?_
    refine V.go (V.ld ⟨t, 1, none⟩ (.slice (some ⟨gA, 0, none⟩) T1.a.length T1.a.length) (sm hz215.p2.p1 rfl) (by kernel_rfl) (hB198.at 1 rfl) ?_)
    refine V.ge_ [(89, .slice (some ⟨gA, 0, none⟩) T1.a.length T1.a.length)] ⟨(sm hz215.p4 rfl), trivial⟩ (.int .i64 ((T1.a.length : Nat) : Int)) ?_
    refine V.gm (o4 rfl (o2 rfl s1_218)) ?_
    refine V.go (V.call 72 #[] #[.pointer (some ⟨t, 0, none⟩), .int .i64 ((T1.a.length : Nat) : Int), .string k] evf (args3 (o4 rfl (o2 rfl (sm hz215 rfl))) (o1 rfl (sm hz215.p4.p1 rfl)) (sm hz215.p4.p2 rfl)) (Go.Proofs.enters_of Try.func72 (by kernel_rfl) rfl) (rbucket_blk w197 t T1.seed (.slice (some ⟨gA, 0, none⟩) T1.a.length T1.a.length) (.slice (some ⟨gB, 0, none⟩) T1.b.length T1.b.length) (.int .i64 (T1.moved : Int)) (.int .i64 ((T1.n : Int) + 1)) hB198 T1.a.length k  (by omega) (by omega) (by omega) (by omega)) ?_)
    rintro _ w289 ⟨rfl, hF288⟩
    refine ⟨_, rfl, ?_⟩
    have hsw289 := hF288.size
    have hRA_290 := hRA_200.fr0 hF288
    have hRB_291 := hRB_201.fr0 hF288
    have hK_292 := hK_202.fr0 hF288
    have hE_293 := hE_203.tr0 hF288
    have hB198_294 := hB198.fr0 hF288
    have hbl288 := bkt_lt T1.seed k (n := T1.a.length) (by omega)
    refine V.ga (v := (.int .i64 ((bkt T1.seed T1.a.length k : Nat) : Int))) (sm hz215.p4.p2.p1 rfl) ?_
    refine V.nil ?_
    refine V.then_n (hK287 _ _ ?_)
    refine V.flushW hz215.p8.p1 (fun a295 hz296 up297 => ?_)
    have s0_298 := up297 0 _ (o8 rfl (o1 rfl s0_217))
    have s1_299 := up297 1 _ (o8 rfl (o1 rfl s1_218))
    have s2_300 := up297 2 _ (o8 rfl (o1 rfl s2_219))
    have s8_301 : a295.eval (.tmp 8) = (.int .i64 ((bkt T1.seed T1.a.length k : Nat) : Int)) := up297 _ _ (sm hz215.p8 rfl)
    clear up297
    refine V.seq (fun K302 hK303 => ?_)
    have hbq := hbl (bkt T1.seed T1.a.length k)
    refine V.plan [[], [0], [0, 1], [0, 1, 2], [], [], [5], [5, 6], [5, 6, 7], [], [5, 6, 7, 8, 9], [5, 6, 7, 8, 9, 10], [], [], [12, 13], [12, 13, 14], [5, 6, 7, 8, 9, 10, 11, 12, 13, 14, 15], [0, 1, 2, 3, 4, 5, 6, 7, 8, 9, 10, 11, 12, 13, 14, 15, 16], [0, 1, 2, 3, 4, 5, 6, 7, 8, 9, 10, 11, 12, 13, 14, 15, 16, 17]] [([0, 1, 2, 3, 4, 5, 6, 7, 8, 9, 10, 11, 12, 13, 14], some (15, [3, 8, 11])), ([], some (16, [3])), ([17], some (18, [])), ([], none)] (by kernel_rfl) (by kernel_rfl) (by exact fun _ _ _ _ h => h) ?_
    simp only [Plan.wpSegs, Plan.pickAll, Plan.nth, V.L_eq]
    obtain ⟨w304, hF305e⟩ : ∃ w1, w1 = w289.drew := ⟨_, rfl⟩
    rw [← hF305e]
    have hF305 : Fr [] w289 w304 := by rw [hF305e]; exact Fr.drew _ _
    have hsw304 : w304.heap.size = w289.heap.size := by rw [hF305e]; rfl
    clear hF305e
    have hRA_306 := hRA_290.fr0 hF305
    have hRB_307 := hRB_291.fr0 hF305
    have hK_308 := hK_292.fr0 hF305
    have hE_309 := hE_293.tr0 hF305
    have hB198_310 := hB198_294.fr0 hF305
    refine V.gm (s0_298) ?_
    refine V.ge_ [(93, .pointer (some ⟨t, 0, none⟩))] ⟨(sm hz296 rfl), trivial⟩ (.pointer (some ⟨t, 0, none⟩)) ?_
    refine V.ge_ [(94, .pointer (some ⟨t, 0, none⟩))] ⟨(sm hz296.p1 rfl), trivial⟩ (.pointer (some ⟨t, 1, none⟩)) ?_
    refine V.go (V.ld ⟨t, 1, none⟩ (.slice (some ⟨gA, 0, none⟩) T1.a.length T1.a.length) (sm hz296.p2 rfl) (by kernel_rfl) (hB198_310.at 1 rfl) ?_)
    refine V.gm (v := (.int .i64 ((bkt T1.seed T1.a.length k : Nat) : Int))) (o4 rfl s8_301) ?_
    refine V.gm (o4 rfl (o1 rfl s0_298)) ?_
    refine V.ge_ [(98, .pointer (some ⟨t, 0, none⟩))] ⟨(sm hz296.p4.p1 rfl), trivial⟩ (.pointer (some ⟨t, 0, none⟩)) ?_
    refine V.ge_ [(99, .pointer (some ⟨t, 0, none⟩))] ⟨(sm hz296.p4.p2 rfl), trivial⟩ (.pointer (some ⟨t, 1, none⟩)) ?_
    refine V.go (V.ld ⟨t, 1, none⟩ (.slice (some ⟨gA, 0, none⟩) T1.a.length T1.a.length) (sm hz296.p4.p2.p1 rfl) (by kernel_rfl) (hB198_310.at 1 rfl) ?_)
    refine V.gm (v := (.int .i64 ((bkt T1.seed T1.a.length k : Nat) : Int))) (o8 rfl (o1 rfl s8_301)) ?_
    refine V.go (V.ixa gA 0 T1.a.length T1.a.length .i64 ((bkt T1.seed T1.a.length k : Nat) : Int) 1 (o1 rfl (sm hz296.p8 rfl)) (sm hz296.p8.p1 rfl) (by omega) (by omega) (by kernel_rfl) ?_)
    obtain ⟨A311, c312, hv313⟩ := hK_308.getA hlA (i := (bkt T1.seed T1.a.length k)) (by omega) nilS
    refine V.go (V.ld ⟨gA, 0 + ((bkt T1.seed T1.a.length k : Nat) : Int).toNat * 1, none⟩ (.slice A311 ((T1.a.getD (bkt T1.seed T1.a.length k) []).length) c312) (sm hz296.p8.p2 rfl) (by kernel_rfl) ((hRA_306.at (bkt T1.seed T1.a.length k) nilS (by omega)).trans (congrArg some hv313)) ?_)
    have hS314 := hK_308.slA hlA (i := (bkt T1.seed T1.a.length k)) (by omega) hv313
    refine V.gm (o8 rfl (o4 rfl s1_299)) ?_
    refine V.gm (o8 rfl (o4 rfl (o1 rfl s2_300))) ?_
    refine V.ge_ [(105, .string k), (106, .int .i64 v)] ⟨(o1 rfl (sm hz296.p8.p4 rfl)), (sm hz296.p8.p4.p1 rfl), trivial⟩ (.agg #[.string k, .int .i64 v]) ?_
    refine V.nil ?_
    refine ⟨chk [(93, .pointer (some ⟨t, 0, none⟩)), (98, .pointer (some ⟨t, 0, none⟩))] ⟨(o8 rfl (o4 rfl (o2 rfl (sm hz296 rfl)))), (o8 rfl (o1 rfl (sm hz296.p4.p1 rfl))), trivial⟩ (by kernel_rfl), ?_⟩
    refine V.go (V.mk [(107, .agg #[.string k, .int .i64 v])] ⟨(sm hz296.p8.p4.p2 rfl), trivial⟩ (by kernel_rfl) [.string k, .int .i64 v] 60 (fun b => .slice (some ⟨b, 0, none⟩) 1 1) (by kernel_rfl) ?_)
    intro w316 b315 heb315 hB317 hF318 hsb315
    have hRA_319 := hRA_306.fr0 hF318
    have hRB_320 := hRB_307.fr0 hF318
    have hK_321 := hK_308.alloc hF318 heb315 (by omega)
    have hE_322 := hE_309.tr0 hF318
    have hB198_323 := hB198_310.fr0 hF318
    have hS314_324 := hS314.fr0 hF318
    refine V.nil ?_
    refine ⟨⟨(fun _ => held_blk (n := 1) (hx := (o8 rfl (o4 rfl (sm hz296.p2 rfl)))) hB198_310 hB198_323 (by kernel_rfl) rfl (by simp only [List.length]; omega)), (fun _ => held_blk (n := 1) (hx := (o4 rfl (o2 rfl (o1 rfl (sm hz296.p4.p2.p1 rfl))))) hB198_310 hB198_323 (by kernel_rfl) rfl (by simp only [List.length]; omega)), (fun _ => held_row (hx := (o4 rfl (sm hz296.p8.p2 rfl))) hRA_306 hRA_319 (by kernel_rfl) (by omega))⟩, ?_⟩
    refine V.nil ?_
    refine ⟨chk [] trivial (by kernel_rfl), ?_⟩
    refine V.go (V.appRA (R := itI) (ys := ([(k, v)])) (news := [.string k, .int .i64 v]) hK_321 hlA (i := (bkt T1.seed T1.a.length k)) (by omega) hv313 (o4 rfl (sm hz296.p8.p2.p1 rfl)) ⟨b315, 0, none⟩ 1 1 (sm hz296.p8.p4.p2.p1 rfl) (by kernel_rfl) (info60) (by kernel_rfl) (by decide) rfl ⟨[.string k, .int .i64 v], [], rfl, rfl, rfl⟩ (blk_cells hB317 0 _ rfl) (by omega) (by decide) (.inr (by omega)) ?_)
    intro A325 c326 w327 hK328 hF329 ho330
    have hsw327 := hF329.size
    have hRA_331 := hRA_319.fr hF329 (fun hm => (ho330 _ hm).1 (by simp))
    have hRB_332 := hRB_320.fr hF329 (fun hm => (ho330 _ hm).1 (by simp))
    have hE_333 := hE_322.tr hF329 (fun k hk => ((ho330 k hk).2).imp (fun h => ⟨h, fun hm => (ho330 k hk).1 (by simp [hm])⟩) id)
    have hB198_334 := hB198_323.fr hF329 (fun hm => (ho330 _ hm).1 (by simp))
    refine V.nil ?_
    refine ⟨(fun _ => held_blk (n := 1) (hx := (o8 rfl (o4 rfl (o1 rfl (sm hz296.p2 rfl))))) hB198_323 hB198_334 (by kernel_rfl) rfl (by simp only [List.length]; omega)), ?_⟩
    refine V.go (V.ixa gA 0 T1.a.length T1.a.length .i64 ((bkt T1.seed T1.a.length k : Nat) : Int) 1 (o8 rfl (o4 rfl (o1 rfl (sm hz296.p2.p1 rfl)))) (o8 rfl (o4 rfl (sm hz296.p4 rfl))) (by omega) (by omega) (by kernel_rfl) ?_)
    refine V.nil ?_
    refine ⟨chk [] trivial (by kernel_rfl), ?_⟩
    refine V.go (V.strow (enc := idV) gA (((bkt T1.seed T1.a.length k : Nat) : Int).toNat) (.slice A325 ((T1.a.getD (bkt T1.seed T1.a.length k) []).length + 1) c326) (sm hz296.p16.p1 rfl) (o1 rfl (sm hz296.p16 rfl)) rfl rfl (by kernel_rfl) hRA_331 (by first | omega | (simp only [List.length_set, List.length_replicate]; omega)) ?_)
    intro w335 hR336 hF337 hsw335
    have hRB_338 := hRB_332.fr1 hF337 (by omega)
    have hE_339 := hE_333.tr1 hF337 (by first | exact .inl (by assumption) | exact .inr (by omega) | exact .inl (.inl rfl))
    have hB198_340 := hB198_334.fr1 hF337 (by omega)
    have hK328_341 := hK328.fr hF337 (by simp)
    refine V.nil ?_
    refine ⟨trivial, ?_⟩
    refine V.nil ?_
    refine ⟨chk [] trivial (by kernel_rfl), ?_⟩
    refine V.then_n (hK303 _ _ ?_)
    refine V.flushW hz296.p16.p2 (fun a342 hz343 up344 => ?_)
    have s0_345 := up344 0 _ (o16 rfl (o2 rfl s0_298))
    clear up344
    refine V.seq (fun K346 hK347 => ?_)
    refine V.seq (fun K348 hK349 => ?_)
    refine V.plan [[], [0], [0, 1], [0, 1, 2], [], [4], [4, 5], [4, 5, 6], [4, 5, 6, 7], [0, 1, 2, 3, 4, 5, 6, 7, 8]] [([0, 1, 2, 3, 4, 5, 6, 7, 8, 9], none)] (by kernel_rfl) (by kernel_rfl) (by exact fun _ _ _ _ h => h) ?_
    simp only [Plan.wpSegs, Plan.pickAll, Plan.nth, V.L_eq]
    obtain ⟨w350, hF351e⟩ : ∃ w1, w1 = w335.drew := ⟨_, rfl⟩
    rw [← hF351e]
    have hF351 : Fr [] w335 w350 := by rw [hF351e]; exact Fr.drew _ _
    have hsw350 : w350.heap.size = w335.heap.size := by rw [hF351e]; rfl
    clear hF351e
    have hRB_352 := hRB_338.fr0 hF351
    have hE_353 := hE_339.tr0 hF351
    have hB198_354 := hB198_340.fr0 hF351
    have hK328_355 := hK328_341.fr0 hF351
    have hR336_356 := hR336.fr0 hF351
    refine V.gm (s0_345) ?_
    refine V.ge_ [(111, .pointer (some ⟨t, 0, none⟩))] ⟨(sm hz343 rfl), trivial⟩ (.pointer (some ⟨t, 0, none⟩)) ?_
    refine V.ge_ [(112, .pointer (some ⟨t, 0, none⟩))] ⟨(sm hz343.p1 rfl), trivial⟩ (.pointer (some ⟨t, 4, none⟩)) ?_
    refine V.go (V.ld ⟨t, 4, none⟩ (.int .i64 ((T1.n : Int) + 1)) (sm hz343.p2 rfl) (by kernel_rfl) (hB198_354.at 4 rfl) ?_)
    refine V.gm (o4 rfl s0_345) ?_
    refine V.ge_ [(115, .pointer (some ⟨t, 0, none⟩))] ⟨(sm hz343.p4 rfl), trivial⟩ (.pointer (some ⟨t, 0, none⟩)) ?_
    refine V.ge_ [(116, .pointer (some ⟨t, 0, none⟩))] ⟨(sm hz343.p4.p1 rfl), trivial⟩ (.pointer (some ⟨t, 1, none⟩)) ?_
    refine V.go (V.ld ⟨t, 1, none⟩ (.slice (some ⟨gA, 0, none⟩) T1.a.length T1.a.length) (sm hz343.p4.p2 rfl) (by kernel_rfl) (hB198_354.at 1 rfl) ?_)
    refine V.ge_ [(118, .slice (some ⟨gA, 0, none⟩) T1.a.length T1.a.length)] ⟨(sm hz343.p4.p2.p1 rfl), trivial⟩ (.int .i64 ((T1.a.length : Nat) : Int)) ?_
    refine V.ge_ [(114, .int .i64 ((T1.n : Int) + 1)), (119, .int .i64 ((T1.a.length : Nat) : Int))] ⟨(o4 rfl (o1 rfl (sm hz343.p2.p1 rfl))), (sm hz343.p8 rfl), trivial⟩ (.bool (decide (((T1.n : Int) + 1) > ((T1.a.length : Nat) : Int)))) ?_
    refine V.nil ?_
    refine ⟨chk [(111, .pointer (some ⟨t, 0, none⟩)), (115, .pointer (some ⟨t, 0, none⟩)), (118, .slice (some ⟨gA, 0, none⟩) T1.a.length T1.a.length), (114, .int .i64 ((T1.n : Int) + 1)), (119, .int .i64 ((T1.a.length : Nat) : Int))] ⟨(o8 rfl (o1 rfl (sm hz343 rfl))), (o4 rfl (o1 rfl (sm hz343.p4 rfl))), (o2 rfl (sm hz343.p4.p2.p1 rfl)), (o4 rfl (o2 rfl (sm hz343.p2.p1 rfl))), (o1 rfl (sm hz343.p8 rfl)), trivial⟩ (by kernel_rfl), ?_⟩
    refine V.then_n (hK349 _ _ ?_)
    refine V.flushW hz343.p8.p2 (fun a357 hz358 up359 => ?_)
    have s0_360 := up359 0 _ (o8 rfl (o2 rfl s0_345))
    have s120_361 := up359 120 _ (sm hz343.p8.p1 rfl)
    clear up359
    refine V.condP (p := ((T1.n : Int) + 1) > ((T1.a.length : Nat) : Int)) (s120_361) (fun ht362 => ?_) (fun ht362 => ?_)
    ·
     refine V.rg ?_
     refine V.gm (s0_360) ?_
     refine V.gm (o1 rfl s0_360) ?_
     refine V.ge_ [(122, .pointer (some ⟨t, 0, none⟩))] ⟨(sm hz358.p1 rfl), trivial⟩ (.pointer (some ⟨t, 0, none⟩)) ?_
     refine V.ge_ [(123, .pointer (some ⟨t, 0, none⟩))] ⟨(sm hz358.p2 rfl), trivial⟩ (.pointer (some ⟨t, 1, none⟩)) ?_
     refine V.go (V.ld ⟨t, 1, none⟩ (.slice (some ⟨gA, 0, none⟩) T1.a.length T1.a.length) (sm hz358.p2.p1 rfl) (by kernel_rfl) (hB198_354.at 1 rfl) ?_)
     refine V.ge_ [(125, .slice (some ⟨gA, 0, none⟩) T1.a.length T1.a.length)] ⟨(sm hz358.p4 rfl), trivial⟩ (.int .i64 ((T1.a.length : Nat) : Int)) ?_
     refine V.go (V.mulN 2 T1.a.length evc (sm hz358.p4.p1 rfl) (by omega) ?_)
     refine V.go (V.mks (enc := idV) (2 * T1.a.length) (.slice none 0 0) nilS 24 ((sm hz358.p4.p2 rfl).trans (V.int_eq (by omega))) ((sm hz358.p4.p2 rfl).trans (V.int_eq (by omega))) (by kernel_rfl) info42 rfl rfl (by omega) (by omega) ?_)
     intro w364 b363 heb363 hR365 hF366
     have hsb363 := hR365.lt
     have hRB_367 := hRB_352.fr0 hF366
     have hE_368 := hE_353.tr0 hF366
     have hB198_369 := hB198_354.fr0 hF366
     have hK328_370 := hK328_355.alloc hF366 heb363 (by omega)
     have hR336_371 := hR336_356.fr0 hF366
     refine V.ge_ [(121, .pointer (some ⟨t, 0, none⟩))] ⟨(o4 rfl (o2 rfl (o1 rfl (sm hz358 rfl)))), trivial⟩ (.pointer (some ⟨t, 0, none⟩)) ?_
     refine V.ge_ [(129, .pointer (some ⟨t, 0, none⟩))] ⟨(sm hz358.p8 rfl), trivial⟩ (.pointer (some ⟨t, 2, none⟩)) ?_
     refine V.go (V.stn t 2 (.slice (some ⟨b363, 0, none⟩) (2 * T1.a.length) (2 * T1.a.length)) [.slice (some ⟨b363, 0, none⟩) (2 * T1.a.length) (2 * T1.a.length)] (sm hz358.p8.p1 rfl) (o2 rfl (sm hz358.p4.p2.p1 rfl)) rfl rfl (by kernel_rfl) hB198_369 (by simp) [.int .u64 (T1.seed : Int), .slice (some ⟨gA, 0, none⟩) T1.a.length T1.a.length, .slice (some ⟨b363, 0, none⟩) (2 * T1.a.length) (2 * T1.a.length), .int .i64 (T1.moved : Int), .int .i64 ((T1.n : Int) + 1)] rfl ?_)
     intro w372 hB373 hF374 hsw372
     have hRB_375 := hRB_367.fr1 hF374 (by omega)
     have hE_376 := hE_368.tr1 hF374 (by first | exact .inl (by assumption) | exact .inr (by omega) | exact .inl (.inl rfl))
     have hK328_377 := hK328_370.fr hF374 (by simp)
     have hR336_378 := hR336_371.fr1 hF374 (by omega)
     have hR365_379 := hR365.fr1 hF374 (by omega)
     refine V.nil ?_
     refine V.then_n (hK347 _ _ ?_)
     refine V.flushW hz358.p8.p2 (fun a380 hz381 up382 => ?_)
     clear up382
     refine V.seq (fun K383 hK384 => ?_)
     refine V.rg ?_
     refine V.ga evc ?_
     refine V.nil ?_
     refine V.then_n (hK384 _ _ ?_)
     refine V.ret ?_
     refine V.ret1 hz381.p1 rfl (sm hz381 rfl) ?_
     exact absurd ht221 (by omega)
    ·
     refine V.skip ?_
     refine V.then_n (hK347 _ _ ?_)
     refine V.seq (fun K385 hK386 => ?_)
     refine V.rg ?_
     refine V.ga evc ?_
     refine V.nil ?_
     refine V.then_n (hK386 _ _ ?_)
     refine V.ret ?_
     refine V.ret1 hz358.p1 rfl (sm hz358 rfl) ?_
     exact absurd ht221 (by omega)
 ·
  rcases hT5q.2 with ⟨hb0, gA, vsA, hN⟩ | ⟨hb0, gA, gB, vsA, vsB, hN⟩
  ·
   have hb1 : T1.b.length = 0 := by rw [hb0]; rfl
   obtain ⟨hB, hRA, hlA, hK, hne, hpt, hpg⟩ := hN
   replace hK := hK.toH
   have hltt := hB.lt
   have hltg := hRA.lt
   have hE : FrP (gp (gr H w w7) av) w7 w7 := FrP.refl _ _
   have hK0 : ∀ k ∈ av, k < w7.heap.size := fun k hk => hK.avl k (by simp [hk])
   obtain ⟨hsd, hpa, hla, hlb, hmv, hmz, hnn, hcn, hks⟩ := (show T1.Ok from hok1)
   have hbl := hok1.bl
   have hFPE := hFP_8
   refine V.go (V.call 71 #[] #[.pointer (some ⟨t, 0, none⟩), .string k] evf (args2 (o1 rfl (sm hz.p2.p1 rfl)) (sm hz.p4 rfl)) (Go.Proofs.enters_of Try.func71 (by kernel_rfl) rfl) (by have h := rfind_any w7 (gr H w w7) (av) t T1 hT5q k hkz; rw [rfT_yes hf] at h; exact h) ?_)
   rintro _ w388 ⟨rfl, hF387⟩
   refine ⟨_, rfl, ?_⟩
   have hsw388 := hF387.size
   have hB_389 := hB.fr0 hF387
   have hRA_390 := hRA.fr0 hF387
   have hK_391 := hK.fr0 hF387
   have hE_392 := hE.tr0 hF387
   have hbkl := bkt_lt T1.seed k (n := T1.a.length) (by omega)
   have hbq := hbl (bkt T1.seed T1.a.length k)
   refine V.gm (sm hz.p4.p1 rfl) ?_
   refine V.ge_ [(12, .tuple #[.int .i64 0, .int .i64 ((bkt T1.seed T1.a.length k : Nat) : Int), .int .i64 (j : Int)])] ⟨(sm hz.p4.p2 rfl), trivial⟩ (.int .i64 0) ?_
   refine V.ge_ [(12, .tuple #[.int .i64 0, .int .i64 ((bkt T1.seed T1.a.length k : Nat) : Int), .int .i64 (j : Int)])] ⟨(o1 rfl (sm hz.p4.p2 rfl)), trivial⟩ (.int .i64 ((bkt T1.seed T1.a.length k : Nat) : Int)) ?_
   refine V.ge_ [(12, .tuple #[.int .i64 0, .int .i64 ((bkt T1.seed T1.a.length k : Nat) : Int), .int .i64 (j : Int)])] ⟨(o2 rfl (sm hz.p4.p2 rfl)), trivial⟩ (.int .i64 (j : Int)) ?_
   refine V.ga (o2 rfl (sm hz.p4.p2.p1 rfl)) ?_
   refine V.ga (o2 rfl (sm hz.p8 rfl)) ?_
   refine V.ga (o2 rfl (sm hz.p8.p1 rfl)) ?_
   refine V.nil ?_
   refine V.then_n (hK10 _ _ ?_)
   refine V.flushW hz.p8.p4.p1 (fun a393 hz394 up395 => ?_)
   have s0_396 := up395 0 _ (o8 rfl (o4 rfl (o1 rfl s0)))
   have s1_397 := up395 1 _ (o8 rfl (o4 rfl (o1 rfl s1)))
   have s2_398 := up395 2 _ (o8 rfl (o4 rfl (o1 rfl s2)))
   have s7_399 := up395 7 _ (o2 rfl (sm hz.p8.p2 rfl))
   have s8_400 := up395 8 _ (o1 rfl (sm hz.p8.p2.p1 rfl))
   have s9_401 := up395 9 _ (sm hz.p8.p4 rfl)
   clear up395
   refine V.seq (fun K402 hK403 => ?_)
   refine V.seq (fun K404 hK405 => ?_)
   refine V.rg ?_
   refine V.gm (s7_399) ?_
   refine V.nil ?_
   refine V.then_n (hK405 _ _ ?_)
   refine V.block ?_
   refine V.seq (fun K406 hK407 => ?_)
   refine V.rg ?_
   refine V.ge_ [(19, .int .i64 0)] ⟨(sm hz394 rfl), trivial⟩ (.bool true) ?_
   refine V.ga (sm hz394.p1 rfl) ?_
   refine V.nil ?_
   refine V.then_n (hK407 _ _ ?_)
   refine V.cond_t (sm hz394.p2 rfl) ?_
   refine V.seq (fun K408 hK409 => ?_)
   refine V.rg ?_
   refine V.gm (o2 rfl (o1 rfl s0_396)) ?_
   refine V.ge_ [(22, .pointer (some ⟨t, 0, none⟩))] ⟨(sm hz394.p2.p1 rfl), trivial⟩ (.pointer (some ⟨t, 0, none⟩)) ?_
   refine V.ge_ [(23, .pointer (some ⟨t, 0, none⟩))] ⟨(sm hz394.p4 rfl), trivial⟩ (.pointer (some ⟨t, 1, none⟩)) ?_
   refine V.go (V.ld ⟨t, 1, none⟩ (.slice (some ⟨gA, 0, none⟩) T1.a.length T1.a.length) (sm hz394.p4.p1 rfl) (by kernel_rfl) (hB_389.at 1 rfl) ?_)
   refine V.gm (o4 rfl (o2 rfl (o1 rfl s8_400))) ?_
   refine V.go (V.ixa gA 0 T1.a.length T1.a.length .i64 ((bkt T1.seed T1.a.length k : Nat) : Int) 1 (o1 rfl (sm hz394.p4.p2 rfl)) (sm hz394.p4.p2.p1 rfl) (by omega) (by omega) (by kernel_rfl) ?_)
   obtain ⟨A410, c411, hv412⟩ := hK_391.getA hlA (i := (bkt T1.seed T1.a.length k)) (by omega) nilS
   refine V.go (V.ld ⟨gA, 0 + ((bkt T1.seed T1.a.length k : Nat) : Int).toNat * 1, none⟩ (.slice A410 ((T1.a.getD (bkt T1.seed T1.a.length k) []).length) c411) (sm hz394.p8 rfl) (by kernel_rfl) ((hRA_390.at (bkt T1.seed T1.a.length k) nilS (by omega)).trans (congrArg some hv412)) ?_)
   have hS413 := hK_391.slA hlA (i := (bkt T1.seed T1.a.length k)) (by omega) hv412
   refine V.gm (o8 rfl (o2 rfl s9_401)) ?_
   refine V.gm (o8 rfl (o2 rfl (o1 rfl s2_398))) ?_
   obtain ⟨g414, o415, hA416, hA416l, hA416z⟩ := hS413.addr (by omega)
   refine V.go (V.ixa g414 o415 ((T1.a.getD (bkt T1.seed T1.a.length k) []).length) c411 .i64 (j : Int) 2 ((o2 rfl (sm hz394.p8.p1 rfl)).trans (by rw [hA416])) (o1 rfl (sm hz394.p8.p2 rfl)) (by omega) (by omega) (by kernel_rfl) ?_)
   refine V.go (V.fa (sm hz394.p8.p4 rfl) 1 (fun _ _ => by kernel_rfl) ?_)
   refine V.go (V.stRA (R := itI) (j := j) (f := 1) hK_391 hlA (i := (bkt T1.seed T1.a.length k)) (by omega) hv412 hA416 (by omega) (by decide) (.int .i64 v) (fun x => (x.1, v)) (sm hz394.p8.p4.p1 rfl) (o2 rfl (sm hz394.p8.p2.p1 rfl)) rfl rfl (by kernel_rfl) (fun w1 x c hc => by (have hc' : c = [.string x.1, .int .i64 x.2] := hc; subst hc'; rfl)) ?_)
   intro w417 hK418 hF419 hsw417 ho420
   have hB_421 := hB_389.fr hF419 (fun hm => (ho420 _ hm).1 (by simp))
   have hRA_422 := hRA_390.fr hF419 (fun hm => (ho420 _ hm).1 (by simp))
   have hE_423 := hE_392.tr hF419 (fun k hk => ((ho420 k hk).2).imp (fun h => ⟨h, fun hm => (ho420 k hk).1 (by simp [hm])⟩) id)
   refine V.nil ?_
   refine V.then_n (hK409 _ _ ?_)
   refine V.flushW hz394.p8.p4.p2 (fun a424 hz425 up426 => ?_)
   have s0_427 := up426 0 _ (o8 rfl (o4 rfl (o2 rfl s0_396)))
   have s1_428 := up426 1 _ (o8 rfl (o4 rfl (o2 rfl s1_397)))
   have s2_429 := up426 2 _ (o8 rfl (o4 rfl (o2 rfl s2_398)))
   clear up426
   refine V.seq (fun K430 hK431 => ?_)
   refine V.rg ?_
   refine V.ga evc ?_
   refine V.nil ?_
   refine V.then_n (hK431 _ _ ?_)
   refine V.ret ?_
   refine V.blk_r ?_
   refine V.then_r ?_
   refine V.ret1 hz425.p1 rfl (sm hz425 rfl) ?_
   have hst : putT T k v = ({ T1 with a := setV T1.a (bkt T1.seed T1.a.length k) j v } : Tb Int) := by (unfold putT; rw [← hT1]; unfold put1T; rw [hf, if_pos rfl]; unfold updT; rw [hf]; simp)
   have hup := (updT_ok hok1 hm1 k v).1
   have hu2 : updT T1 k v = ({ T1 with a := setV T1.a (bkt T1.seed T1.a.length k) j v } : Tb Int) := by (unfold updT; rw [hf]; simp)
   rw [hu2] at hup
   rw [hst]
   exact ⟨by rw [hf], (TabN.fin (T := ({ T1 with a := setV T1.a (bkt T1.seed T1.a.length k) j v })) hup hb0 hB_421 hRA_422 (by have h := hK418; rw [List.append_nil, List.append_nil] at h; exact h) (mem3 (l := (t :: gA :: av)) (by simp) (by simp) (by intro k hk; simp [hk])) (by first | assumption | exact Ne.symm (by assumption) | omega) hpt ⟨.inl hpg.1, hpg.2⟩ rfl (setV_length _ _ _ _).symm rfl rfl rfl).gr3 (by omega), (hFPE.gr hE_423)⟩
  ·
   have hb1 : T1.b.length ≠ 0 := fun h => hb0 (List.eq_nil_of_length_eq_zero h)
   obtain ⟨hB, hRA, hRB, hlA, hlB, hK, hne, hne2, hne3, hpt, hpg, hph⟩ := hN
   replace hK := hK.toH
   have hltt := hB.lt
   have hltg := hRA.lt
   have hltg2 := hRB.lt
   have hE : FrP (gp (gr H w w7) av) w7 w7 := FrP.refl _ _
   have hK0 : ∀ k ∈ av, k < w7.heap.size := fun k hk => hK.avl k (by simp [hk])
   obtain ⟨hsd, hpa, hla, hlb, hmv, hmz, hnn, hcn, hks⟩ := (show T1.Ok from hok1)
   have hbl := hok1.bl
   have hFPE := hFP_8
   refine V.go (V.call 71 #[] #[.pointer (some ⟨t, 0, none⟩), .string k] evf (args2 (o1 rfl (sm hz.p2.p1 rfl)) (sm hz.p4 rfl)) (Go.Proofs.enters_of Try.func71 (by kernel_rfl) rfl) (by have h := rfind_any w7 (gr H w w7) (av) t T1 hT5q k hkz; rw [rfT_yes hf] at h; exact h) ?_)
   rintro _ w433 ⟨rfl, hF432⟩
   refine ⟨_, rfl, ?_⟩
   have hsw433 := hF432.size
   have hB_434 := hB.fr0 hF432
   have hRA_435 := hRA.fr0 hF432
   have hRB_436 := hRB.fr0 hF432
   have hK_437 := hK.fr0 hF432
   have hE_438 := hE.tr0 hF432
   have hbkl := bkt_lt T1.seed k (n := T1.a.length) (by omega)
   have hbq := hbl (bkt T1.seed T1.a.length k)
   refine V.gm (sm hz.p4.p1 rfl) ?_
   refine V.ge_ [(12, .tuple #[.int .i64 0, .int .i64 ((bkt T1.seed T1.a.length k : Nat) : Int), .int .i64 (j : Int)])] ⟨(sm hz.p4.p2 rfl), trivial⟩ (.int .i64 0) ?_
   refine V.ge_ [(12, .tuple #[.int .i64 0, .int .i64 ((bkt T1.seed T1.a.length k : Nat) : Int), .int .i64 (j : Int)])] ⟨(o1 rfl (sm hz.p4.p2 rfl)), trivial⟩ (.int .i64 ((bkt T1.seed T1.a.length k : Nat) : Int)) ?_
   refine V.ge_ [(12, .tuple #[.int .i64 0, .int .i64 ((bkt T1.seed T1.a.length k : Nat) : Int), .int .i64 (j : Int)])] ⟨(o2 rfl (sm hz.p4.p2 rfl)), trivial⟩ (.int .i64 (j : Int)) ?_
   refine V.ga (o2 rfl (sm hz.p4.p2.p1 rfl)) ?_
   refine V.ga (o2 rfl (sm hz.p8 rfl)) ?_
   refine V.ga (o2 rfl (sm hz.p8.p1 rfl)) ?_
   refine V.nil ?_
   refine V.then_n (hK10 _ _ ?_)
   refine V.flushW hz.p8.p4.p1 (fun a439 hz440 up441 => ?_)
   have s0_442 := up441 0 _ (o8 rfl (o4 rfl (o1 rfl s0)))
   have s1_443 := up441 1 _ (o8 rfl (o4 rfl (o1 rfl s1)))
   have s2_444 := up441 2 _ (o8 rfl (o4 rfl (o1 rfl s2)))
   have s7_445 := up441 7 _ (o2 rfl (sm hz.p8.p2 rfl))
   have s8_446 := up441 8 _ (o1 rfl (sm hz.p8.p2.p1 rfl))
   have s9_447 := up441 9 _ (sm hz.p8.p4 rfl)
   clear up441
   refine V.seq (fun K448 hK449 => ?_)
   refine V.seq (fun K450 hK451 => ?_)
   refine V.rg ?_
   refine V.gm (s7_445) ?_
   refine V.nil ?_
   refine V.then_n (hK451 _ _ ?_)
   refine V.block ?_
   refine V.seq (fun K452 hK453 => ?_)
   refine V.rg ?_
   refine V.ge_ [(19, .int .i64 0)] ⟨(sm hz440 rfl), trivial⟩ (.bool true) ?_
   refine V.ga (sm hz440.p1 rfl) ?_
   refine V.nil ?_
   refine V.then_n (hK453 _ _ ?_)
   refine V.cond_t (sm hz440.p2 rfl) ?_
   refine V.seq (fun K454 hK455 => ?_)
   refine V.rg ?_
   refine V.gm (o2 rfl (o1 rfl s0_442)) ?_
   refine V.ge_ [(22, .pointer (some ⟨t, 0, none⟩))] ⟨(sm hz440.p2.p1 rfl), trivial⟩ (.pointer (some ⟨t, 0, none⟩)) ?_
   refine V.ge_ [(23, .pointer (some ⟨t, 0, none⟩))] ⟨(sm hz440.p4 rfl), trivial⟩ (.pointer (some ⟨t, 1, none⟩)) ?_
   refine V.go (V.ld ⟨t, 1, none⟩ (.slice (some ⟨gA, 0, none⟩) T1.a.length T1.a.length) (sm hz440.p4.p1 rfl) (by kernel_rfl) (hB_434.at 1 rfl) ?_)
   refine V.gm (o4 rfl (o2 rfl (o1 rfl s8_446))) ?_
   refine V.go (V.ixa gA 0 T1.a.length T1.a.length .i64 ((bkt T1.seed T1.a.length k : Nat) : Int) 1 (o1 rfl (sm hz440.p4.p2 rfl)) (sm hz440.p4.p2.p1 rfl) (by omega) (by omega) (by kernel_rfl) ?_)
   obtain ⟨A456, c457, hv458⟩ := hK_437.getA hlA (i := (bkt T1.seed T1.a.length k)) (by omega) nilS
   refine V.go (V.ld ⟨gA, 0 + ((bkt T1.seed T1.a.length k : Nat) : Int).toNat * 1, none⟩ (.slice A456 ((T1.a.getD (bkt T1.seed T1.a.length k) []).length) c457) (sm hz440.p8 rfl) (by kernel_rfl) ((hRA_435.at (bkt T1.seed T1.a.length k) nilS (by omega)).trans (congrArg some hv458)) ?_)
   have hS459 := hK_437.slA hlA (i := (bkt T1.seed T1.a.length k)) (by omega) hv458
   refine V.gm (o8 rfl (o2 rfl s9_447)) ?_
   refine V.gm (o8 rfl (o2 rfl (o1 rfl s2_444))) ?_
   obtain ⟨g460, o461, hA462, hA462l, hA462z⟩ := hS459.addr (by omega)
   refine V.go (V.ixa g460 o461 ((T1.a.getD (bkt T1.seed T1.a.length k) []).length) c457 .i64 (j : Int) 2 ((o2 rfl (sm hz440.p8.p1 rfl)).trans (by rw [hA462])) (o1 rfl (sm hz440.p8.p2 rfl)) (by omega) (by omega) (by kernel_rfl) ?_)
   refine V.go (V.fa (sm hz440.p8.p4 rfl) 1 (fun _ _ => by kernel_rfl) ?_)
   refine V.go (V.stRA (R := itI) (j := j) (f := 1) hK_437 hlA (i := (bkt T1.seed T1.a.length k)) (by omega) hv458 hA462 (by omega) (by decide) (.int .i64 v) (fun x => (x.1, v)) (sm hz440.p8.p4.p1 rfl) (o2 rfl (sm hz440.p8.p2.p1 rfl)) rfl rfl (by kernel_rfl) (fun w1 x c hc => by (have hc' : c = [.string x.1, .int .i64 x.2] := hc; subst hc'; rfl)) ?_)
   intro w463 hK464 hF465 hsw463 ho466
   have hB_467 := hB_434.fr hF465 (fun hm => (ho466 _ hm).1 (by simp))
   have hRA_468 := hRA_435.fr hF465 (fun hm => (ho466 _ hm).1 (by simp))
   have hRB_469 := hRB_436.fr hF465 (fun hm => (ho466 _ hm).1 (by simp))
   have hE_470 := hE_438.tr hF465 (fun k hk => ((ho466 k hk).2).imp (fun h => ⟨h, fun hm => (ho466 k hk).1 (by simp [hm])⟩) id)
   refine V.nil ?_
   refine V.then_n (hK455 _ _ ?_)
   refine V.flushW hz440.p8.p4.p2 (fun a471 hz472 up473 => ?_)
   have s0_474 := up473 0 _ (o8 rfl (o4 rfl (o2 rfl s0_442)))
   have s1_475 := up473 1 _ (o8 rfl (o4 rfl (o2 rfl s1_443)))
   have s2_476 := up473 2 _ (o8 rfl (o4 rfl (o2 rfl s2_444)))
   clear up473
   refine V.seq (fun K477 hK478 => ?_)
   refine V.rg ?_
   refine V.ga evc ?_
   refine V.nil ?_
   refine V.then_n (hK478 _ _ ?_)
   refine V.ret ?_
   refine V.blk_r ?_
   refine V.then_r ?_
   refine V.ret1 hz472.p1 rfl (sm hz472 rfl) ?_
   have hst : putT T k v = ({ T1 with a := setV T1.a (bkt T1.seed T1.a.length k) j v } : Tb Int) := by (unfold putT; rw [← hT1]; unfold put1T; rw [hf, if_pos rfl]; unfold updT; rw [hf]; simp)
   have hup := (updT_ok hok1 hm1 k v).1
   have hu2 : updT T1 k v = ({ T1 with a := setV T1.a (bkt T1.seed T1.a.length k) j v } : Tb Int) := by (unfold updT; rw [hf]; simp)
   rw [hu2] at hup
   rw [hst]
   exact ⟨by rw [hf], (TabM.fin (T := ({ T1 with a := setV T1.a (bkt T1.seed T1.a.length k) j v })) hup hb0 hB_467 hRA_468 hRB_469 (by first | exact hlA | (simp only [List.length_set]; exact hlA)) hK464 (mem4 (l := (t :: gA :: gB :: av)) (by simp) (by simp) (by simp) (by intro k hk; simp [hk])) (by first | assumption | omega) (by first | assumption | omega) (by first | assumption | omega) hpt ⟨.inl hpg.1, hpg.2⟩ ⟨.inl hph.1, hph.2⟩ rfl (setV_length _ _ _ _).symm rfl rfl rfl rfl rfl).gr3 (by omega), (hFPE.gr hE_470)⟩
 ·
  rcases hT5q.2 with ⟨hb0, gA, vsA, hN⟩ | ⟨hb0, gA, gB, vsA, vsB, hN⟩
  ·
   exact absurd (by rw [hb0]; rfl) hbn
  ·
   have hb1 : T1.b.length ≠ 0 := fun h => hb0 (List.eq_nil_of_length_eq_zero h)
   obtain ⟨hB, hRA, hRB, hlA, hlB, hK, hne, hne2, hne3, hpt, hpg, hph⟩ := hN
   replace hK := hK.toH
   have hltt := hB.lt
   have hltg := hRA.lt
   have hltg2 := hRB.lt
   have hE : FrP (gp (gr H w w7) av) w7 w7 := FrP.refl _ _
   have hK0 : ∀ k ∈ av, k < w7.heap.size := fun k hk => hK.avl k (by simp [hk])
   obtain ⟨hsd, hpa, hla, hlb, hmv, hmz, hnn, hcn, hks⟩ := (show T1.Ok from hok1)
   have hbl := hok1.bl
   have hFPE := hFP_8
   refine V.go (V.call 71 #[] #[.pointer (some ⟨t, 0, none⟩), .string k] evf (args2 (o1 rfl (sm hz.p2.p1 rfl)) (sm hz.p4 rfl)) (Go.Proofs.enters_of Try.func71 (by kernel_rfl) rfl) (by have h := rfind_any w7 (gr H w w7) (av) t T1 hT5q k hkz; rw [rfT_yes hf] at h; exact h) ?_)
   rintro _ w480 ⟨rfl, hF479⟩
   refine ⟨_, rfl, ?_⟩
   have hsw480 := hF479.size
   have hB_481 := hB.fr0 hF479
   have hRA_482 := hRA.fr0 hF479
   have hRB_483 := hRB.fr0 hF479
   have hK_484 := hK.fr0 hF479
   have hE_485 := hE.tr0 hF479
   have hbkl := bkt_lt T1.seed k (n := T1.b.length) (by omega)
   have hbq := hbl (bkt T1.seed T1.b.length k)
   refine V.gm (sm hz.p4.p1 rfl) ?_
   refine V.ge_ [(12, .tuple #[.int .i64 1, .int .i64 ((bkt T1.seed T1.b.length k : Nat) : Int), .int .i64 (j : Int)])] ⟨(sm hz.p4.p2 rfl), trivial⟩ (.int .i64 1) ?_
   refine V.ge_ [(12, .tuple #[.int .i64 1, .int .i64 ((bkt T1.seed T1.b.length k : Nat) : Int), .int .i64 (j : Int)])] ⟨(o1 rfl (sm hz.p4.p2 rfl)), trivial⟩ (.int .i64 ((bkt T1.seed T1.b.length k : Nat) : Int)) ?_
   refine V.ge_ [(12, .tuple #[.int .i64 1, .int .i64 ((bkt T1.seed T1.b.length k : Nat) : Int), .int .i64 (j : Int)])] ⟨(o2 rfl (sm hz.p4.p2 rfl)), trivial⟩ (.int .i64 (j : Int)) ?_
   refine V.ga (o2 rfl (sm hz.p4.p2.p1 rfl)) ?_
   refine V.ga (o2 rfl (sm hz.p8 rfl)) ?_
   refine V.ga (o2 rfl (sm hz.p8.p1 rfl)) ?_
   refine V.nil ?_
   refine V.then_n (hK10 _ _ ?_)
   refine V.flushW hz.p8.p4.p1 (fun a486 hz487 up488 => ?_)
   have s0_489 := up488 0 _ (o8 rfl (o4 rfl (o1 rfl s0)))
   have s1_490 := up488 1 _ (o8 rfl (o4 rfl (o1 rfl s1)))
   have s2_491 := up488 2 _ (o8 rfl (o4 rfl (o1 rfl s2)))
   have s7_492 := up488 7 _ (o2 rfl (sm hz.p8.p2 rfl))
   have s8_493 := up488 8 _ (o1 rfl (sm hz.p8.p2.p1 rfl))
   have s9_494 := up488 9 _ (sm hz.p8.p4 rfl)
   clear up488
   refine V.seq (fun K495 hK496 => ?_)
   refine V.seq (fun K497 hK498 => ?_)
   refine V.rg ?_
   refine V.gm (s7_492) ?_
   refine V.nil ?_
   refine V.then_n (hK498 _ _ ?_)
   refine V.block ?_
   refine V.seq (fun K499 hK500 => ?_)
   refine V.rg ?_
   refine V.ge_ [(19, .int .i64 1)] ⟨(sm hz487 rfl), trivial⟩ (.bool false) ?_
   refine V.ga (sm hz487.p1 rfl) ?_
   refine V.nil ?_
   refine V.then_n (hK500 _ _ ?_)
   refine V.cond_f (sm hz487.p2 rfl) ?_
   refine V.seq (fun K501 hK502 => ?_)
   refine V.rg ?_
   refine V.ge_ [(19, .int .i64 1)] ⟨(o2 rfl (sm hz487 rfl)), trivial⟩ (.bool true) ?_
   refine V.ga (sm hz487.p2.p1 rfl) ?_
   refine V.nil ?_
   refine V.then_n (hK502 _ _ ?_)
   refine V.flushW hz487.p4.p1 (fun a503 hz504 up505 => ?_)
   have s0_506 := up505 0 _ (o4 rfl (o1 rfl s0_489))
   have s1_507 := up505 1 _ (o4 rfl (o1 rfl s1_490))
   have s2_508 := up505 2 _ (o4 rfl (o1 rfl s2_491))
   have s8_509 := up505 8 _ (o4 rfl (o1 rfl s8_493))
   have s9_510 := up505 9 _ (o4 rfl (o1 rfl s9_494))
   have s33_511 := up505 33 _ (sm hz487.p4 rfl)
   clear up505
   refine V.cond_t (s33_511) ?_
   refine V.seq (fun K512 hK513 => ?_)
   refine V.rg ?_
   refine V.gm (s0_506) ?_
   refine V.ge_ [(35, .pointer (some ⟨t, 0, none⟩))] ⟨(sm hz504 rfl), trivial⟩ (.pointer (some ⟨t, 0, none⟩)) ?_
   refine V.ge_ [(36, .pointer (some ⟨t, 0, none⟩))] ⟨(sm hz504.p1 rfl), trivial⟩ (.pointer (some ⟨t, 2, none⟩)) ?_
   refine V.go (V.ld ⟨t, 2, none⟩ (.slice (some ⟨gB, 0, none⟩) T1.b.length T1.b.length) (sm hz504.p2 rfl) (by kernel_rfl) (hB_481.at 2 rfl) ?_)
   refine V.gm (o4 rfl s8_509) ?_
   refine V.go (V.ixa gB 0 T1.b.length T1.b.length .i64 ((bkt T1.seed T1.b.length k : Nat) : Int) 1 (o1 rfl (sm hz504.p2.p1 rfl)) (sm hz504.p4 rfl) (by omega) (by omega) (by kernel_rfl) ?_)
   obtain ⟨A514, c515, hv516⟩ := hK_484.getB hlA (i := (bkt T1.seed T1.b.length k)) (by omega) nilS
   refine V.go (V.ld ⟨gB, 0 + ((bkt T1.seed T1.b.length k : Nat) : Int).toNat * 1, none⟩ (.slice A514 ((T1.b.getD (bkt T1.seed T1.b.length k) []).length) c515) (sm hz504.p4.p1 rfl) (by kernel_rfl) ((hRB_483.at (bkt T1.seed T1.b.length k) nilS (by omega)).trans (congrArg some hv516)) ?_)
   have hS517 := hK_484.slB hlA (i := (bkt T1.seed T1.b.length k)) (by omega) hv516
   refine V.gm (o4 rfl (o2 rfl (o1 rfl s9_510))) ?_
   refine V.gm (o8 rfl s2_508) ?_
   obtain ⟨g518, o519, hA520, hA520l, hA520z⟩ := hS517.addr (by omega)
   refine V.go (V.ixa g518 o519 ((T1.b.getD (bkt T1.seed T1.b.length k) []).length) c515 .i64 (j : Int) 2 ((o2 rfl (sm hz504.p4.p2 rfl)).trans (by rw [hA520])) (o1 rfl (sm hz504.p4.p2.p1 rfl)) (by omega) (by omega) (by kernel_rfl) ?_)
   refine V.go (V.fa (sm hz504.p8.p1 rfl) 1 (fun _ _ => by kernel_rfl) ?_)
   refine V.go (V.stRB (R := itI) (j := j) (f := 1) hK_484 hlA (i := (bkt T1.seed T1.b.length k)) (by omega) hv516 hA520 (by omega) (by decide) (.int .i64 v) (fun x => (x.1, v)) (sm hz504.p8.p2 rfl) (o2 rfl (sm hz504.p8 rfl)) rfl rfl (by kernel_rfl) (fun w1 x c hc => by (have hc' : c = [.string x.1, .int .i64 x.2] := hc; subst hc'; rfl)) ?_)
   intro w521 hK522 hF523 hsw521 ho524
   have hB_525 := hB_481.fr hF523 (fun hm => (ho524 _ hm).1 (by simp))
   have hRA_526 := hRA_482.fr hF523 (fun hm => (ho524 _ hm).1 (by simp))
   have hRB_527 := hRB_483.fr hF523 (fun hm => (ho524 _ hm).1 (by simp))
   have hE_528 := hE_485.tr hF523 (fun k hk => ((ho524 k hk).2).imp (fun h => ⟨h, fun hm => (ho524 k hk).1 (by simp [hm])⟩) id)
   refine V.nil ?_
   refine V.then_n (hK513 _ _ ?_)
   refine V.flushW hz504.p8.p2.p1 (fun a529 hz530 up531 => ?_)
   have s0_532 := up531 0 _ (o8 rfl (o2 rfl (o1 rfl s0_506)))
   have s1_533 := up531 1 _ (o8 rfl (o2 rfl (o1 rfl s1_507)))
   have s2_534 := up531 2 _ (o8 rfl (o2 rfl (o1 rfl s2_508)))
   clear up531
   refine V.seq (fun K535 hK536 => ?_)
   refine V.rg ?_
   refine V.ga evc ?_
   refine V.nil ?_
   refine V.then_n (hK536 _ _ ?_)
   refine V.ret ?_
   refine V.blk_r ?_
   refine V.then_r ?_
   refine V.ret1 hz530.p1 rfl (sm hz530 rfl) ?_
   have hst : putT T k v = ({ T1 with b := setV T1.b (bkt T1.seed T1.b.length k) j v } : Tb Int) := by (unfold putT; rw [← hT1]; unfold put1T; rw [hf, if_pos rfl]; unfold updT; rw [hf]; simp)
   have hup := (updT_ok hok1 hm1 k v).1
   have hu2 : updT T1 k v = ({ T1 with b := setV T1.b (bkt T1.seed T1.b.length k) j v } : Tb Int) := by (unfold updT; rw [hf]; simp)
   rw [hu2] at hup
   rw [hst]
   exact ⟨by rw [hf], (TabM.fin (T := ({ T1 with b := setV T1.b (bkt T1.seed T1.b.length k) j v })) hup (fun h => hb1 (by have := congrArg List.length h; rwa [setV_length] at this)) hB_525 hRA_526 hRB_527 (by first | exact hlA | (simp only [List.length_set]; exact hlA)) hK522 (mem4 (l := (t :: gA :: gB :: av)) (by simp) (by simp) (by simp) (by intro k hk; simp [hk])) (by first | assumption | omega) (by first | assumption | omega) (by first | assumption | omega) hpt ⟨.inl hpg.1, hpg.2⟩ ⟨.inl hph.1, hph.2⟩ rfl rfl rfl rfl rfl rfl (setV_length _ _ _ _).symm).gr3 (by omega), (hFPE.gr hE_528)⟩
set_option maxHeartbeats 4000000 in
set_option maxRecDepth 20000 in
theorem rnew_any (w : World) (av : List Nat) (hav : ∀ k ∈ av, k < w.heap.size) (seed : Nat) (hsd : seed < 18446744073709551616) : Calls Try.prog 15 #[.int .u64 (seed : Int)] w (fun e w' => ∃ t, e = .returned (.pointer (some ⟨t, 0, none⟩)) ∧ TabX 40 42 60 itI w' (gr (fun _ => False) w w') av t (newT seed) ∧ Fr [] w w') := by
 have hF := Fr.refl [] w
 refine V.enter 7 Try.func15 rfl rfl ?_
 intro a hz ha
 have s0 : a.eval (.tmp 0) = (.int .u64 (seed : Int)) := ha 0 _ rfl
 clear ha
 refine V.seq (fun K1 hK2 => ?_)
 refine V.rg ?_
 refine V.ga evc ?_
 refine V.nil ?_
 refine V.then_n (hK2 _ _ ?_)
 refine V.seq (fun K3 hK4 => ?_)
 refine V.rg ?_
 refine V.gm (o1 rfl s0) ?_
 refine V.go (V.mks (enc := idV) (4) (.slice none 0 0) nilS 24 (evc.trans (V.int_eq (by omega))) (evc.trans (V.int_eq (by omega))) (by kernel_rfl) info42 rfl rfl (by omega) (by omega) ?_)
 intro w6 b5 heb5 hR7 hF8
 have hsb5 := hR7.lt
 have hF_9 := hF.new hF8
 refine V.ge_ [(3, .int .u64 (seed : Int)), (4, .slice (some ⟨b5, 0, none⟩) 4 4)] ⟨(o1 rfl (sm hz.p1 rfl)), (sm hz.p2 rfl), trivial⟩ (.agg #[.int .u64 (seed : Int), .slice (some ⟨b5, 0, none⟩) 4 4, .slice none 0 0, .int .i64 0, .int .i64 0]) ?_
 refine V.go (V.mk [(5, .agg #[.int .u64 (seed : Int), .slice (some ⟨b5, 0, none⟩) 4 4, .slice none 0 0, .int .i64 0, .int .i64 0])] ⟨(sm hz.p2.p1 rfl), trivial⟩ (by kernel_rfl) [.int .u64 (seed : Int), .slice (some ⟨b5, 0, none⟩) 4 4, .slice none 0 0, .int .i64 0, .int .i64 0] 40 (fun b => .pointer (some ⟨b, 0, none⟩)) (by kernel_rfl) ?_)
 intro w11 b10 heb10 hB12 hF13 hsb10
 have hF_14 := hF_9.new hF13
 have hR7_15 := hR7.fr0 hF13
 refine V.ga (sm hz.p4 rfl) ?_
 refine V.nil ?_
 refine V.then_n (hK4 _ _ ?_)
 refine V.flushW hz.p4.p2 (fun a16 hz17 up18 => ?_)
 have s2_19 := up18 2 _ (sm hz.p4.p1 rfl)
 clear up18
 refine V.ret ?_
 refine V.ret1 hz17 rfl (s2_19) ?_
 exact ⟨b10, rfl, newT_tab hB12 hR7_15 (by omega) (by omega) (by omega) hsd hav, hF_14⟩
end Go.Proofs.Ytalhmegjomfbaaa
