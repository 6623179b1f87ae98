/- Walks: which bytes a part matches. -/
import Derived.Test.YtmlohijidjbbjaaProg
import Derived.Test.YtmlohijidjbbjaaPl
import Derived.Test.YtmlohijidjbbjaaWa
namespace Go.Proofs.Ytmlohijidjbbjaa
open Go.V Go.Base
attribute [local irreducible] Act.put Act.eval
set_option linter.unusedVariables false
set_option linter.unusedSimpArgs false
set_option maxHeartbeats 4000000 in
set_option maxRecDepth 20000 in
theorem matched1_any (w : World) (g : Glob) (A : Option Addr) (cap b2 b3 : Nat) (c : Int) (fold : Bool) (h0 : 0 ≤ c) (h1 : c ≤ 255) (hg0 : 0 ≤ g.c) (hg1 : g.c ≤ 255) (hrs : ∀ i : Int, GoodS (at_ spanR g.rs i)) (hB2 : Blk w b2 [.int .i64 g.kind, .int .u8 g.c, .bool g.neg, .slice A g.rs.length cap] 42) (hB3 : Blk w b3 [.bool fold] 4) (hS : SlR spanR (fun b => b < w.heap.size) w (.slice A g.rs.length cap) g.rs) : Calls Try.prog 34 #[.int .u8 c, .pointer (some ⟨b2, 0, none⟩), .pointer (some ⟨b3, 0, none⟩)] w (fun e w' => e = .returned (.bool (setB g c fold)) ∧ Fr [] w w') := by
  have hF := Fr.refl [] w; have hlen := hS.len_le
  refine V.enter 70 Try.func34 rfl rfl ?_
  intro a hz ha
  have s0 : a.eval (.tmp 0) = (.int .u8 c) := ha 0 _ rfl
  have s1 : a.eval (.tmp 1) = (.pointer (some ⟨b2, 0, none⟩)) := ha 1 _ rfl
  have s2 : a.eval (.tmp 2) = (.pointer (some ⟨b3, 0, none⟩)) := ha 2 _ rfl
  clear ha
  refine V.seq (fun K1 hK2 => ?_)
  refine V.region (by kernel_rfl) ?_
  refine V.go (V.asg (v := (.bool false)) evc ?_)
  refine V.nil ?_
  refine V.then_n (hK2 _ _ ?_)
  refine V.seq (fun K3 hK4 => ?_)
  refine V.seq (fun K5 hK6 => ?_)
  refine V.region (by kernel_rfl) ?_
  refine V.go (V.pv [(1, .pointer (some ⟨b2, 0, none⟩))] ⟨(at_other rfl _ (s1)), trivial⟩ (by kernel_rfl) (.pointer (some ⟨b2, 0, none⟩)) (by kernel_rfl) ?_)
  refine V.go (V.ld ⟨b2, 0, none⟩ (.int .i64 g.kind) (at_same (hz.put _ _) rfl _) (by kernel_rfl) (hB2.at 0 rfl) ?_)
  refine V.nil ?_
  refine V.then_n (hK6 _ _ ?_)
  refine V.block ?_
  refine V.seq (fun K7 hK8 => ?_)
  refine V.block ?_
  refine V.seq (fun K9 hK10 => ?_)
  refine V.block ?_
  refine V.block ?_
  refine V.seq (fun K11 hK12 => ?_)
  refine V.seq (fun K13 hK14 => ?_)
  refine V.seq (fun K15 hK16 => ?_)
  refine V.region (by kernel_rfl) ?_
  refine V.go (V.pvw [(11, .int .i64 g.kind)] ⟨(at_same ((hz.put _ _).put _ _) rfl _), trivial⟩ (by kernel_rfl) (.bool (g.kind == 1)) (.bool (decide (g.kind = 1))) (by kernel_rfl) V.t_eql ?_)
  refine V.go (V.asg (v := (.bool (decide (g.kind = 1)))) (at_same (((hz.put _ _).put _ _).put _ _) rfl _) ?_)
  refine V.nil ?_
  refine V.then_n (hK16 _ _ ?_)
  refine V.flushW (((((hz.put _ _).put _ _).put _ _).put _ _).put _ _) (fun a17 hz18 up19 => ?_)
  have s0_20 : a17.eval (.tmp 0) = (.int .u8 c) := up19 _ _ (at_other rfl _ (at_other rfl _ (at_other rfl _ (at_other rfl _ (at_other rfl _ (s0))))))
  have s1_21 : a17.eval (.tmp 1) = (.pointer (some ⟨b2, 0, none⟩)) := up19 _ _ (at_other rfl _ (at_other rfl _ (at_other rfl _ (at_other rfl _ (at_other rfl _ (s1))))))
  have s2_22 : a17.eval (.tmp 2) = (.pointer (some ⟨b3, 0, none⟩)) := up19 _ _ (at_other rfl _ (at_other rfl _ (at_other rfl _ (at_other rfl _ (at_other rfl _ (s2))))))
  have s11_23 : a17.eval (.tmp 11) = (.int .i64 g.kind) := up19 _ _ (at_other rfl _ (at_other rfl _ (at_same ((hz.put _ _).put _ _) rfl _)))
  have s12_24 : a17.eval (.tmp 12) = (.bool (decide (g.kind = 1))) := up19 _ _ (at_same ((((hz.put _ _).put _ _).put _ _).put _ _) rfl _)
  clear up19
  refine V.condP (p := g.kind = 1) (s12_24) (fun ht25 => ?_) (fun ht25 => ?_)
  ·
    refine V.exit ?_
    refine V.then_e ?_
    refine V.then_e ?_
    refine V.blk_hit ?_
    refine V.blk_n ?_
    refine V.then_n (hK10 _ _ ?_)
    refine V.seq (fun K26 hK27 => ?_)
    refine V.seq (fun K28 hK29 => ?_)
    refine V.region (by kernel_rfl) ?_
    refine V.go (V.asg (v := (.bool true)) evc ?_)
    refine V.nil ?_
    refine V.then_n (hK29 _ _ ?_)
    refine V.ret ?_
    refine V.then_r ?_
    refine V.blk_r ?_
    refine V.then_r ?_
    refine V.blk_r ?_
    refine V.then_r ?_
    refine V.ret1 (hz18.put _ _) rfl (at_same hz18 rfl _) ?_
    refine ⟨congrArg Ending.returned (congrArg Value.bool ?_), hF⟩
    unfold setB
    rw [if_pos (by omega)]
  ·
    refine V.skip ?_
    refine V.then_n (hK14 _ _ ?_)
    refine V.seq (fun K30 hK31 => ?_)
    refine V.seq (fun K32 hK33 => ?_)
    refine V.region (by kernel_rfl) ?_
    refine V.go (V.pvw [(11, .int .i64 g.kind)] ⟨(s11_23), trivial⟩ (by kernel_rfl) (.bool (g.kind == 2)) (.bool (decide (g.kind = 2))) (by kernel_rfl) V.t_eql ?_)
    refine V.go (V.asg (v := (.bool (decide (g.kind = 2)))) (at_same hz18 rfl _) ?_)
    refine V.nil ?_
    refine V.then_n (hK33 _ _ ?_)
    refine V.condP (p := g.kind = 2) (at_same (hz18.put _ _) rfl _) (fun ht34 => ?_) (fun ht34 => ?_)
    ·
      refine V.exit ?_
      refine V.then_e ?_
      refine V.then_e ?_
      refine V.blk_miss rfl ?_
      refine V.blk_hit ?_
      refine V.then_n (hK10 _ _ ?_)
      refine V.seq (fun K35 hK36 => ?_)
      refine V.seq (fun K37 hK38 => ?_)
      refine V.region (by kernel_rfl) ?_
      refine V.go (V.asg (v := (.bool true)) evc ?_)
      refine V.nil ?_
      refine V.then_n (hK38 _ _ ?_)
      refine V.ret ?_
      refine V.then_r ?_
      refine V.blk_r ?_
      refine V.then_r ?_
      refine V.blk_r ?_
      refine V.then_r ?_
      refine V.ret1 (((hz18.put _ _).put _ _).put _ _) rfl (at_same ((hz18.put _ _).put _ _) rfl _) ?_
      refine ⟨congrArg Ending.returned (congrArg Value.bool ?_), hF⟩
      unfold setB
      rw [if_pos (by omega)]
    ·
      refine V.skip ?_
      refine V.then_n (hK31 _ _ ?_)
      refine V.seq (fun K39 hK40 => ?_)
      refine V.region (by kernel_rfl) ?_
      refine V.go (V.pvw [(11, .int .i64 g.kind)] ⟨(at_other rfl _ (at_other rfl _ (s11_23))), trivial⟩ (by kernel_rfl) (.bool (g.kind == 3)) (.bool (decide (g.kind = 3))) (by kernel_rfl) V.t_eql ?_)
      refine V.go (V.asg (v := (.bool (decide (g.kind = 3)))) (at_same ((hz18.put _ _).put _ _) rfl _) ?_)
      refine V.nil ?_
      refine V.then_n (hK40 _ _ ?_)
      refine V.flushW ((((hz18.put _ _).put _ _).put _ _).put _ _) (fun a41 hz42 up43 => ?_)
      have s0_44 : a41.eval (.tmp 0) = (.int .u8 c) := up43 _ _ (at_other rfl _ (at_other rfl _ (at_other rfl _ (at_other rfl _ (s0_20)))))
      have s1_45 : a41.eval (.tmp 1) = (.pointer (some ⟨b2, 0, none⟩)) := up43 _ _ (at_other rfl _ (at_other rfl _ (at_other rfl _ (at_other rfl _ (s1_21)))))
      have s2_46 : a41.eval (.tmp 2) = (.pointer (some ⟨b3, 0, none⟩)) := up43 _ _ (at_other rfl _ (at_other rfl _ (at_other rfl _ (at_other rfl _ (s2_22)))))
      have s16_47 : a41.eval (.tmp 16) = (.bool (decide (g.kind = 3))) := up43 _ _ (at_same (((hz18.put _ _).put _ _).put _ _) rfl _)
      clear up43
      refine V.condP (p := g.kind = 3) (s16_47) (fun ht48 => ?_) (fun ht48 => ?_)
      ·
        refine V.exit ?_
        refine V.then_e ?_
        refine V.blk_miss rfl ?_
        refine V.blk_miss rfl ?_
        refine V.then_e ?_
        refine V.blk_hit ?_
        refine V.then_n (hK8 _ _ ?_)
        refine V.seq (fun K49 hK50 => ?_)
        refine V.seq (fun K51 hK52 => ?_)
        refine V.plan [[], [], [1], [0, 1, 2], [0, 1, 2, 3], [0, 1, 2, 3, 4], [0, 1, 2, 3, 4, 5], [0, 1, 2, 3, 4, 5, 6], [0, 1, 2, 3, 4, 5, 6, 7], [0, 1, 2, 3, 4, 5, 6], [0, 1, 2, 3, 4, 5, 6, 9], [0, 1, 2, 3, 4, 5, 6, 7, 8, 9, 10], [0, 1, 2, 3, 4, 5, 6, 7, 8, 9, 10, 11], [0, 1, 2, 3, 4, 5, 6, 7, 8, 9, 10, 11, 12], [0, 1, 2, 3, 4, 5, 6, 7, 8, 9, 10, 11, 12, 13], [0, 1, 2, 3, 4, 5, 6, 7, 8, 9, 10, 11, 12, 13, 14]] [([0, 1, 2, 3, 4, 5, 6, 7, 9, 10], some (8, [10])), ([], some (11, [])), ([12, 13, 14, 15], none)] (by kernel_rfl) (by kernel_rfl) (by exact fun _ _ _ _ h => h) ?_
        simp only [Plan.wpSegs, Plan.pickAll, Plan.nth, V.L_eq]
        obtain ⟨w53, hF54e⟩ : ∃ w1, w1 = w.drew := ⟨_, rfl⟩
        rw [← hF54e]
        have hF54 : Fr [] w w53 := by rw [hF54e]; exact Fr.drew _ _
        have hsw53 : w53.heap.size = w.heap.size := by rw [hF54e]; rfl
        clear hF54e
        have hF_55 := hF.new hF54
        have hS_56 := hS.fr0 hF54
        have hB2_57 := hB2.fr0 hF54
        have hB3_58 := hB3.fr0 hF54
        refine V.go (V.mv (v := (.int .u8 c)) (s0_44) ?_)
        refine V.go (V.pv [(1, .pointer (some ⟨b2, 0, none⟩))] ⟨(at_other rfl _ (s1_45)), trivial⟩ (by kernel_rfl) (.pointer (some ⟨b2, 1, none⟩)) (by kernel_rfl) ?_)
        refine V.go (V.ld ⟨b2, 1, none⟩ (.int .u8 g.c) (at_same (hz42.put _ _) rfl _) (by kernel_rfl) (hB2_57.at 1 rfl) ?_)
        refine V.go (V.pvw [(18, .int .u8 c), (20, .int .u8 g.c)] ⟨(at_other rfl _ (at_other rfl _ (at_same hz42 rfl _))), (at_same ((hz42.put _ _).put _ _) rfl _), trivial⟩ (by kernel_rfl) (.bool (c == g.c)) (.bool (decide (c = g.c))) (by kernel_rfl) V.t_eql ?_)
        refine V.go (V.mv (v := (.bool (decide (c = g.c)))) (at_same (((hz42.put _ _).put _ _).put _ _) rfl _) ?_)
        by_cases hg59 : c = g.c
        ·
          refine V.go_off 22 (by kernel_rfl) (((at_same ((((hz42.put _ _).put _ _).put _ _).put _ _) rfl _ : Act.eval _ _ = (.bool (decide (c = g.c))))).trans (dt hg59)) (by kernel_rfl) ?_
          refine V.go_off 22 (by kernel_rfl) (((at_other rfl _ (at_same ((((hz42.put _ _).put _ _).put _ _).put _ _) rfl _) : Act.eval _ _ = (.bool (decide (c = g.c))))).trans (dt hg59)) (by kernel_rfl) ?_
          refine V.go_none 24 (by kernel_rfl) (at_same ((((((hz42.put _ _).put _ _).put _ _).put _ _).put _ _).put _ _) rfl _) ?_
          refine V.go_none 24 (by kernel_rfl) (at_other rfl _ (at_same ((((((hz42.put _ _).put _ _).put _ _).put _ _).put _ _).put _ _) rfl _)) ?_
          refine V.go_none 24 (by kernel_rfl) (at_other rfl _ (at_other rfl _ (at_same ((((((hz42.put _ _).put _ _).put _ _).put _ _).put _ _).put _ _) rfl _))) ?_
          refine V.nil ?_
          refine ⟨chk [(18, .int .u8 c), (20, .int .u8 g.c), (22, .bool true), (24, undef)] ⟨(at_other rfl _ (at_other rfl _ (at_other rfl _ (at_other rfl _ (at_other rfl _ (at_other rfl _ (at_other rfl _ (at_other rfl _ (at_other rfl _ (at_same hz42 rfl _)))))))))), (at_other rfl _ (at_other rfl _ (at_other rfl _ (at_other rfl _ (at_other rfl _ (at_other rfl _ (at_other rfl _ (at_same ((hz42.put _ _).put _ _) rfl _)))))))), (((at_other rfl _ (at_other rfl _ (at_other rfl _ (at_other rfl _ (at_other rfl _ (at_same ((((hz42.put _ _).put _ _).put _ _).put _ _) rfl _))))) : Act.eval _ _ = (.bool (decide (c = g.c))))).trans (dt hg59)), (at_other rfl _ (at_other rfl _ (at_other rfl _ (at_same ((((((hz42.put _ _).put _ _).put _ _).put _ _).put _ _).put _ _) rfl _)))), trivial⟩ (by kernel_rfl), ?_⟩
          refine V.go_none 24 (by kernel_rfl) (at_other rfl _ (at_other rfl _ (at_other rfl _ (at_same ((((((hz42.put _ _).put _ _).put _ _).put _ _).put _ _).put _ _) rfl _)))) ?_
          refine V.nil ?_
          refine ⟨(fun _ => held_undef (at_other rfl _ (at_same ((((((((hz42.put _ _).put _ _).put _ _).put _ _).put _ _).put _ _).put _ _).put _ _) rfl _))), ?_⟩
          refine V.nil ?_
          refine ⟨chk [] trivial (by kernel_rfl), ?_⟩
          refine V.go_none 24 (by kernel_rfl) (at_other rfl _ (at_other rfl _ (at_other rfl _ (at_other rfl _ (at_same ((((((hz42.put _ _).put _ _).put _ _).put _ _).put _ _).put _ _) rfl _))))) ?_
          refine V.nil ?_
          refine ⟨trivial, ?_⟩
          refine V.go_none 24 (by kernel_rfl) (at_other rfl _ (at_other rfl _ (at_other rfl _ (at_other rfl _ (at_other rfl _ (at_same ((((((hz42.put _ _).put _ _).put _ _).put _ _).put _ _).put _ _) rfl _)))))) ?_
          refine V.go_off 22 (by kernel_rfl) (((at_other rfl _ (at_other rfl _ (at_other rfl _ (at_other rfl _ (at_other rfl _ (at_other rfl _ (at_other rfl _ (at_other rfl _ (at_same ((((hz42.put _ _).put _ _).put _ _).put _ _) rfl _)))))))) : Act.eval _ _ = (.bool (decide (c = g.c))))).trans (dt hg59)) (by kernel_rfl) ?_
          refine V.go (V.pk_t (((at_other rfl _ (at_other rfl _ (at_other rfl _ (at_other rfl _ (at_other rfl _ (at_other rfl _ (at_other rfl _ (at_other rfl _ (at_other rfl _ (at_same ((((hz42.put _ _).put _ _).put _ _).put _ _) rfl _))))))))) : Act.eval _ _ = (.bool (decide (c = g.c))))).trans (dt hg59)) (v := (.bool true)) evc ?_)
          refine V.go (V.asg (v := (.bool true)) (at_same ((((((((((((((hz42.put _ _).put _ _).put _ _).put _ _).put _ _).put _ _).put _ _).put _ _).put _ _).put _ _).put _ _).put _ _).put _ _).put _ _) rfl _) ?_)
          refine V.nil ?_
          refine ⟨chk [(26, undef), (29, undef), (24, undef), (22, .bool true)] ⟨(at_other rfl _ (at_other rfl _ (at_other rfl _ (at_other rfl _ (at_other rfl _ (at_same ((((((((((hz42.put _ _).put _ _).put _ _).put _ _).put _ _).put _ _).put _ _).put _ _).put _ _).put _ _) rfl _)))))), (at_other rfl _ (at_other rfl _ (at_other rfl _ (at_other rfl _ (at_same (((((((((((hz42.put _ _).put _ _).put _ _).put _ _).put _ _).put _ _).put _ _).put _ _).put _ _).put _ _).put _ _) rfl _))))), (at_other rfl _ (at_other rfl _ (at_other rfl _ (at_other rfl _ (at_other rfl _ (at_other rfl _ (at_other rfl _ (at_other rfl _ (at_other rfl _ (at_same ((((((hz42.put _ _).put _ _).put _ _).put _ _).put _ _).put _ _) rfl _)))))))))), (((at_other rfl _ (at_other rfl _ (at_other rfl _ (at_other rfl _ (at_other rfl _ (at_other rfl _ (at_other rfl _ (at_other rfl _ (at_other rfl _ (at_other rfl _ (at_other rfl _ (at_same ((((hz42.put _ _).put _ _).put _ _).put _ _) rfl _))))))))))) : Act.eval _ _ = (.bool (decide (c = g.c))))).trans (dt hg59)), trivial⟩ (by kernel_rfl), ?_⟩
          refine V.then_n (hK52 _ _ ?_)
          refine V.flushW ((((((((((((((((hz42.put _ _).put _ _).put _ _).put _ _).put _ _).put _ _).put _ _).put _ _).put _ _).put _ _).put _ _).put _ _).put _ _).put _ _).put _ _).put _ _) (fun a60 hz61 up62 => ?_)
          have s0_63 : a60.eval (.tmp 0) = (.int .u8 c) := up62 _ _ (at_other rfl _ (at_other rfl _ (at_other rfl _ (at_other rfl _ (at_other rfl _ (at_other rfl _ (at_other rfl _ (at_other rfl _ (at_other rfl _ (at_other rfl _ (at_other rfl _ (at_other rfl _ (at_other rfl _ (at_other rfl _ (at_other rfl _ (at_other rfl _ (s0_44)))))))))))))))))
          have s1_64 : a60.eval (.tmp 1) = (.pointer (some ⟨b2, 0, none⟩)) := up62 _ _ (at_other rfl _ (at_other rfl _ (at_other rfl _ (at_other rfl _ (at_other rfl _ (at_other rfl _ (at_other rfl _ (at_other rfl _ (at_other rfl _ (at_other rfl _ (at_other rfl _ (at_other rfl _ (at_other rfl _ (at_other rfl _ (at_other rfl _ (at_other rfl _ (s1_45)))))))))))))))))
          have s2_65 : a60.eval (.tmp 2) = (.pointer (some ⟨b3, 0, none⟩)) := up62 _ _ (at_other rfl _ (at_other rfl _ (at_other rfl _ (at_other rfl _ (at_other rfl _ (at_other rfl _ (at_other rfl _ (at_other rfl _ (at_other rfl _ (at_other rfl _ (at_other rfl _ (at_other rfl _ (at_other rfl _ (at_other rfl _ (at_other rfl _ (at_other rfl _ (s2_46)))))))))))))))))
          have s4_66 : a60.eval (.tmp 4) = (.bool true) := up62 _ _ (at_same (((((((((((((((hz42.put _ _).put _ _).put _ _).put _ _).put _ _).put _ _).put _ _).put _ _).put _ _).put _ _).put _ _).put _ _).put _ _).put _ _).put _ _) rfl _)
          clear up62
          refine V.ret ?_
          refine V.then_r ?_
          refine V.blk_r ?_
          refine V.then_r ?_
          refine V.ret1 hz61 rfl (s4_66) ?_
          refine ⟨congrArg Ending.returned (congrArg Value.bool ?_), hF_55⟩
          unfold setB
          rw [if_neg (by omega), if_pos (by omega)]
          rw [decide_eq_true hg59]; rfl
        ·
          refine V.go_on 22 (by kernel_rfl) (((at_same ((((hz42.put _ _).put _ _).put _ _).put _ _) rfl _ : Act.eval _ _ = (.bool (decide (c = g.c))))).trans (df hg59)) (V.ld ⟨b3, 0, none⟩ (.bool fold) (at_other rfl _ (at_other rfl _ (at_other rfl _ (at_other rfl _ (at_other rfl _ (s2_46)))))) (by kernel_rfl) (hB3_58.at 0 rfl) ?_)
          refine V.go_on 22 (by kernel_rfl) (((at_other rfl _ (at_same ((((hz42.put _ _).put _ _).put _ _).put _ _) rfl _) : Act.eval _ _ = (.bool (decide (c = g.c))))).trans (df hg59)) (V.mv (v := (.bool fold)) (at_same (((((hz42.put _ _).put _ _).put _ _).put _ _).put _ _) rfl _) ?_)
          by_cases hg67 : fold = true
          ·
            refine V.go_on 24 (by kernel_rfl) (((at_same ((((((hz42.put _ _).put _ _).put _ _).put _ _).put _ _).put _ _) rfl _ : Act.eval _ _ = (.bool fold))).trans (bt hg67)) (V.mv (v := (.int .u8 c)) (at_other rfl _ (at_other rfl _ (at_other rfl _ (at_other rfl _ (at_other rfl _ (at_other rfl _ (at_other rfl _ (s0_44)))))))) ?_)
            refine V.go_on 24 (by kernel_rfl) (((at_other rfl _ (at_same ((((((hz42.put _ _).put _ _).put _ _).put _ _).put _ _).put _ _) rfl _) : Act.eval _ _ = (.bool fold))).trans (bt hg67)) (V.pv [(1, .pointer (some ⟨b2, 0, none⟩))] ⟨(at_other rfl _ (at_other rfl _ (at_other rfl _ (at_other rfl _ (at_other rfl _ (at_other rfl _ (at_other rfl _ (at_other rfl _ (s1_45))))))))), trivial⟩ (by kernel_rfl) (.pointer (some ⟨b2, 1, none⟩)) (by kernel_rfl) ?_)
            refine V.go_on 24 (by kernel_rfl) (((at_other rfl _ (at_other rfl _ (at_same ((((((hz42.put _ _).put _ _).put _ _).put _ _).put _ _).put _ _) rfl _)) : Act.eval _ _ = (.bool fold))).trans (bt hg67)) (V.ld ⟨b2, 1, none⟩ (.int .u8 g.c) (at_same ((((((((hz42.put _ _).put _ _).put _ _).put _ _).put _ _).put _ _).put _ _).put _ _) rfl _) (by kernel_rfl) (hB2_57.at 1 rfl) ?_)
            refine V.nil ?_
            refine ⟨chk [(18, .int .u8 c), (20, .int .u8 g.c), (22, .bool false), (24, .bool true)] ⟨(at_other rfl _ (at_other rfl _ (at_other rfl _ (at_other rfl _ (at_other rfl _ (at_other rfl _ (at_other rfl _ (at_other rfl _ (at_other rfl _ (at_same hz42 rfl _)))))))))), (at_other rfl _ (at_other rfl _ (at_other rfl _ (at_other rfl _ (at_other rfl _ (at_other rfl _ (at_other rfl _ (at_same ((hz42.put _ _).put _ _) rfl _)))))))), (((at_other rfl _ (at_other rfl _ (at_other rfl _ (at_other rfl _ (at_other rfl _ (at_same ((((hz42.put _ _).put _ _).put _ _).put _ _) rfl _))))) : Act.eval _ _ = (.bool (decide (c = g.c))))).trans (df hg59)), (((at_other rfl _ (at_other rfl _ (at_other rfl _ (at_same ((((((hz42.put _ _).put _ _).put _ _).put _ _).put _ _).put _ _) rfl _))) : Act.eval _ _ = (.bool fold))).trans (bt hg67)), trivial⟩ (by kernel_rfl), ?_⟩
            refine V.go_on 24 (by kernel_rfl) (((at_other rfl _ (at_other rfl _ (at_other rfl _ (at_same ((((((hz42.put _ _).put _ _).put _ _).put _ _).put _ _).put _ _) rfl _))) : Act.eval _ _ = (.bool fold))).trans (bt hg67)) (V.call 35 #[] #[.int .u8 c] evf (args1 (at_other rfl _ (at_other rfl _ (at_same (((((((hz42.put _ _).put _ _).put _ _).put _ _).put _ _).put _ _).put _ _) rfl _)))) (Go.Proofs.enters_of Try.func35 (by kernel_rfl) rfl) (small_any _ c (by omega) (by omega)) ?_)
            rintro _ _ ⟨rfl, rfl⟩
            refine ⟨_, rfl, ?_⟩
            have hsm67 := smallI_in c (by omega) (by omega)
            refine V.nil ?_
            refine ⟨(fun _ => held_blk (n := 1) (hx := (at_other rfl _ (at_same ((((((((hz42.put _ _).put _ _).put _ _).put _ _).put _ _).put _ _).put _ _).put _ _) rfl _))) hB2_57 hB2_57 (by kernel_rfl) rfl (by simp only [List.length]; omega)), ?_⟩
            refine V.nil ?_
            refine ⟨chk [] trivial (by kernel_rfl), ?_⟩
            refine V.go_on 24 (by kernel_rfl) (((at_other rfl _ (at_other rfl _ (at_other rfl _ (at_other rfl _ (at_same ((((((hz42.put _ _).put _ _).put _ _).put _ _).put _ _).put _ _) rfl _)))) : Act.eval _ _ = (.bool fold))).trans (bt hg67)) (V.call 35 #[] #[.int .u8 g.c] evf (args1 (at_other rfl _ (at_same (((((((((hz42.put _ _).put _ _).put _ _).put _ _).put _ _).put _ _).put _ _).put _ _).put _ _) rfl _))) (Go.Proofs.enters_of Try.func35 (by kernel_rfl) rfl) (small_any _ g.c (by omega) (by omega)) ?_)
            rintro _ _ ⟨rfl, rfl⟩
            refine ⟨_, rfl, ?_⟩
            have hsm67 := smallI_in g.c (by omega) (by omega)
            refine V.nil ?_
            refine ⟨trivial, ?_⟩
            refine V.go_on 24 (by kernel_rfl) (((at_other rfl _ (at_other rfl _ (at_other rfl _ (at_other rfl _ (at_other rfl _ (at_same ((((((hz42.put _ _).put _ _).put _ _).put _ _).put _ _).put _ _) rfl _))))) : Act.eval _ _ = (.bool fold))).trans (bt hg67)) (V.pvw [(26, .int .u8 (smallI c)), (29, .int .u8 (smallI g.c))] ⟨(at_other rfl _ (at_same ((((((((((hz42.put _ _).put _ _).put _ _).put _ _).put _ _).put _ _).put _ _).put _ _).put _ _).put _ _) rfl _)), (at_same (((((((((((hz42.put _ _).put _ _).put _ _).put _ _).put _ _).put _ _).put _ _).put _ _).put _ _).put _ _).put _ _) rfl _), trivial⟩ (by kernel_rfl) (.bool ((smallI c) == (smallI g.c))) (.bool (decide ((smallI c) = (smallI g.c)))) (by kernel_rfl) V.t_eql ?_)
            refine V.go_on 22 (by kernel_rfl) (((at_other rfl _ (at_other rfl _ (at_other rfl _ (at_other rfl _ (at_other rfl _ (at_other rfl _ (at_other rfl _ (at_other rfl _ (at_same ((((hz42.put _ _).put _ _).put _ _).put _ _) rfl _)))))))) : Act.eval _ _ = (.bool (decide (c = g.c))))).trans (df hg59)) (V.pk_t (((at_other rfl _ (at_other rfl _ (at_other rfl _ (at_other rfl _ (at_other rfl _ (at_other rfl _ (at_same ((((((hz42.put _ _).put _ _).put _ _).put _ _).put _ _).put _ _) rfl _)))))) : Act.eval _ _ = (.bool fold))).trans (bt hg67)) (v := (.bool (decide ((smallI c) = (smallI g.c))))) (at_same ((((((((((((hz42.put _ _).put _ _).put _ _).put _ _).put _ _).put _ _).put _ _).put _ _).put _ _).put _ _).put _ _).put _ _) rfl _) ?_)
            refine V.go (V.pk_f (((at_other rfl _ (at_other rfl _ (at_other rfl _ (at_other rfl _ (at_other rfl _ (at_other rfl _ (at_other rfl _ (at_other rfl _ (at_other rfl _ (at_same ((((hz42.put _ _).put _ _).put _ _).put _ _) rfl _))))))))) : Act.eval _ _ = (.bool (decide (c = g.c))))).trans (df hg59)) (v := (.bool (decide ((smallI c) = (smallI g.c))))) (at_same (((((((((((((hz42.put _ _).put _ _).put _ _).put _ _).put _ _).put _ _).put _ _).put _ _).put _ _).put _ _).put _ _).put _ _).put _ _) rfl _) ?_)
            refine V.go (V.asg (v := (.bool (decide ((smallI c) = (smallI g.c))))) (at_same ((((((((((((((hz42.put _ _).put _ _).put _ _).put _ _).put _ _).put _ _).put _ _).put _ _).put _ _).put _ _).put _ _).put _ _).put _ _).put _ _) rfl _) ?_)
            refine V.nil ?_
            refine ⟨chk [(26, .int .u8 (smallI c)), (29, .int .u8 (smallI g.c)), (24, .bool true), (22, .bool false)] ⟨(at_other rfl _ (at_other rfl _ (at_other rfl _ (at_other rfl _ (at_other rfl _ (at_same ((((((((((hz42.put _ _).put _ _).put _ _).put _ _).put _ _).put _ _).put _ _).put _ _).put _ _).put _ _) rfl _)))))), (at_other rfl _ (at_other rfl _ (at_other rfl _ (at_other rfl _ (at_same (((((((((((hz42.put _ _).put _ _).put _ _).put _ _).put _ _).put _ _).put _ _).put _ _).put _ _).put _ _).put _ _) rfl _))))), (((at_other rfl _ (at_other rfl _ (at_other rfl _ (at_other rfl _ (at_other rfl _ (at_other rfl _ (at_other rfl _ (at_other rfl _ (at_other rfl _ (at_same ((((((hz42.put _ _).put _ _).put _ _).put _ _).put _ _).put _ _) rfl _))))))))) : Act.eval _ _ = (.bool fold))).trans (bt hg67)), (((at_other rfl _ (at_other rfl _ (at_other rfl _ (at_other rfl _ (at_other rfl _ (at_other rfl _ (at_other rfl _ (at_other rfl _ (at_other rfl _ (at_other rfl _ (at_other rfl _ (at_same ((((hz42.put _ _).put _ _).put _ _).put _ _) rfl _))))))))))) : Act.eval _ _ = (.bool (decide (c = g.c))))).trans (df hg59)), trivial⟩ (by kernel_rfl), ?_⟩
            refine V.then_n (hK52 _ _ ?_)
            refine V.flushW ((((((((((((((((hz42.put _ _).put _ _).put _ _).put _ _).put _ _).put _ _).put _ _).put _ _).put _ _).put _ _).put _ _).put _ _).put _ _).put _ _).put _ _).put _ _) (fun a68 hz69 up70 => ?_)
            have s0_71 : a68.eval (.tmp 0) = (.int .u8 c) := up70 _ _ (at_other rfl _ (at_other rfl _ (at_other rfl _ (at_other rfl _ (at_other rfl _ (at_other rfl _ (at_other rfl _ (at_other rfl _ (at_other rfl _ (at_other rfl _ (at_other rfl _ (at_other rfl _ (at_other rfl _ (at_other rfl _ (at_other rfl _ (at_other rfl _ (s0_44)))))))))))))))))
            have s1_72 : a68.eval (.tmp 1) = (.pointer (some ⟨b2, 0, none⟩)) := up70 _ _ (at_other rfl _ (at_other rfl _ (at_other rfl _ (at_other rfl _ (at_other rfl _ (at_other rfl _ (at_other rfl _ (at_other rfl _ (at_other rfl _ (at_other rfl _ (at_other rfl _ (at_other rfl _ (at_other rfl _ (at_other rfl _ (at_other rfl _ (at_other rfl _ (s1_45)))))))))))))))))
            have s2_73 : a68.eval (.tmp 2) = (.pointer (some ⟨b3, 0, none⟩)) := up70 _ _ (at_other rfl _ (at_other rfl _ (at_other rfl _ (at_other rfl _ (at_other rfl _ (at_other rfl _ (at_other rfl _ (at_other rfl _ (at_other rfl _ (at_other rfl _ (at_other rfl _ (at_other rfl _ (at_other rfl _ (at_other rfl _ (at_other rfl _ (at_other rfl _ (s2_46)))))))))))))))))
            have s4_74 : a68.eval (.tmp 4) = (.bool (decide ((smallI c) = (smallI g.c)))) := up70 _ _ (at_same (((((((((((((((hz42.put _ _).put _ _).put _ _).put _ _).put _ _).put _ _).put _ _).put _ _).put _ _).put _ _).put _ _).put _ _).put _ _).put _ _).put _ _) rfl _)
            clear up70
            refine V.ret ?_
            refine V.then_r ?_
            refine V.blk_r ?_
            refine V.then_r ?_
            refine V.ret1 hz69 rfl (s4_74) ?_
            refine ⟨congrArg Ending.returned (congrArg Value.bool ?_), hF_55⟩
            unfold setB
            rw [if_neg (by omega), if_pos (by omega)]
            rw [decide_eq_false hg59]
            rw [hg67]; rfl
          ·
            refine V.go_off 24 (by kernel_rfl) (((at_same ((((((hz42.put _ _).put _ _).put _ _).put _ _).put _ _).put _ _) rfl _ : Act.eval _ _ = (.bool fold))).trans (bf hg67)) (by kernel_rfl) ?_
            refine V.go_off 24 (by kernel_rfl) (((at_other rfl _ (at_same ((((((hz42.put _ _).put _ _).put _ _).put _ _).put _ _).put _ _) rfl _) : Act.eval _ _ = (.bool fold))).trans (bf hg67)) (by kernel_rfl) ?_
            refine V.go_off 24 (by kernel_rfl) (((at_other rfl _ (at_other rfl _ (at_same ((((((hz42.put _ _).put _ _).put _ _).put _ _).put _ _).put _ _) rfl _)) : Act.eval _ _ = (.bool fold))).trans (bf hg67)) (by kernel_rfl) ?_
            refine V.nil ?_
            refine ⟨chk [(18, .int .u8 c), (20, .int .u8 g.c), (22, .bool false), (24, .bool false)] ⟨(at_other rfl _ (at_other rfl _ (at_other rfl _ (at_other rfl _ (at_other rfl _ (at_other rfl _ (at_other rfl _ (at_other rfl _ (at_other rfl _ (at_same hz42 rfl _)))))))))), (at_other rfl _ (at_other rfl _ (at_other rfl _ (at_other rfl _ (at_other rfl _ (at_other rfl _ (at_other rfl _ (at_same ((hz42.put _ _).put _ _) rfl _)))))))), (((at_other rfl _ (at_other rfl _ (at_other rfl _ (at_other rfl _ (at_other rfl _ (at_same ((((hz42.put _ _).put _ _).put _ _).put _ _) rfl _))))) : Act.eval _ _ = (.bool (decide (c = g.c))))).trans (df hg59)), (((at_other rfl _ (at_other rfl _ (at_other rfl _ (at_same ((((((hz42.put _ _).put _ _).put _ _).put _ _).put _ _).put _ _) rfl _))) : Act.eval _ _ = (.bool fold))).trans (bf hg67)), trivial⟩ (by kernel_rfl), ?_⟩
            refine V.go_off 24 (by kernel_rfl) (((at_other rfl _ (at_other rfl _ (at_other rfl _ (at_same ((((((hz42.put _ _).put _ _).put _ _).put _ _).put _ _).put _ _) rfl _))) : Act.eval _ _ = (.bool fold))).trans (bf hg67)) (by kernel_rfl) ?_
            refine V.nil ?_
            refine ⟨(fun _ => held_undef (at_other rfl _ (at_same ((((((((hz42.put _ _).put _ _).put _ _).put _ _).put _ _).put _ _).put _ _).put _ _) rfl _))), ?_⟩
            refine V.nil ?_
            refine ⟨chk [] trivial (by kernel_rfl), ?_⟩
            refine V.go_off 24 (by kernel_rfl) (((at_other rfl _ (at_other rfl _ (at_other rfl _ (at_other rfl _ (at_same ((((((hz42.put _ _).put _ _).put _ _).put _ _).put _ _).put _ _) rfl _)))) : Act.eval _ _ = (.bool fold))).trans (bf hg67)) (by kernel_rfl) ?_
            refine V.nil ?_
            refine ⟨trivial, ?_⟩
            refine V.go_off 24 (by kernel_rfl) (((at_other rfl _ (at_other rfl _ (at_other rfl _ (at_other rfl _ (at_other rfl _ (at_same ((((((hz42.put _ _).put _ _).put _ _).put _ _).put _ _).put _ _) rfl _))))) : Act.eval _ _ = (.bool fold))).trans (bf hg67)) (by kernel_rfl) ?_
            refine V.go_on 22 (by kernel_rfl) (((at_other rfl _ (at_other rfl _ (at_other rfl _ (at_other rfl _ (at_other rfl _ (at_other rfl _ (at_other rfl _ (at_other rfl _ (at_same ((((hz42.put _ _).put _ _).put _ _).put _ _) rfl _)))))))) : Act.eval _ _ = (.bool (decide (c = g.c))))).trans (df hg59)) (V.pk_f (((at_other rfl _ (at_other rfl _ (at_other rfl _ (at_other rfl _ (at_other rfl _ (at_other rfl _ (at_same ((((((hz42.put _ _).put _ _).put _ _).put _ _).put _ _).put _ _) rfl _)))))) : Act.eval _ _ = (.bool fold))).trans (bf hg67)) (v := (.bool false)) evc ?_)
            refine V.go (V.pk_f (((at_other rfl _ (at_other rfl _ (at_other rfl _ (at_other rfl _ (at_other rfl _ (at_other rfl _ (at_other rfl _ (at_other rfl _ (at_other rfl _ (at_same ((((hz42.put _ _).put _ _).put _ _).put _ _) rfl _))))))))) : Act.eval _ _ = (.bool (decide (c = g.c))))).trans (df hg59)) (v := (.bool false)) (at_same (((((((((((((hz42.put _ _).put _ _).put _ _).put _ _).put _ _).put _ _).put _ _).put _ _).put _ _).put _ _).put _ _).put _ _).put _ _) rfl _) ?_)
            refine V.go (V.asg (v := (.bool false)) (at_same ((((((((((((((hz42.put _ _).put _ _).put _ _).put _ _).put _ _).put _ _).put _ _).put _ _).put _ _).put _ _).put _ _).put _ _).put _ _).put _ _) rfl _) ?_)
            refine V.nil ?_
            refine ⟨chk [(26, undef), (29, undef), (24, .bool false), (22, .bool false)] ⟨(at_other rfl _ (at_other rfl _ (at_other rfl _ (at_other rfl _ (at_other rfl _ (at_same ((((((((((hz42.put _ _).put _ _).put _ _).put _ _).put _ _).put _ _).put _ _).put _ _).put _ _).put _ _) rfl _)))))), (at_other rfl _ (at_other rfl _ (at_other rfl _ (at_other rfl _ (at_same (((((((((((hz42.put _ _).put _ _).put _ _).put _ _).put _ _).put _ _).put _ _).put _ _).put _ _).put _ _).put _ _) rfl _))))), (((at_other rfl _ (at_other rfl _ (at_other rfl _ (at_other rfl _ (at_other rfl _ (at_other rfl _ (at_other rfl _ (at_other rfl _ (at_other rfl _ (at_same ((((((hz42.put _ _).put _ _).put _ _).put _ _).put _ _).put _ _) rfl _))))))))) : Act.eval _ _ = (.bool fold))).trans (bf hg67)), (((at_other rfl _ (at_other rfl _ (at_other rfl _ (at_other rfl _ (at_other rfl _ (at_other rfl _ (at_other rfl _ (at_other rfl _ (at_other rfl _ (at_other rfl _ (at_other rfl _ (at_same ((((hz42.put _ _).put _ _).put _ _).put _ _) rfl _))))))))))) : Act.eval _ _ = (.bool (decide (c = g.c))))).trans (df hg59)), trivial⟩ (by kernel_rfl), ?_⟩
            refine V.then_n (hK52 _ _ ?_)
            refine V.flushW ((((((((((((((((hz42.put _ _).put _ _).put _ _).put _ _).put _ _).put _ _).put _ _).put _ _).put _ _).put _ _).put _ _).put _ _).put _ _).put _ _).put _ _).put _ _) (fun a75 hz76 up77 => ?_)
            have s0_78 : a75.eval (.tmp 0) = (.int .u8 c) := up77 _ _ (at_other rfl _ (at_other rfl _ (at_other rfl _ (at_other rfl _ (at_other rfl _ (at_other rfl _ (at_other rfl _ (at_other rfl _ (at_other rfl _ (at_other rfl _ (at_other rfl _ (at_other rfl _ (at_other rfl _ (at_other rfl _ (at_other rfl _ (at_other rfl _ (s0_44)))))))))))))))))
            have s1_79 : a75.eval (.tmp 1) = (.pointer (some ⟨b2, 0, none⟩)) := up77 _ _ (at_other rfl _ (at_other rfl _ (at_other rfl _ (at_other rfl _ (at_other rfl _ (at_other rfl _ (at_other rfl _ (at_other rfl _ (at_other rfl _ (at_other rfl _ (at_other rfl _ (at_other rfl _ (at_other rfl _ (at_other rfl _ (at_other rfl _ (at_other rfl _ (s1_45)))))))))))))))))
            have s2_80 : a75.eval (.tmp 2) = (.pointer (some ⟨b3, 0, none⟩)) := up77 _ _ (at_other rfl _ (at_other rfl _ (at_other rfl _ (at_other rfl _ (at_other rfl _ (at_other rfl _ (at_other rfl _ (at_other rfl _ (at_other rfl _ (at_other rfl _ (at_other rfl _ (at_other rfl _ (at_other rfl _ (at_other rfl _ (at_other rfl _ (at_other rfl _ (s2_46)))))))))))))))))
            have s4_81 : a75.eval (.tmp 4) = (.bool false) := up77 _ _ (at_same (((((((((((((((hz42.put _ _).put _ _).put _ _).put _ _).put _ _).put _ _).put _ _).put _ _).put _ _).put _ _).put _ _).put _ _).put _ _).put _ _).put _ _) rfl _)
            clear up77
            refine V.ret ?_
            refine V.then_r ?_
            refine V.blk_r ?_
            refine V.then_r ?_
            refine V.ret1 hz76 rfl (s4_81) ?_
            refine ⟨congrArg Ending.returned (congrArg Value.bool ?_), hF_55⟩
            unfold setB
            rw [if_neg (by omega), if_pos (by omega)]
            rw [decide_eq_false hg59]
            rw [show fold = false from Bool.not_eq_true _ ▸ hg67]; rfl
      ·
        refine V.skip ?_
        refine V.then_n (hK12 _ _ ?_)
        refine V.exit ?_
        refine V.blk_miss rfl ?_
        refine V.blk_miss rfl ?_
        refine V.then_e ?_
        refine V.blk_miss rfl ?_
        refine V.then_e ?_
        refine V.blk_hit ?_
        refine V.then_n (hK4 _ _ ?_)
        refine V.seq (fun K82 hK83 => ?_)
        refine V.seq (fun K84 hK85 => ?_)
        refine V.region (by kernel_rfl) ?_
        refine V.go (V.pv [(1, .pointer (some ⟨b2, 0, none⟩))] ⟨(s1_45), trivial⟩ (by kernel_rfl) (.pointer (some ⟨b2, 3, none⟩)) (by kernel_rfl) ?_)
        refine V.go (V.ld ⟨b2, 3, none⟩ (.slice A g.rs.length cap) (at_same hz42 rfl _) (by kernel_rfl) (hB2.at 3 rfl) ?_)
        refine V.go (V.pv [(34, .slice A g.rs.length cap)] ⟨(at_same (hz42.put _ _) rfl _), trivial⟩ (by kernel_rfl) (.int .i64 ((g.rs.length : Nat) : Int)) (by kernel_rfl) ?_)
        refine V.go (V.mv (v := (.int .i64 0)) evc ?_)
        refine V.nil ?_
        refine V.then_n (hK85 _ _ ?_)
        refine V.flushW ((((hz42.put _ _).put _ _).put _ _).put _ _) (fun a86 hz87 up88 => ?_)
        have s0_89 : a86.eval (.tmp 0) = (.int .u8 c) := up88 _ _ (at_other rfl _ (at_other rfl _ (at_other rfl _ (at_other rfl _ (s0_44)))))
        have s1_90 : a86.eval (.tmp 1) = (.pointer (some ⟨b2, 0, none⟩)) := up88 _ _ (at_other rfl _ (at_other rfl _ (at_other rfl _ (at_other rfl _ (s1_45)))))
        have s2_91 : a86.eval (.tmp 2) = (.pointer (some ⟨b3, 0, none⟩)) := up88 _ _ (at_other rfl _ (at_other rfl _ (at_other rfl _ (at_other rfl _ (s2_46)))))
        have s34_92 : a86.eval (.tmp 34) = (.slice A g.rs.length cap) := up88 _ _ (at_other rfl _ (at_other rfl _ (at_same (hz42.put _ _) rfl _)))
        have s35_93 : a86.eval (.tmp 35) = (.int .i64 ((g.rs.length : Nat) : Int)) := up88 _ _ (at_other rfl _ (at_same ((hz42.put _ _).put _ _) rfl _))
        have s36_94 : a86.eval (.tmp 36) = (.int .i64 0) := up88 _ _ (at_same (((hz42.put _ _).put _ _).put _ _) rfl _)
        clear up88
        refine V.block ?_
        refine V.loop1 (fun (k : Nat) a_ w_ => Sz 70 a_ ∧ a_.eval (.tmp 0) = (.int .u8 c) ∧ a_.eval (.tmp 1) = (.pointer (some ⟨b2, 0, none⟩)) ∧ a_.eval (.tmp 2) = (.pointer (some ⟨b3, 0, none⟩)) ∧ a_.eval (.tmp 34) = (.slice A g.rs.length cap) ∧ a_.eval (.tmp 35) = (.int .i64 ((g.rs.length : Nat) : Int)) ∧ a_.eval (.tmp 36) = (.int .i64 (k : Int)) ∧ Fr [] w w_ ∧ SlR spanR (fun b => b < w.heap.size) w_ (.slice A g.rs.length cap) g.rs ∧ Blk w_ b2 [.int .i64 g.kind, .int .u8 g.c, .bool g.neg, .slice A g.rs.length cap] 42 ∧ Blk w_ b3 [.bool fold] 4 ∧ (k ≤ g.rs.length) ∧ (hits (g.rs.drop k) (smallF c fold) fold = hits g.rs (smallF c fold) fold)) (fun (k : Nat) => g.rs.length - k) 0 ?_ ?_
        ·
          refine ⟨hz87, ?_, ?_, ?_, ?_, ?_, ?_, hF, hS, hB2, hB3, (by omega), (by simp)⟩
          · exact Eq.trans (s0_89) (V.int_eq (by omega))
          · exact (s1_90)
          · exact (s2_91)
          · exact (s34_92)
          · exact Eq.trans (s35_93) (V.int_eq (by omega))
          · exact Eq.trans (s36_94) (V.int_eq (by omega))
        ·
          rintro k a95 w96 ⟨hz97, s0_98, s1_99, s2_100, s34_101, s35_102, s36_103, hF_104, hS_105, hB2_106, hB3_107, hk, hhit⟩
          have hfs108 := hF_104.size
          have hlt109 := hB2_106.lt
          have hlt110 := hB3_107.lt
          refine V.seq (fun K111 hK112 => ?_)
          refine V.region (by kernel_rfl) ?_
          refine V.go (V.pv [(36, .int .i64 (k : Int)), (35, .int .i64 ((g.rs.length : Nat) : Int))] ⟨(s36_103), (s35_102), trivial⟩ (by kernel_rfl) (.bool (decide ((k : Int) < ((g.rs.length : Nat) : Int)))) (by kernel_rfl) ?_)
          refine V.nil ?_
          refine V.then_n (hK112 _ _ ?_)
          refine V.seq (fun K113 hK114 => ?_)
          refine V.condP (p := (k : Int) < ((g.rs.length : Nat) : Int)) (at_same hz97 rfl _) (fun ht115 => ?_) (fun ht115 => ?_)
          ·
            refine V.skip ?_
            refine V.then_n (hK114 _ _ ?_)
            refine V.seq (fun K116 hK117 => ?_)
            refine V.block ?_
            refine V.seq (fun K118 hK119 => ?_)
            refine V.region (by kernel_rfl) ?_
            obtain ⟨g120, o121, hA122, hA122l, hA122z⟩ := hS_105.addr (by omega)
            refine V.go (V.ixa g120 o121 g.rs.length cap .i64 (k : Int) 2 ((at_other rfl _ (s34_101)).trans (by rw [hA122])) (at_other rfl _ (s36_103)) (by omega) (by omega) (by kernel_rfl) ?_)
            obtain ⟨cs123, hok124, hE125⟩ := hS_105.els hA122 (k : Int) (by omega) (by omega)
            obtain rfl := span_open hok124
            have hbd126 := hrs (k : Int); unfold GoodS at hbd126
            refine V.go (V.lds ⟨g120, o121 + (k : Int).toNat * 2, none⟩ [.int .u8 ((at_ spanR g.rs (k : Int)).lo), .int .u8 ((at_ spanR g.rs (k : Int)).hi)] (at_same (hz97.put _ _) rfl _) (by kernel_rfl) (hE125.cells 0 _ rfl) ?_)
            refine V.go (V.mk [] trivial (by kernel_rfl) [.int .u8 0, .int .u8 0] 54 (fun b => .pointer (some ⟨b, 0, none⟩)) (by kernel_rfl) ?_)
            intro w128 b127 heb127 hB129 hF130 hsb127
            have hF_131 := hF_104.new hF130
            have hS_132 := hS_105.fr0 hF130
            have hB2_133 := hB2_106.fr0 hF130
            have hB3_134 := hB3_107.fr0 hF130
            have hE125_135 := hE125.fr0 hF130
            refine V.go (V.stn b127 0 (.agg #[.int .u8 ((at_ spanR g.rs (k : Int)).lo), .int .u8 ((at_ spanR g.rs (k : Int)).hi)]) [.int .u8 ((at_ spanR g.rs (k : Int)).lo), .int .u8 ((at_ spanR g.rs (k : Int)).hi)] (at_same (((hz97.put _ _).put _ _).put _ _) rfl _) (at_other rfl _ (at_same ((hz97.put _ _).put _ _) rfl _)) rfl rfl (by kernel_rfl) hB129 (by simp) [.int .u8 ((at_ spanR g.rs (k : Int)).lo), .int .u8 ((at_ spanR g.rs (k : Int)).hi)] rfl ?_)
            intro w136 hB137 hF138 hsw136
            have hF_139 := hF_131.own hF138 (by simp <;> omega)
            have hS_140 := hS_132.fr hF138 (by simp <;> omega)
            have hB2_141 := hB2_133.fr1 hF138 (by omega)
            have hB3_142 := hB3_134.fr1 hF138 (by omega)
            have hE125_143 := hE125_135.fr hF138 (by simp <;> omega)
            refine V.nil ?_
            refine V.then_n (hK119 _ _ ?_)
            refine V.flushW ((((hz97.put _ _).put _ _).put _ _).put _ _) (fun a144 hz145 up146 => ?_)
            have s0_147 : a144.eval (.tmp 0) = (.int .u8 c) := up146 _ _ (at_other rfl _ (at_other rfl _ (at_other rfl _ (at_other rfl _ (s0_98)))))
            have s1_148 : a144.eval (.tmp 1) = (.pointer (some ⟨b2, 0, none⟩)) := up146 _ _ (at_other rfl _ (at_other rfl _ (at_other rfl _ (at_other rfl _ (s1_99)))))
            have s2_149 : a144.eval (.tmp 2) = (.pointer (some ⟨b3, 0, none⟩)) := up146 _ _ (at_other rfl _ (at_other rfl _ (at_other rfl _ (at_other rfl _ (s2_100)))))
            have s6_150 : a144.eval (.tmp 6) = (.pointer (some ⟨b127, 0, none⟩)) := up146 _ _ (at_same (((hz97.put _ _).put _ _).put _ _) rfl _)
            have s34_151 : a144.eval (.tmp 34) = (.slice A g.rs.length cap) := up146 _ _ (at_other rfl _ (at_other rfl _ (at_other rfl _ (at_other rfl _ (s34_101)))))
            have s35_152 : a144.eval (.tmp 35) = (.int .i64 ((g.rs.length : Nat) : Int)) := up146 _ _ (at_other rfl _ (at_other rfl _ (at_other rfl _ (at_other rfl _ (s35_102)))))
            have s36_153 : a144.eval (.tmp 36) = (.int .i64 (k : Int)) := up146 _ _ (at_other rfl _ (at_other rfl _ (at_other rfl _ (at_other rfl _ (s36_103)))))
            clear up146
            refine V.seq (fun K154 hK155 => ?_)
            refine V.plan [[], [0], [], [2], [], [0, 1], [0, 1, 2, 3, 5], [0, 1, 2, 3, 4, 5, 6]] [([0, 1, 2, 3, 4, 5, 6, 7], none)] (by kernel_rfl) (by kernel_rfl) (by exact fun _ _ _ _ h => h) ?_
            simp only [Plan.wpSegs, Plan.pickAll, Plan.nth, V.L_eq]
            obtain ⟨w156, hF157e⟩ : ∃ w1, w1 = w136.drew := ⟨_, rfl⟩
            rw [← hF157e]
            have hF157 : Fr [] w136 w156 := by rw [hF157e]; exact Fr.drew _ _
            have hsw156 : w156.heap.size = w136.heap.size := by rw [hF157e]; rfl
            clear hF157e
            have hF_158 := hF_139.new hF157
            have hS_159 := hS_140.fr0 hF157
            have hB2_160 := hB2_141.fr0 hF157
            have hB3_161 := hB3_142.fr0 hF157
            have hE125_162 := hE125_143.fr0 hF157
            have hB137_163 := hB137.fr0 hF157
            refine V.go (V.pv [(6, .pointer (some ⟨b127, 0, none⟩))] ⟨(s6_150), trivial⟩ (by kernel_rfl) (.pointer (some ⟨b127, 0, none⟩)) (by kernel_rfl) ?_)
            refine V.go (V.ld ⟨b127, 0, none⟩ (.int .u8 ((at_ spanR g.rs (k : Int)).lo)) (at_same hz145 rfl _) (by kernel_rfl) (hB137_163.at 0 rfl) ?_)
            refine V.go (V.pv [(6, .pointer (some ⟨b127, 0, none⟩))] ⟨(at_other rfl _ (at_other rfl _ (s6_150))), trivial⟩ (by kernel_rfl) (.pointer (some ⟨b127, 1, none⟩)) (by kernel_rfl) ?_)
            refine V.go (V.ld ⟨b127, 1, none⟩ (.int .u8 ((at_ spanR g.rs (k : Int)).hi)) (at_same ((hz145.put _ _).put _ _) rfl _) (by kernel_rfl) (hB137_163.at 1 rfl) ?_)
            refine V.go (V.mv (v := (.int .u8 c)) (at_other rfl _ (at_other rfl _ (at_other rfl _ (at_other rfl _ (s0_147))))) ?_)
            refine V.go (V.asg (v := (.int .u8 ((at_ spanR g.rs (k : Int)).lo))) (at_other rfl _ (at_other rfl _ (at_other rfl _ (at_same (hz145.put _ _) rfl _)))) ?_)
            refine V.go (V.asg (v := (.int .u8 ((at_ spanR g.rs (k : Int)).hi))) (at_other rfl _ (at_other rfl _ (at_same (((hz145.put _ _).put _ _).put _ _) rfl _))) ?_)
            refine V.go (V.asg (v := (.int .u8 c)) (at_other rfl _ (at_other rfl _ (at_same ((((hz145.put _ _).put _ _).put _ _).put _ _) rfl _))) ?_)
            refine V.nil ?_
            refine ⟨chk [] trivial (by kernel_rfl), ?_⟩
            refine V.then_n (hK155 _ _ ?_)
            refine V.flushW ((((((((hz145.put _ _).put _ _).put _ _).put _ _).put _ _).put _ _).put _ _).put _ _) (fun a164 hz165 up166 => ?_)
            have s0_167 : a164.eval (.tmp 0) = (.int .u8 c) := up166 _ _ (at_other rfl _ (at_other rfl _ (at_other rfl _ (at_other rfl _ (at_other rfl _ (at_other rfl _ (at_other rfl _ (at_other rfl _ (s0_147)))))))))
            have s1_168 : a164.eval (.tmp 1) = (.pointer (some ⟨b2, 0, none⟩)) := up166 _ _ (at_other rfl _ (at_other rfl _ (at_other rfl _ (at_other rfl _ (at_other rfl _ (at_other rfl _ (at_other rfl _ (at_other rfl _ (s1_148)))))))))
            have s2_169 : a164.eval (.tmp 2) = (.pointer (some ⟨b3, 0, none⟩)) := up166 _ _ (at_other rfl _ (at_other rfl _ (at_other rfl _ (at_other rfl _ (at_other rfl _ (at_other rfl _ (at_other rfl _ (at_other rfl _ (s2_149)))))))))
            have s7_170 : a164.eval (.tmp 7) = (.int .u8 ((at_ spanR g.rs (k : Int)).lo)) := up166 _ _ (at_other rfl _ (at_other rfl _ (at_same (((((hz145.put _ _).put _ _).put _ _).put _ _).put _ _) rfl _)))
            have s8_171 : a164.eval (.tmp 8) = (.int .u8 ((at_ spanR g.rs (k : Int)).hi)) := up166 _ _ (at_other rfl _ (at_same ((((((hz145.put _ _).put _ _).put _ _).put _ _).put _ _).put _ _) rfl _))
            have s9_172 : a164.eval (.tmp 9) = (.int .u8 c) := up166 _ _ (at_same (((((((hz145.put _ _).put _ _).put _ _).put _ _).put _ _).put _ _).put _ _) rfl _)
            have s34_173 : a164.eval (.tmp 34) = (.slice A g.rs.length cap) := up166 _ _ (at_other rfl _ (at_other rfl _ (at_other rfl _ (at_other rfl _ (at_other rfl _ (at_other rfl _ (at_other rfl _ (at_other rfl _ (s34_151)))))))))
            have s35_174 : a164.eval (.tmp 35) = (.int .i64 ((g.rs.length : Nat) : Int)) := up166 _ _ (at_other rfl _ (at_other rfl _ (at_other rfl _ (at_other rfl _ (at_other rfl _ (at_other rfl _ (at_other rfl _ (at_other rfl _ (s35_152)))))))))
            have s36_175 : a164.eval (.tmp 36) = (.int .i64 (k : Int)) := up166 _ _ (at_other rfl _ (at_other rfl _ (at_other rfl _ (at_other rfl _ (at_other rfl _ (at_other rfl _ (at_other rfl _ (at_other rfl _ (s36_153)))))))))
            clear up166
            refine V.seq (fun K176 hK177 => ?_)
            refine V.seq (fun K178 hK179 => ?_)
            refine V.region (by kernel_rfl) ?_
            refine V.go (V.ld ⟨b3, 0, none⟩ (.bool fold) (s2_169) (by kernel_rfl) (hB3_161.at 0 rfl) ?_)
            refine V.nil ?_
            refine V.then_n (hK179 _ _ ?_)
            refine V.cond (at_same hz165 rfl _) (fun ht180 => ?_) (fun ht180q => ?_)
            ·
              refine V.region (by kernel_rfl) ?_
              refine V.go (V.mv (v := (.int .u8 ((at_ spanR g.rs (k : Int)).lo))) (at_other rfl _ (s7_170)) ?_)
              refine V.go (V.call 35 #[] #[.int .u8 ((at_ spanR g.rs (k : Int)).lo)] evf (args1 (at_same (hz165.put _ _) rfl _)) (Go.Proofs.enters_of Try.func35 (by kernel_rfl) rfl) (small_any _ ((at_ spanR g.rs (k : Int)).lo) (by omega) (by omega)) ?_)
              rintro _ _ ⟨rfl, rfl⟩
              refine ⟨_, rfl, ?_⟩
              have hsm180 := smallI_in ((at_ spanR g.rs (k : Int)).lo) (by omega) (by omega)
              refine V.go (V.mv (v := (.int .u8 ((at_ spanR g.rs (k : Int)).hi))) (at_other rfl _ (at_other rfl _ (at_other rfl _ (s8_171)))) ?_)
              refine V.go (V.call 35 #[] #[.int .u8 ((at_ spanR g.rs (k : Int)).hi)] evf (args1 (at_same (((hz165.put _ _).put _ _).put _ _) rfl _)) (Go.Proofs.enters_of Try.func35 (by kernel_rfl) rfl) (small_any _ ((at_ spanR g.rs (k : Int)).hi) (by omega) (by omega)) ?_)
              rintro _ _ ⟨rfl, rfl⟩
              refine ⟨_, rfl, ?_⟩
              have hsm180 := smallI_in ((at_ spanR g.rs (k : Int)).hi) (by omega) (by omega)
              refine V.go (V.mv (v := (.int .u8 c)) (at_other rfl _ (at_other rfl _ (at_other rfl _ (at_other rfl _ (at_other rfl _ (s0_167)))))) ?_)
              refine V.go (V.call 35 #[] #[.int .u8 c] evf (args1 (at_same (((((hz165.put _ _).put _ _).put _ _).put _ _).put _ _) rfl _)) (Go.Proofs.enters_of Try.func35 (by kernel_rfl) rfl) (small_any _ c (by omega) (by omega)) ?_)
              rintro _ _ ⟨rfl, rfl⟩
              refine ⟨_, rfl, ?_⟩
              have hsm180 := smallI_in c (by omega) (by omega)
              refine V.go (V.asg (v := (.int .u8 (smallI ((at_ spanR g.rs (k : Int)).lo)))) (at_other rfl _ (at_other rfl _ (at_other rfl _ (at_other rfl _ (at_same ((hz165.put _ _).put _ _) rfl _))))) ?_)
              refine V.go (V.asg (v := (.int .u8 (smallI ((at_ spanR g.rs (k : Int)).hi)))) (at_other rfl _ (at_other rfl _ (at_other rfl _ (at_same ((((hz165.put _ _).put _ _).put _ _).put _ _) rfl _)))) ?_)
              refine V.go (V.asg (v := (.int .u8 (smallI c))) (at_other rfl _ (at_other rfl _ (at_same ((((((hz165.put _ _).put _ _).put _ _).put _ _).put _ _).put _ _) rfl _))) ?_)
              refine V.nil ?_
              refine V.then_n (hK177 _ _ ?_)
              refine V.flushW ((((((((((hz165.put _ _).put _ _).put _ _).put _ _).put _ _).put _ _).put _ _).put _ _).put _ _).put _ _) (fun a181 hz182 up183 => ?_)
              have s0_184 : a181.eval (.tmp 0) = (.int .u8 c) := up183 _ _ (at_other rfl _ (at_other rfl _ (at_other rfl _ (at_other rfl _ (at_other rfl _ (at_other rfl _ (at_other rfl _ (at_other rfl _ (at_other rfl _ (at_other rfl _ (s0_167)))))))))))
              have s1_185 : a181.eval (.tmp 1) = (.pointer (some ⟨b2, 0, none⟩)) := up183 _ _ (at_other rfl _ (at_other rfl _ (at_other rfl _ (at_other rfl _ (at_other rfl _ (at_other rfl _ (at_other rfl _ (at_other rfl _ (at_other rfl _ (at_other rfl _ (s1_168)))))))))))
              have s2_186 : a181.eval (.tmp 2) = (.pointer (some ⟨b3, 0, none⟩)) := up183 _ _ (at_other rfl _ (at_other rfl _ (at_other rfl _ (at_other rfl _ (at_other rfl _ (at_other rfl _ (at_other rfl _ (at_other rfl _ (at_other rfl _ (at_other rfl _ (s2_169)))))))))))
              have s7_187 : a181.eval (.tmp 7) = (.int .u8 (smallI ((at_ spanR g.rs (k : Int)).lo))) := up183 _ _ (at_other rfl _ (at_other rfl _ (at_same (((((((hz165.put _ _).put _ _).put _ _).put _ _).put _ _).put _ _).put _ _) rfl _)))
              have s8_188 : a181.eval (.tmp 8) = (.int .u8 (smallI ((at_ spanR g.rs (k : Int)).hi))) := up183 _ _ (at_other rfl _ (at_same ((((((((hz165.put _ _).put _ _).put _ _).put _ _).put _ _).put _ _).put _ _).put _ _) rfl _))
              have s9_189 : a181.eval (.tmp 9) = (.int .u8 (smallI c)) := up183 _ _ (at_same (((((((((hz165.put _ _).put _ _).put _ _).put _ _).put _ _).put _ _).put _ _).put _ _).put _ _) rfl _)
              have s34_190 : a181.eval (.tmp 34) = (.slice A g.rs.length cap) := up183 _ _ (at_other rfl _ (at_other rfl _ (at_other rfl _ (at_other rfl _ (at_other rfl _ (at_other rfl _ (at_other rfl _ (at_other rfl _ (at_other rfl _ (at_other rfl _ (s34_173)))))))))))
              have s35_191 : a181.eval (.tmp 35) = (.int .i64 ((g.rs.length : Nat) : Int)) := up183 _ _ (at_other rfl _ (at_other rfl _ (at_other rfl _ (at_other rfl _ (at_other rfl _ (at_other rfl _ (at_other rfl _ (at_other rfl _ (at_other rfl _ (at_other rfl _ (s35_174)))))))))))
              have s36_192 : a181.eval (.tmp 36) = (.int .i64 (k : Int)) := up183 _ _ (at_other rfl _ (at_other rfl _ (at_other rfl _ (at_other rfl _ (at_other rfl _ (at_other rfl _ (at_other rfl _ (at_other rfl _ (at_other rfl _ (at_other rfl _ (s36_175)))))))))))
              clear up183
              refine V.seq (fun K193 hK194 => ?_)
              refine V.region (by kernel_rfl) ?_
              refine V.go (V.mv (v := (.int .u8 (smallI c))) (s9_189) ?_)
              refine V.go (V.mv (v := (.int .u8 (smallI ((at_ spanR g.rs (k : Int)).lo)))) (at_other rfl _ (s7_187)) ?_)
              refine V.go (V.mv (v := (.int .u8 (smallI ((at_ spanR g.rs (k : Int)).hi)))) (at_other rfl _ (at_other rfl _ (s8_188))) ?_)
              refine V.go (V.pvw [(53, .int .u8 (smallI ((at_ spanR g.rs (k : Int)).lo))), (54, .int .u8 (smallI ((at_ spanR g.rs (k : Int)).hi)))] ⟨(at_other rfl _ (at_same (hz182.put _ _) rfl _)), (at_same ((hz182.put _ _).put _ _) rfl _), trivial⟩ (by kernel_rfl) (.int .u8 (if (smallI ((at_ spanR g.rs (k : Int)).hi)) < (smallI ((at_ spanR g.rs (k : Int)).lo)) then (smallI ((at_ spanR g.rs (k : Int)).hi)) else (smallI ((at_ spanR g.rs (k : Int)).lo)))) (.int .u8 (min (smallI ((at_ spanR g.rs (k : Int)).lo)) (smallI ((at_ spanR g.rs (k : Int)).hi)))) (by kernel_rfl) V.min_int ?_)
              refine V.go (V.pv [(52, .int .u8 (smallI c)), (55, .int .u8 (min (smallI ((at_ spanR g.rs (k : Int)).lo)) (smallI ((at_ spanR g.rs (k : Int)).hi))))] ⟨(at_other rfl _ (at_other rfl _ (at_other rfl _ (at_same hz182 rfl _)))), (at_same (((hz182.put _ _).put _ _).put _ _) rfl _), trivial⟩ (by kernel_rfl) (.bool (decide ((smallI c) ≥ (min (smallI ((at_ spanR g.rs (k : Int)).lo)) (smallI ((at_ spanR g.rs (k : Int)).hi)))))) (by kernel_rfl) ?_)
              refine V.go (V.mv (v := (.bool (decide ((smallI c) ≥ (min (smallI ((at_ spanR g.rs (k : Int)).lo)) (smallI ((at_ spanR g.rs (k : Int)).hi))))))) (at_same ((((hz182.put _ _).put _ _).put _ _).put _ _) rfl _) ?_)
              by_cases hg195 : (smallI c) ≥ (min (smallI ((at_ spanR g.rs (k : Int)).lo)) (smallI ((at_ spanR g.rs (k : Int)).hi)))
              ·
                refine V.go_on 57 (by kernel_rfl) (((at_same (((((hz182.put _ _).put _ _).put _ _).put _ _).put _ _) rfl _ : Act.eval _ _ = (.bool (decide ((smallI c) ≥ (min (smallI ((at_ spanR g.rs (k : Int)).lo)) (smallI ((at_ spanR g.rs (k : Int)).hi)))))))).trans (dt hg195)) (V.mv (v := (.int .u8 (smallI c))) (at_other rfl _ (at_other rfl _ (at_other rfl _ (at_other rfl _ (at_other rfl _ (at_other rfl _ (s9_189))))))) ?_)
                refine V.go_on 57 (by kernel_rfl) (((at_other rfl _ (at_same (((((hz182.put _ _).put _ _).put _ _).put _ _).put _ _) rfl _) : Act.eval _ _ = (.bool (decide ((smallI c) ≥ (min (smallI ((at_ spanR g.rs (k : Int)).lo)) (smallI ((at_ spanR g.rs (k : Int)).hi)))))))).trans (dt hg195)) (V.mv (v := (.int .u8 (smallI ((at_ spanR g.rs (k : Int)).lo)))) (at_other rfl _ (at_other rfl _ (at_other rfl _ (at_other rfl _ (at_other rfl _ (at_other rfl _ (at_other rfl _ (s7_187)))))))) ?_)
                refine V.go_on 57 (by kernel_rfl) (((at_other rfl _ (at_other rfl _ (at_same (((((hz182.put _ _).put _ _).put _ _).put _ _).put _ _) rfl _)) : Act.eval _ _ = (.bool (decide ((smallI c) ≥ (min (smallI ((at_ spanR g.rs (k : Int)).lo)) (smallI ((at_ spanR g.rs (k : Int)).hi)))))))).trans (dt hg195)) (V.mv (v := (.int .u8 (smallI ((at_ spanR g.rs (k : Int)).hi)))) (at_other rfl _ (at_other rfl _ (at_other rfl _ (at_other rfl _ (at_other rfl _ (at_other rfl _ (at_other rfl _ (at_other rfl _ (s8_188))))))))) ?_)
                refine V.go_on 57 (by kernel_rfl) (((at_other rfl _ (at_other rfl _ (at_other rfl _ (at_same (((((hz182.put _ _).put _ _).put _ _).put _ _).put _ _) rfl _))) : Act.eval _ _ = (.bool (decide ((smallI c) ≥ (min (smallI ((at_ spanR g.rs (k : Int)).lo)) (smallI ((at_ spanR g.rs (k : Int)).hi)))))))).trans (dt hg195)) (V.pvw [(59, .int .u8 (smallI ((at_ spanR g.rs (k : Int)).lo))), (60, .int .u8 (smallI ((at_ spanR g.rs (k : Int)).hi)))] ⟨(at_other rfl _ (at_same (((((((hz182.put _ _).put _ _).put _ _).put _ _).put _ _).put _ _).put _ _) rfl _)), (at_same ((((((((hz182.put _ _).put _ _).put _ _).put _ _).put _ _).put _ _).put _ _).put _ _) rfl _), trivial⟩ (by kernel_rfl) (.int .u8 (if (smallI ((at_ spanR g.rs (k : Int)).hi)) > (smallI ((at_ spanR g.rs (k : Int)).lo)) then (smallI ((at_ spanR g.rs (k : Int)).hi)) else (smallI ((at_ spanR g.rs (k : Int)).lo)))) (.int .u8 (max (smallI ((at_ spanR g.rs (k : Int)).lo)) (smallI ((at_ spanR g.rs (k : Int)).hi)))) (by kernel_rfl) V.max_int ?_)
                refine V.go_on 57 (by kernel_rfl) (((at_other rfl _ (at_other rfl _ (at_other rfl _ (at_other rfl _ (at_same (((((hz182.put _ _).put _ _).put _ _).put _ _).put _ _) rfl _)))) : Act.eval _ _ = (.bool (decide ((smallI c) ≥ (min (smallI ((at_ spanR g.rs (k : Int)).lo)) (smallI ((at_ spanR g.rs (k : Int)).hi)))))))).trans (dt hg195)) (V.pv [(58, .int .u8 (smallI c)), (61, .int .u8 (max (smallI ((at_ spanR g.rs (k : Int)).lo)) (smallI ((at_ spanR g.rs (k : Int)).hi))))] ⟨(at_other rfl _ (at_other rfl _ (at_other rfl _ (at_same ((((((hz182.put _ _).put _ _).put _ _).put _ _).put _ _).put _ _) rfl _)))), (at_same (((((((((hz182.put _ _).put _ _).put _ _).put _ _).put _ _).put _ _).put _ _).put _ _).put _ _) rfl _), trivial⟩ (by kernel_rfl) (.bool (decide ((smallI c) ≤ (max (smallI ((at_ spanR g.rs (k : Int)).lo)) (smallI ((at_ spanR g.rs (k : Int)).hi)))))) (by kernel_rfl) ?_)
                refine V.go (V.pk_t (((at_other rfl _ (at_other rfl _ (at_other rfl _ (at_other rfl _ (at_other rfl _ (at_same (((((hz182.put _ _).put _ _).put _ _).put _ _).put _ _) rfl _))))) : Act.eval _ _ = (.bool (decide ((smallI c) ≥ (min (smallI ((at_ spanR g.rs (k : Int)).lo)) (smallI ((at_ spanR g.rs (k : Int)).hi)))))))).trans (dt hg195)) (v := (.bool (decide ((smallI c) ≤ (max (smallI ((at_ spanR g.rs (k : Int)).lo)) (smallI ((at_ spanR g.rs (k : Int)).hi))))))) (at_same ((((((((((hz182.put _ _).put _ _).put _ _).put _ _).put _ _).put _ _).put _ _).put _ _).put _ _).put _ _) rfl _) ?_)
                refine V.nil ?_
                refine V.then_n (hK194 _ _ ?_)
                refine V.flushW ((((((((((((hz182.put _ _).put _ _).put _ _).put _ _).put _ _).put _ _).put _ _).put _ _).put _ _).put _ _).put _ _).put _ _) (fun a196 hz197 up198 => ?_)
                have s0_199 : a196.eval (.tmp 0) = (.int .u8 c) := up198 _ _ (at_other rfl _ (at_other rfl _ (at_other rfl _ (at_other rfl _ (at_other rfl _ (at_other rfl _ (at_other rfl _ (at_other rfl _ (at_other rfl _ (at_other rfl _ (at_other rfl _ (at_other rfl _ (s0_184)))))))))))))
                have s1_200 : a196.eval (.tmp 1) = (.pointer (some ⟨b2, 0, none⟩)) := up198 _ _ (at_other rfl _ (at_other rfl _ (at_other rfl _ (at_other rfl _ (at_other rfl _ (at_other rfl _ (at_other rfl _ (at_other rfl _ (at_other rfl _ (at_other rfl _ (at_other rfl _ (at_other rfl _ (s1_185)))))))))))))
                have s2_201 : a196.eval (.tmp 2) = (.pointer (some ⟨b3, 0, none⟩)) := up198 _ _ (at_other rfl _ (at_other rfl _ (at_other rfl _ (at_other rfl _ (at_other rfl _ (at_other rfl _ (at_other rfl _ (at_other rfl _ (at_other rfl _ (at_other rfl _ (at_other rfl _ (at_other rfl _ (s2_186)))))))))))))
                have s34_202 : a196.eval (.tmp 34) = (.slice A g.rs.length cap) := up198 _ _ (at_other rfl _ (at_other rfl _ (at_other rfl _ (at_other rfl _ (at_other rfl _ (at_other rfl _ (at_other rfl _ (at_other rfl _ (at_other rfl _ (at_other rfl _ (at_other rfl _ (at_other rfl _ (s34_190)))))))))))))
                have s35_203 : a196.eval (.tmp 35) = (.int .i64 ((g.rs.length : Nat) : Int)) := up198 _ _ (at_other rfl _ (at_other rfl _ (at_other rfl _ (at_other rfl _ (at_other rfl _ (at_other rfl _ (at_other rfl _ (at_other rfl _ (at_other rfl _ (at_other rfl _ (at_other rfl _ (at_other rfl _ (s35_191)))))))))))))
                have s36_204 : a196.eval (.tmp 36) = (.int .i64 (k : Int)) := up198 _ _ (at_other rfl _ (at_other rfl _ (at_other rfl _ (at_other rfl _ (at_other rfl _ (at_other rfl _ (at_other rfl _ (at_other rfl _ (at_other rfl _ (at_other rfl _ (at_other rfl _ (at_other rfl _ (s36_192)))))))))))))
                have s63_205 : a196.eval (.tmp 63) = (.bool (decide ((smallI c) ≤ (max (smallI ((at_ spanR g.rs (k : Int)).lo)) (smallI ((at_ spanR g.rs (k : Int)).hi)))))) := up198 _ _ (at_same (((((((((((hz182.put _ _).put _ _).put _ _).put _ _).put _ _).put _ _).put _ _).put _ _).put _ _).put _ _).put _ _) rfl _)
                clear up198
                refine V.condP (p := (smallI c) ≤ (max (smallI ((at_ spanR g.rs (k : Int)).lo)) (smallI ((at_ spanR g.rs (k : Int)).hi)))) (s63_205) (fun ht206 => ?_) (fun ht206 => ?_)
                ·
                  refine V.seq (fun K207 hK208 => ?_)
                  refine V.region (by kernel_rfl) ?_
                  refine V.go (V.pv [(1, .pointer (some ⟨b2, 0, none⟩))] ⟨(s1_200), trivial⟩ (by kernel_rfl) (.pointer (some ⟨b2, 2, none⟩)) (by kernel_rfl) ?_)
                  refine V.go (V.ld ⟨b2, 2, none⟩ (.bool g.neg) (at_same hz197 rfl _) (by kernel_rfl) (hB2_160.at 2 rfl) ?_)
                  refine V.go (V.pv [(65, .bool g.neg)] ⟨(at_same (hz197.put _ _) rfl _), trivial⟩ (by kernel_rfl) (.bool (!g.neg)) (by kernel_rfl) ?_)
                  refine V.go (V.asg (v := (.bool (!g.neg))) (at_same ((hz197.put _ _).put _ _) rfl _) ?_)
                  refine V.nil ?_
                  refine V.then_n (hK208 _ _ ?_)
                  refine V.flushW ((((hz197.put _ _).put _ _).put _ _).put _ _) (fun a209 hz210 up211 => ?_)
                  have s0_212 : a209.eval (.tmp 0) = (.int .u8 c) := up211 _ _ (at_other rfl _ (at_other rfl _ (at_other rfl _ (at_other rfl _ (s0_199)))))
                  have s1_213 : a209.eval (.tmp 1) = (.pointer (some ⟨b2, 0, none⟩)) := up211 _ _ (at_other rfl _ (at_other rfl _ (at_other rfl _ (at_other rfl _ (s1_200)))))
                  have s2_214 : a209.eval (.tmp 2) = (.pointer (some ⟨b3, 0, none⟩)) := up211 _ _ (at_other rfl _ (at_other rfl _ (at_other rfl _ (at_other rfl _ (s2_201)))))
                  have s4_215 : a209.eval (.tmp 4) = (.bool (!g.neg)) := up211 _ _ (at_same (((hz197.put _ _).put _ _).put _ _) rfl _)
                  have s34_216 : a209.eval (.tmp 34) = (.slice A g.rs.length cap) := up211 _ _ (at_other rfl _ (at_other rfl _ (at_other rfl _ (at_other rfl _ (s34_202)))))
                  have s35_217 : a209.eval (.tmp 35) = (.int .i64 ((g.rs.length : Nat) : Int)) := up211 _ _ (at_other rfl _ (at_other rfl _ (at_other rfl _ (at_other rfl _ (s35_203)))))
                  have s36_218 : a209.eval (.tmp 36) = (.int .i64 (k : Int)) := up211 _ _ (at_other rfl _ (at_other rfl _ (at_other rfl _ (at_other rfl _ (s36_204)))))
                  clear up211
                  refine V.ret ?_
                  refine V.blk_r ?_
                  refine V.then_r ?_
                  refine V.then_r ?_
                  refine V.blk_r ?_
                  refine V.then_r ?_
                  refine V.ret1 hz210 rfl (s4_215) ?_
                  refine ⟨congrArg Ending.returned (congrArg Value.bool ?_), hF_158⟩
                  unfold setB
                  rw [if_neg (by omega), if_neg (by omega)]
                  have := @sF_t ((at_ spanR g.rs (k : Int)).lo) fold ht180
                  have := @sF_t ((at_ spanR g.rs (k : Int)).hi) fold ht180
                  have := @sF_t c fold ht180
                  rw [← hhit, hits_step g.rs k _ fold (by omega), if_pos (by omega)]; simp
                ·
                  refine V.skip ?_
                  refine V.blk_n ?_
                  refine V.then_n (hK117 _ _ ?_)
                  refine V.region (by kernel_rfl) ?_
                  refine V.go (V.pvw [(36, .int .i64 (k : Int))] ⟨(s36_204), trivial⟩ (by kernel_rfl) (.int .i64 (IntKind.i64.wrap ((k : Int) + 1))) (.int .i64 ((k : Int) + 1)) (by kernel_rfl) (V.w_i64 (by omega) (by omega)) ?_)
                  refine V.go (V.mv (v := (.int .i64 ((k : Int) + 1))) (at_same hz197 rfl _) ?_)
                  refine V.nil ?_
                  refine V.then_n ?_
                  have := @sF_t ((at_ spanR g.rs (k : Int)).lo) fold ht180
                  have := @sF_t ((at_ spanR g.rs (k : Int)).hi) fold ht180
                  have := @sF_t c fold ht180
                  rw [hits_step g.rs k _ fold (by omega), if_neg (by omega)] at hhit
                  refine ⟨k + 1, by omega, ?_⟩
                  refine ⟨((hz197.put _ _).put _ _), ?_, ?_, ?_, ?_, ?_, ?_, hF_158, hS_159, hB2_160, hB3_161, (by omega), (by simpa using hhit)⟩
                  · exact Eq.trans (at_other rfl _ (at_other rfl _ (s0_199))) (V.int_eq (by omega))
                  · exact (at_other rfl _ (at_other rfl _ (s1_200)))
                  · exact (at_other rfl _ (at_other rfl _ (s2_201)))
                  · exact (at_other rfl _ (at_other rfl _ (s34_202)))
                  · exact Eq.trans (at_other rfl _ (at_other rfl _ (s35_203))) (V.int_eq (by omega))
                  · exact Eq.trans (at_same (hz197.put _ _) rfl _) (V.int_eq (by omega))
              ·
                refine V.go_off 57 (by kernel_rfl) (((at_same (((((hz182.put _ _).put _ _).put _ _).put _ _).put _ _) rfl _ : Act.eval _ _ = (.bool (decide ((smallI c) ≥ (min (smallI ((at_ spanR g.rs (k : Int)).lo)) (smallI ((at_ spanR g.rs (k : Int)).hi)))))))).trans (df hg195)) (by kernel_rfl) ?_
                refine V.go_off 57 (by kernel_rfl) (((at_other rfl _ (at_same (((((hz182.put _ _).put _ _).put _ _).put _ _).put _ _) rfl _) : Act.eval _ _ = (.bool (decide ((smallI c) ≥ (min (smallI ((at_ spanR g.rs (k : Int)).lo)) (smallI ((at_ spanR g.rs (k : Int)).hi)))))))).trans (df hg195)) (by kernel_rfl) ?_
                refine V.go_off 57 (by kernel_rfl) (((at_other rfl _ (at_other rfl _ (at_same (((((hz182.put _ _).put _ _).put _ _).put _ _).put _ _) rfl _)) : Act.eval _ _ = (.bool (decide ((smallI c) ≥ (min (smallI ((at_ spanR g.rs (k : Int)).lo)) (smallI ((at_ spanR g.rs (k : Int)).hi)))))))).trans (df hg195)) (by kernel_rfl) ?_
                refine V.go_off 57 (by kernel_rfl) (((at_other rfl _ (at_other rfl _ (at_other rfl _ (at_same (((((hz182.put _ _).put _ _).put _ _).put _ _).put _ _) rfl _))) : Act.eval _ _ = (.bool (decide ((smallI c) ≥ (min (smallI ((at_ spanR g.rs (k : Int)).lo)) (smallI ((at_ spanR g.rs (k : Int)).hi)))))))).trans (df hg195)) (by kernel_rfl) ?_
                refine V.go_off 57 (by kernel_rfl) (((at_other rfl _ (at_other rfl _ (at_other rfl _ (at_other rfl _ (at_same (((((hz182.put _ _).put _ _).put _ _).put _ _).put _ _) rfl _)))) : Act.eval _ _ = (.bool (decide ((smallI c) ≥ (min (smallI ((at_ spanR g.rs (k : Int)).lo)) (smallI ((at_ spanR g.rs (k : Int)).hi)))))))).trans (df hg195)) (by kernel_rfl) ?_
                refine V.go (V.pk_f (((at_other rfl _ (at_other rfl _ (at_other rfl _ (at_other rfl _ (at_other rfl _ (at_same (((((hz182.put _ _).put _ _).put _ _).put _ _).put _ _) rfl _))))) : Act.eval _ _ = (.bool (decide ((smallI c) ≥ (min (smallI ((at_ spanR g.rs (k : Int)).lo)) (smallI ((at_ spanR g.rs (k : Int)).hi)))))))).trans (df hg195)) (v := (.bool false)) evc ?_)
                refine V.nil ?_
                refine V.then_n (hK194 _ _ ?_)
                refine V.flushW ((((((((((((hz182.put _ _).put _ _).put _ _).put _ _).put _ _).put _ _).put _ _).put _ _).put _ _).put _ _).put _ _).put _ _) (fun a219 hz220 up221 => ?_)
                have s0_222 : a219.eval (.tmp 0) = (.int .u8 c) := up221 _ _ (at_other rfl _ (at_other rfl _ (at_other rfl _ (at_other rfl _ (at_other rfl _ (at_other rfl _ (at_other rfl _ (at_other rfl _ (at_other rfl _ (at_other rfl _ (at_other rfl _ (at_other rfl _ (s0_184)))))))))))))
                have s1_223 : a219.eval (.tmp 1) = (.pointer (some ⟨b2, 0, none⟩)) := up221 _ _ (at_other rfl _ (at_other rfl _ (at_other rfl _ (at_other rfl _ (at_other rfl _ (at_other rfl _ (at_other rfl _ (at_other rfl _ (at_other rfl _ (at_other rfl _ (at_other rfl _ (at_other rfl _ (s1_185)))))))))))))
                have s2_224 : a219.eval (.tmp 2) = (.pointer (some ⟨b3, 0, none⟩)) := up221 _ _ (at_other rfl _ (at_other rfl _ (at_other rfl _ (at_other rfl _ (at_other rfl _ (at_other rfl _ (at_other rfl _ (at_other rfl _ (at_other rfl _ (at_other rfl _ (at_other rfl _ (at_other rfl _ (s2_186)))))))))))))
                have s34_225 : a219.eval (.tmp 34) = (.slice A g.rs.length cap) := up221 _ _ (at_other rfl _ (at_other rfl _ (at_other rfl _ (at_other rfl _ (at_other rfl _ (at_other rfl _ (at_other rfl _ (at_other rfl _ (at_other rfl _ (at_other rfl _ (at_other rfl _ (at_other rfl _ (s34_190)))))))))))))
                have s35_226 : a219.eval (.tmp 35) = (.int .i64 ((g.rs.length : Nat) : Int)) := up221 _ _ (at_other rfl _ (at_other rfl _ (at_other rfl _ (at_other rfl _ (at_other rfl _ (at_other rfl _ (at_other rfl _ (at_other rfl _ (at_other rfl _ (at_other rfl _ (at_other rfl _ (at_other rfl _ (s35_191)))))))))))))
                have s36_227 : a219.eval (.tmp 36) = (.int .i64 (k : Int)) := up221 _ _ (at_other rfl _ (at_other rfl _ (at_other rfl _ (at_other rfl _ (at_other rfl _ (at_other rfl _ (at_other rfl _ (at_other rfl _ (at_other rfl _ (at_other rfl _ (at_other rfl _ (at_other rfl _ (s36_192)))))))))))))
                have s63_228 : a219.eval (.tmp 63) = (.bool false) := up221 _ _ (at_same (((((((((((hz182.put _ _).put _ _).put _ _).put _ _).put _ _).put _ _).put _ _).put _ _).put _ _).put _ _).put _ _) rfl _)
                clear up221
                refine V.cond_f (s63_228) ?_
                refine V.skip ?_
                refine V.blk_n ?_
                refine V.then_n (hK117 _ _ ?_)
                refine V.region (by kernel_rfl) ?_
                refine V.go (V.pvw [(36, .int .i64 (k : Int))] ⟨(s36_227), trivial⟩ (by kernel_rfl) (.int .i64 (IntKind.i64.wrap ((k : Int) + 1))) (.int .i64 ((k : Int) + 1)) (by kernel_rfl) (V.w_i64 (by omega) (by omega)) ?_)
                refine V.go (V.mv (v := (.int .i64 ((k : Int) + 1))) (at_same hz220 rfl _) ?_)
                refine V.nil ?_
                refine V.then_n ?_
                have := @sF_t ((at_ spanR g.rs (k : Int)).lo) fold ht180
                have := @sF_t ((at_ spanR g.rs (k : Int)).hi) fold ht180
                have := @sF_t c fold ht180
                rw [hits_step g.rs k _ fold (by omega), if_neg (by omega)] at hhit
                refine ⟨k + 1, by omega, ?_⟩
                refine ⟨((hz220.put _ _).put _ _), ?_, ?_, ?_, ?_, ?_, ?_, hF_158, hS_159, hB2_160, hB3_161, (by omega), (by simpa using hhit)⟩
                · exact Eq.trans (at_other rfl _ (at_other rfl _ (s0_222))) (V.int_eq (by omega))
                · exact (at_other rfl _ (at_other rfl _ (s1_223)))
                · exact (at_other rfl _ (at_other rfl _ (s2_224)))
                · exact (at_other rfl _ (at_other rfl _ (s34_225)))
                · exact Eq.trans (at_other rfl _ (at_other rfl _ (s35_226))) (V.int_eq (by omega))
                · exact Eq.trans (at_same (hz220.put _ _) rfl _) (V.int_eq (by omega))
            ·
              have ht180 : ¬ (fold = true) := by rw [ht180q]; simp
              refine V.skip ?_
              refine V.then_n (hK177 _ _ ?_)
              refine V.seq (fun K229 hK230 => ?_)
              refine V.region (by kernel_rfl) ?_
              refine V.go (V.mv (v := (.int .u8 c)) (at_other rfl _ (s9_172)) ?_)
              refine V.go (V.mv (v := (.int .u8 ((at_ spanR g.rs (k : Int)).lo))) (at_other rfl _ (at_other rfl _ (s7_170))) ?_)
              refine V.go (V.mv (v := (.int .u8 ((at_ spanR g.rs (k : Int)).hi))) (at_other rfl _ (at_other rfl _ (at_other rfl _ (s8_171)))) ?_)
              refine V.go (V.pvw [(53, .int .u8 ((at_ spanR g.rs (k : Int)).lo)), (54, .int .u8 ((at_ spanR g.rs (k : Int)).hi))] ⟨(at_other rfl _ (at_same ((hz165.put _ _).put _ _) rfl _)), (at_same (((hz165.put _ _).put _ _).put _ _) rfl _), trivial⟩ (by kernel_rfl) (.int .u8 (if ((at_ spanR g.rs (k : Int)).hi) < ((at_ spanR g.rs (k : Int)).lo) then ((at_ spanR g.rs (k : Int)).hi) else ((at_ spanR g.rs (k : Int)).lo))) (.int .u8 (min ((at_ spanR g.rs (k : Int)).lo) ((at_ spanR g.rs (k : Int)).hi))) (by kernel_rfl) V.min_int ?_)
              refine V.go (V.pv [(52, .int .u8 c), (55, .int .u8 (min ((at_ spanR g.rs (k : Int)).lo) ((at_ spanR g.rs (k : Int)).hi)))] ⟨(at_other rfl _ (at_other rfl _ (at_other rfl _ (at_same (hz165.put _ _) rfl _)))), (at_same ((((hz165.put _ _).put _ _).put _ _).put _ _) rfl _), trivial⟩ (by kernel_rfl) (.bool (decide (c ≥ (min ((at_ spanR g.rs (k : Int)).lo) ((at_ spanR g.rs (k : Int)).hi))))) (by kernel_rfl) ?_)
              refine V.go (V.mv (v := (.bool (decide (c ≥ (min ((at_ spanR g.rs (k : Int)).lo) ((at_ spanR g.rs (k : Int)).hi)))))) (at_same (((((hz165.put _ _).put _ _).put _ _).put _ _).put _ _) rfl _) ?_)
              by_cases hg231 : c ≥ (min ((at_ spanR g.rs (k : Int)).lo) ((at_ spanR g.rs (k : Int)).hi))
              ·
                refine V.go_on 57 (by kernel_rfl) (((at_same ((((((hz165.put _ _).put _ _).put _ _).put _ _).put _ _).put _ _) rfl _ : Act.eval _ _ = (.bool (decide (c ≥ (min ((at_ spanR g.rs (k : Int)).lo) ((at_ spanR g.rs (k : Int)).hi))))))).trans (dt hg231)) (V.mv (v := (.int .u8 c)) (at_other rfl _ (at_other rfl _ (at_other rfl _ (at_other rfl _ (at_other rfl _ (at_other rfl _ (at_other rfl _ (s9_172)))))))) ?_)
                refine V.go_on 57 (by kernel_rfl) (((at_other rfl _ (at_same ((((((hz165.put _ _).put _ _).put _ _).put _ _).put _ _).put _ _) rfl _) : Act.eval _ _ = (.bool (decide (c ≥ (min ((at_ spanR g.rs (k : Int)).lo) ((at_ spanR g.rs (k : Int)).hi))))))).trans (dt hg231)) (V.mv (v := (.int .u8 ((at_ spanR g.rs (k : Int)).lo))) (at_other rfl _ (at_other rfl _ (at_other rfl _ (at_other rfl _ (at_other rfl _ (at_other rfl _ (at_other rfl _ (at_other rfl _ (s7_170))))))))) ?_)
                refine V.go_on 57 (by kernel_rfl) (((at_other rfl _ (at_other rfl _ (at_same ((((((hz165.put _ _).put _ _).put _ _).put _ _).put _ _).put _ _) rfl _)) : Act.eval _ _ = (.bool (decide (c ≥ (min ((at_ spanR g.rs (k : Int)).lo) ((at_ spanR g.rs (k : Int)).hi))))))).trans (dt hg231)) (V.mv (v := (.int .u8 ((at_ spanR g.rs (k : Int)).hi))) (at_other rfl _ (at_other rfl _ (at_other rfl _ (at_other rfl _ (at_other rfl _ (at_other rfl _ (at_other rfl _ (at_other rfl _ (at_other rfl _ (s8_171)))))))))) ?_)
                refine V.go_on 57 (by kernel_rfl) (((at_other rfl _ (at_other rfl _ (at_other rfl _ (at_same ((((((hz165.put _ _).put _ _).put _ _).put _ _).put _ _).put _ _) rfl _))) : Act.eval _ _ = (.bool (decide (c ≥ (min ((at_ spanR g.rs (k : Int)).lo) ((at_ spanR g.rs (k : Int)).hi))))))).trans (dt hg231)) (V.pvw [(59, .int .u8 ((at_ spanR g.rs (k : Int)).lo)), (60, .int .u8 ((at_ spanR g.rs (k : Int)).hi))] ⟨(at_other rfl _ (at_same ((((((((hz165.put _ _).put _ _).put _ _).put _ _).put _ _).put _ _).put _ _).put _ _) rfl _)), (at_same (((((((((hz165.put _ _).put _ _).put _ _).put _ _).put _ _).put _ _).put _ _).put _ _).put _ _) rfl _), trivial⟩ (by kernel_rfl) (.int .u8 (if ((at_ spanR g.rs (k : Int)).hi) > ((at_ spanR g.rs (k : Int)).lo) then ((at_ spanR g.rs (k : Int)).hi) else ((at_ spanR g.rs (k : Int)).lo))) (.int .u8 (max ((at_ spanR g.rs (k : Int)).lo) ((at_ spanR g.rs (k : Int)).hi))) (by kernel_rfl) V.max_int ?_)
                refine V.go_on 57 (by kernel_rfl) (((at_other rfl _ (at_other rfl _ (at_other rfl _ (at_other rfl _ (at_same ((((((hz165.put _ _).put _ _).put _ _).put _ _).put _ _).put _ _) rfl _)))) : Act.eval _ _ = (.bool (decide (c ≥ (min ((at_ spanR g.rs (k : Int)).lo) ((at_ spanR g.rs (k : Int)).hi))))))).trans (dt hg231)) (V.pv [(58, .int .u8 c), (61, .int .u8 (max ((at_ spanR g.rs (k : Int)).lo) ((at_ spanR g.rs (k : Int)).hi)))] ⟨(at_other rfl _ (at_other rfl _ (at_other rfl _ (at_same (((((((hz165.put _ _).put _ _).put _ _).put _ _).put _ _).put _ _).put _ _) rfl _)))), (at_same ((((((((((hz165.put _ _).put _ _).put _ _).put _ _).put _ _).put _ _).put _ _).put _ _).put _ _).put _ _) rfl _), trivial⟩ (by kernel_rfl) (.bool (decide (c ≤ (max ((at_ spanR g.rs (k : Int)).lo) ((at_ spanR g.rs (k : Int)).hi))))) (by kernel_rfl) ?_)
                refine V.go (V.pk_t (((at_other rfl _ (at_other rfl _ (at_other rfl _ (at_other rfl _ (at_other rfl _ (at_same ((((((hz165.put _ _).put _ _).put _ _).put _ _).put _ _).put _ _) rfl _))))) : Act.eval _ _ = (.bool (decide (c ≥ (min ((at_ spanR g.rs (k : Int)).lo) ((at_ spanR g.rs (k : Int)).hi))))))).trans (dt hg231)) (v := (.bool (decide (c ≤ (max ((at_ spanR g.rs (k : Int)).lo) ((at_ spanR g.rs (k : Int)).hi)))))) (at_same (((((((((((hz165.put _ _).put _ _).put _ _).put _ _).put _ _).put _ _).put _ _).put _ _).put _ _).put _ _).put _ _) rfl _) ?_)
                refine V.nil ?_
                refine V.then_n (hK230 _ _ ?_)
                refine V.flushW (((((((((((((hz165.put _ _).put _ _).put _ _).put _ _).put _ _).put _ _).put _ _).put _ _).put _ _).put _ _).put _ _).put _ _).put _ _) (fun a232 hz233 up234 => ?_)
                have s0_235 : a232.eval (.tmp 0) = (.int .u8 c) := up234 _ _ (at_other rfl _ (at_other rfl _ (at_other rfl _ (at_other rfl _ (at_other rfl _ (at_other rfl _ (at_other rfl _ (at_other rfl _ (at_other rfl _ (at_other rfl _ (at_other rfl _ (at_other rfl _ (at_other rfl _ (s0_167))))))))))))))
                have s1_236 : a232.eval (.tmp 1) = (.pointer (some ⟨b2, 0, none⟩)) := up234 _ _ (at_other rfl _ (at_other rfl _ (at_other rfl _ (at_other rfl _ (at_other rfl _ (at_other rfl _ (at_other rfl _ (at_other rfl _ (at_other rfl _ (at_other rfl _ (at_other rfl _ (at_other rfl _ (at_other rfl _ (s1_168))))))))))))))
                have s2_237 : a232.eval (.tmp 2) = (.pointer (some ⟨b3, 0, none⟩)) := up234 _ _ (at_other rfl _ (at_other rfl _ (at_other rfl _ (at_other rfl _ (at_other rfl _ (at_other rfl _ (at_other rfl _ (at_other rfl _ (at_other rfl _ (at_other rfl _ (at_other rfl _ (at_other rfl _ (at_other rfl _ (s2_169))))))))))))))
                have s34_238 : a232.eval (.tmp 34) = (.slice A g.rs.length cap) := up234 _ _ (at_other rfl _ (at_other rfl _ (at_other rfl _ (at_other rfl _ (at_other rfl _ (at_other rfl _ (at_other rfl _ (at_other rfl _ (at_other rfl _ (at_other rfl _ (at_other rfl _ (at_other rfl _ (at_other rfl _ (s34_173))))))))))))))
                have s35_239 : a232.eval (.tmp 35) = (.int .i64 ((g.rs.length : Nat) : Int)) := up234 _ _ (at_other rfl _ (at_other rfl _ (at_other rfl _ (at_other rfl _ (at_other rfl _ (at_other rfl _ (at_other rfl _ (at_other rfl _ (at_other rfl _ (at_other rfl _ (at_other rfl _ (at_other rfl _ (at_other rfl _ (s35_174))))))))))))))
                have s36_240 : a232.eval (.tmp 36) = (.int .i64 (k : Int)) := up234 _ _ (at_other rfl _ (at_other rfl _ (at_other rfl _ (at_other rfl _ (at_other rfl _ (at_other rfl _ (at_other rfl _ (at_other rfl _ (at_other rfl _ (at_other rfl _ (at_other rfl _ (at_other rfl _ (at_other rfl _ (s36_175))))))))))))))
                have s63_241 : a232.eval (.tmp 63) = (.bool (decide (c ≤ (max ((at_ spanR g.rs (k : Int)).lo) ((at_ spanR g.rs (k : Int)).hi))))) := up234 _ _ (at_same ((((((((((((hz165.put _ _).put _ _).put _ _).put _ _).put _ _).put _ _).put _ _).put _ _).put _ _).put _ _).put _ _).put _ _) rfl _)
                clear up234
                refine V.condP (p := c ≤ (max ((at_ spanR g.rs (k : Int)).lo) ((at_ spanR g.rs (k : Int)).hi))) (s63_241) (fun ht242 => ?_) (fun ht242 => ?_)
                ·
                  refine V.seq (fun K243 hK244 => ?_)
                  refine V.region (by kernel_rfl) ?_
                  refine V.go (V.pv [(1, .pointer (some ⟨b2, 0, none⟩))] ⟨(s1_236), trivial⟩ (by kernel_rfl) (.pointer (some ⟨b2, 2, none⟩)) (by kernel_rfl) ?_)
                  refine V.go (V.ld ⟨b2, 2, none⟩ (.bool g.neg) (at_same hz233 rfl _) (by kernel_rfl) (hB2_160.at 2 rfl) ?_)
                  refine V.go (V.pv [(65, .bool g.neg)] ⟨(at_same (hz233.put _ _) rfl _), trivial⟩ (by kernel_rfl) (.bool (!g.neg)) (by kernel_rfl) ?_)
                  refine V.go (V.asg (v := (.bool (!g.neg))) (at_same ((hz233.put _ _).put _ _) rfl _) ?_)
                  refine V.nil ?_
                  refine V.then_n (hK244 _ _ ?_)
                  refine V.flushW ((((hz233.put _ _).put _ _).put _ _).put _ _) (fun a245 hz246 up247 => ?_)
                  have s0_248 : a245.eval (.tmp 0) = (.int .u8 c) := up247 _ _ (at_other rfl _ (at_other rfl _ (at_other rfl _ (at_other rfl _ (s0_235)))))
                  have s1_249 : a245.eval (.tmp 1) = (.pointer (some ⟨b2, 0, none⟩)) := up247 _ _ (at_other rfl _ (at_other rfl _ (at_other rfl _ (at_other rfl _ (s1_236)))))
                  have s2_250 : a245.eval (.tmp 2) = (.pointer (some ⟨b3, 0, none⟩)) := up247 _ _ (at_other rfl _ (at_other rfl _ (at_other rfl _ (at_other rfl _ (s2_237)))))
                  have s4_251 : a245.eval (.tmp 4) = (.bool (!g.neg)) := up247 _ _ (at_same (((hz233.put _ _).put _ _).put _ _) rfl _)
                  have s34_252 : a245.eval (.tmp 34) = (.slice A g.rs.length cap) := up247 _ _ (at_other rfl _ (at_other rfl _ (at_other rfl _ (at_other rfl _ (s34_238)))))
                  have s35_253 : a245.eval (.tmp 35) = (.int .i64 ((g.rs.length : Nat) : Int)) := up247 _ _ (at_other rfl _ (at_other rfl _ (at_other rfl _ (at_other rfl _ (s35_239)))))
                  have s36_254 : a245.eval (.tmp 36) = (.int .i64 (k : Int)) := up247 _ _ (at_other rfl _ (at_other rfl _ (at_other rfl _ (at_other rfl _ (s36_240)))))
                  clear up247
                  refine V.ret ?_
                  refine V.blk_r ?_
                  refine V.then_r ?_
                  refine V.then_r ?_
                  refine V.blk_r ?_
                  refine V.then_r ?_
                  refine V.ret1 hz246 rfl (s4_251) ?_
                  refine ⟨congrArg Ending.returned (congrArg Value.bool ?_), hF_158⟩
                  unfold setB
                  rw [if_neg (by omega), if_neg (by omega)]
                  have := @sF_f ((at_ spanR g.rs (k : Int)).lo) fold (Bool.not_eq_true _ ▸ ht180)
                  have := @sF_f ((at_ spanR g.rs (k : Int)).hi) fold (Bool.not_eq_true _ ▸ ht180)
                  have := @sF_f c fold (Bool.not_eq_true _ ▸ ht180)
                  rw [← hhit, hits_step g.rs k _ fold (by omega), if_pos (by omega)]; simp
                ·
                  refine V.skip ?_
                  refine V.blk_n ?_
                  refine V.then_n (hK117 _ _ ?_)
                  refine V.region (by kernel_rfl) ?_
                  refine V.go (V.pvw [(36, .int .i64 (k : Int))] ⟨(s36_240), trivial⟩ (by kernel_rfl) (.int .i64 (IntKind.i64.wrap ((k : Int) + 1))) (.int .i64 ((k : Int) + 1)) (by kernel_rfl) (V.w_i64 (by omega) (by omega)) ?_)
                  refine V.go (V.mv (v := (.int .i64 ((k : Int) + 1))) (at_same hz233 rfl _) ?_)
                  refine V.nil ?_
                  refine V.then_n ?_
                  have := @sF_f ((at_ spanR g.rs (k : Int)).lo) fold (Bool.not_eq_true _ ▸ ht180)
                  have := @sF_f ((at_ spanR g.rs (k : Int)).hi) fold (Bool.not_eq_true _ ▸ ht180)
                  have := @sF_f c fold (Bool.not_eq_true _ ▸ ht180)
                  rw [hits_step g.rs k _ fold (by omega), if_neg (by omega)] at hhit
                  refine ⟨k + 1, by omega, ?_⟩
                  refine ⟨((hz233.put _ _).put _ _), ?_, ?_, ?_, ?_, ?_, ?_, hF_158, hS_159, hB2_160, hB3_161, (by omega), (by simpa using hhit)⟩
                  · exact Eq.trans (at_other rfl _ (at_other rfl _ (s0_235))) (V.int_eq (by omega))
                  · exact (at_other rfl _ (at_other rfl _ (s1_236)))
                  · exact (at_other rfl _ (at_other rfl _ (s2_237)))
                  · exact (at_other rfl _ (at_other rfl _ (s34_238)))
                  · exact Eq.trans (at_other rfl _ (at_other rfl _ (s35_239))) (V.int_eq (by omega))
                  · exact Eq.trans (at_same (hz233.put _ _) rfl _) (V.int_eq (by omega))
              ·
                refine V.go_off 57 (by kernel_rfl) (((at_same ((((((hz165.put _ _).put _ _).put _ _).put _ _).put _ _).put _ _) rfl _ : Act.eval _ _ = (.bool (decide (c ≥ (min ((at_ spanR g.rs (k : Int)).lo) ((at_ spanR g.rs (k : Int)).hi))))))).trans (df hg231)) (by kernel_rfl) ?_
                refine V.go_off 57 (by kernel_rfl) (((at_other rfl _ (at_same ((((((hz165.put _ _).put _ _).put _ _).put _ _).put _ _).put _ _) rfl _) : Act.eval _ _ = (.bool (decide (c ≥ (min ((at_ spanR g.rs (k : Int)).lo) ((at_ spanR g.rs (k : Int)).hi))))))).trans (df hg231)) (by kernel_rfl) ?_
                refine V.go_off 57 (by kernel_rfl) (((at_other rfl _ (at_other rfl _ (at_same ((((((hz165.put _ _).put _ _).put _ _).put _ _).put _ _).put _ _) rfl _)) : Act.eval _ _ = (.bool (decide (c ≥ (min ((at_ spanR g.rs (k : Int)).lo) ((at_ spanR g.rs (k : Int)).hi))))))).trans (df hg231)) (by kernel_rfl) ?_
                refine V.go_off 57 (by kernel_rfl) (((at_other rfl _ (at_other rfl _ (at_other rfl _ (at_same ((((((hz165.put _ _).put _ _).put _ _).put _ _).put _ _).put _ _) rfl _))) : Act.eval _ _ = (.bool (decide (c ≥ (min ((at_ spanR g.rs (k : Int)).lo) ((at_ spanR g.rs (k : Int)).hi))))))).trans (df hg231)) (by kernel_rfl) ?_
                refine V.go_off 57 (by kernel_rfl) (((at_other rfl _ (at_other rfl _ (at_other rfl _ (at_other rfl _ (at_same ((((((hz165.put _ _).put _ _).put _ _).put _ _).put _ _).put _ _) rfl _)))) : Act.eval _ _ = (.bool (decide (c ≥ (min ((at_ spanR g.rs (k : Int)).lo) ((at_ spanR g.rs (k : Int)).hi))))))).trans (df hg231)) (by kernel_rfl) ?_
                refine V.go (V.pk_f (((at_other rfl _ (at_other rfl _ (at_other rfl _ (at_other rfl _ (at_other rfl _ (at_same ((((((hz165.put _ _).put _ _).put _ _).put _ _).put _ _).put _ _) rfl _))))) : Act.eval _ _ = (.bool (decide (c ≥ (min ((at_ spanR g.rs (k : Int)).lo) ((at_ spanR g.rs (k : Int)).hi))))))).trans (df hg231)) (v := (.bool false)) evc ?_)
                refine V.nil ?_
                refine V.then_n (hK230 _ _ ?_)
                refine V.flushW (((((((((((((hz165.put _ _).put _ _).put _ _).put _ _).put _ _).put _ _).put _ _).put _ _).put _ _).put _ _).put _ _).put _ _).put _ _) (fun a255 hz256 up257 => ?_)
                have s0_258 : a255.eval (.tmp 0) = (.int .u8 c) := up257 _ _ (at_other rfl _ (at_other rfl _ (at_other rfl _ (at_other rfl _ (at_other rfl _ (at_other rfl _ (at_other rfl _ (at_other rfl _ (at_other rfl _ (at_other rfl _ (at_other rfl _ (at_other rfl _ (at_other rfl _ (s0_167))))))))))))))
                have s1_259 : a255.eval (.tmp 1) = (.pointer (some ⟨b2, 0, none⟩)) := up257 _ _ (at_other rfl _ (at_other rfl _ (at_other rfl _ (at_other rfl _ (at_other rfl _ (at_other rfl _ (at_other rfl _ (at_other rfl _ (at_other rfl _ (at_other rfl _ (at_other rfl _ (at_other rfl _ (at_other rfl _ (s1_168))))))))))))))
                have s2_260 : a255.eval (.tmp 2) = (.pointer (some ⟨b3, 0, none⟩)) := up257 _ _ (at_other rfl _ (at_other rfl _ (at_other rfl _ (at_other rfl _ (at_other rfl _ (at_other rfl _ (at_other rfl _ (at_other rfl _ (at_other rfl _ (at_other rfl _ (at_other rfl _ (at_other rfl _ (at_other rfl _ (s2_169))))))))))))))
                have s34_261 : a255.eval (.tmp 34) = (.slice A g.rs.length cap) := up257 _ _ (at_other rfl _ (at_other rfl _ (at_other rfl _ (at_other rfl _ (at_other rfl _ (at_other rfl _ (at_other rfl _ (at_other rfl _ (at_other rfl _ (at_other rfl _ (at_other rfl _ (at_other rfl _ (at_other rfl _ (s34_173))))))))))))))
                have s35_262 : a255.eval (.tmp 35) = (.int .i64 ((g.rs.length : Nat) : Int)) := up257 _ _ (at_other rfl _ (at_other rfl _ (at_other rfl _ (at_other rfl _ (at_other rfl _ (at_other rfl _ (at_other rfl _ (at_other rfl _ (at_other rfl _ (at_other rfl _ (at_other rfl _ (at_other rfl _ (at_other rfl _ (s35_174))))))))))))))
                have s36_263 : a255.eval (.tmp 36) = (.int .i64 (k : Int)) := up257 _ _ (at_other rfl _ (at_other rfl _ (at_other rfl _ (at_other rfl _ (at_other rfl _ (at_other rfl _ (at_other rfl _ (at_other rfl _ (at_other rfl _ (at_other rfl _ (at_other rfl _ (at_other rfl _ (at_other rfl _ (s36_175))))))))))))))
                have s63_264 : a255.eval (.tmp 63) = (.bool false) := up257 _ _ (at_same ((((((((((((hz165.put _ _).put _ _).put _ _).put _ _).put _ _).put _ _).put _ _).put _ _).put _ _).put _ _).put _ _).put _ _) rfl _)
                clear up257
                refine V.cond_f (s63_264) ?_
                refine V.skip ?_
                refine V.blk_n ?_
                refine V.then_n (hK117 _ _ ?_)
                refine V.region (by kernel_rfl) ?_
                refine V.go (V.pvw [(36, .int .i64 (k : Int))] ⟨(s36_263), trivial⟩ (by kernel_rfl) (.int .i64 (IntKind.i64.wrap ((k : Int) + 1))) (.int .i64 ((k : Int) + 1)) (by kernel_rfl) (V.w_i64 (by omega) (by omega)) ?_)
                refine V.go (V.mv (v := (.int .i64 ((k : Int) + 1))) (at_same hz256 rfl _) ?_)
                refine V.nil ?_
                refine V.then_n ?_
                have := @sF_f ((at_ spanR g.rs (k : Int)).lo) fold (Bool.not_eq_true _ ▸ ht180)
                have := @sF_f ((at_ spanR g.rs (k : Int)).hi) fold (Bool.not_eq_true _ ▸ ht180)
                have := @sF_f c fold (Bool.not_eq_true _ ▸ ht180)
                rw [hits_step g.rs k _ fold (by omega), if_neg (by omega)] at hhit
                refine ⟨k + 1, by omega, ?_⟩
                refine ⟨((hz256.put _ _).put _ _), ?_, ?_, ?_, ?_, ?_, ?_, hF_158, hS_159, hB2_160, hB3_161, (by omega), (by simpa using hhit)⟩
                · exact Eq.trans (at_other rfl _ (at_other rfl _ (s0_258))) (V.int_eq (by omega))
                · exact (at_other rfl _ (at_other rfl _ (s1_259)))
                · exact (at_other rfl _ (at_other rfl _ (s2_260)))
                · exact (at_other rfl _ (at_other rfl _ (s34_261)))
                · exact Eq.trans (at_other rfl _ (at_other rfl _ (s35_262))) (V.int_eq (by omega))
                · exact Eq.trans (at_same (hz256.put _ _) rfl _) (V.int_eq (by omega))
          ·
            refine V.exit ?_
            refine V.then_e ?_
            refine V.then_e ?_
            refine V.blk_hit ?_
            refine V.then_n (hK83 _ _ ?_)
            refine V.seq (fun K265 hK266 => ?_)
            refine V.region (by kernel_rfl) ?_
            refine V.go (V.pv [(1, .pointer (some ⟨b2, 0, none⟩))] ⟨(at_other rfl _ (s1_99)), trivial⟩ (by kernel_rfl) (.pointer (some ⟨b2, 2, none⟩)) (by kernel_rfl) ?_)
            refine V.go (V.ld ⟨b2, 2, none⟩ (.bool g.neg) (at_same (hz97.put _ _) rfl _) (by kernel_rfl) (hB2_106.at 2 rfl) ?_)
            refine V.go (V.asg (v := (.bool g.neg)) (at_same ((hz97.put _ _).put _ _) rfl _) ?_)
            refine V.nil ?_
            refine V.then_n (hK266 _ _ ?_)
            refine V.flushW ((((hz97.put _ _).put _ _).put _ _).put _ _) (fun a267 hz268 up269 => ?_)
            have s4_270 : a267.eval (.tmp 4) = (.bool g.neg) := up269 _ _ (at_same (((hz97.put _ _).put _ _).put _ _) rfl _)
            clear up269
            refine V.ret ?_
            refine V.ret1 hz268 rfl (s4_270) ?_
            refine ⟨congrArg Ending.returned (congrArg Value.bool ?_), hF_104⟩
            unfold setB
            rw [if_neg (by omega), if_neg (by omega)]
            rw [← hhit, List.drop_eq_nil_of_le (by omega)]
            unfold hits; simp
end Go.Proofs.Ytmlohijidjbbjaa
