/- Walks: the reference's one. -/
import Derived.Test.YtmlohijidjbbjaaProg
import Derived.Test.YtmlohijidjbbjaaWa
namespace Go.Proofs.Ytmlohijidjbbjaa
open Go.V Go.Base
attribute [local irreducible] Act.put Act.eval
set_option linter.unusedVariables false
set_option linter.unusedSimpArgs false
set_option maxHeartbeats 4000000 in
set_option maxRecDepth 20000 in
theorem rone_any (w : World) (g : Glob) (A : Option Addr) (cap : Nat) (c : Int) (fold : Bool) (Z : Nat → Prop) (h0 : 0 ≤ c) (h1 : c ≤ 255) (hg0 : 0 ≤ g.c) (hg1 : g.c ≤ 255) (hrs : ∀ i : Int, GoodS (at_ spanR g.rs i)) (hS : SlR spanR Z w (.slice A g.rs.length cap) g.rs) : Calls Try.prog 37 #[.agg #[.int .i64 g.kind, .int .u8 g.c, .bool g.neg, .slice A g.rs.length cap], .int .u8 c, .bool fold] w (fun e w' => e = .returned (.bool (oneB g c fold)) ∧ Fr [] w w') := by
  have hF := Fr.refl [] w; have hlen := hS.len_le
  refine V.enter 67 Try.func37 rfl rfl ?_
  intro a hz ha
  have s0 : a.eval (.tmp 0) = (.agg #[.int .i64 g.kind, .int .u8 g.c, .bool g.neg, .slice A g.rs.length cap]) := ha 0 _ rfl
  have s1 : a.eval (.tmp 1) = (.int .u8 c) := ha 1 _ rfl
  have s2 : a.eval (.tmp 2) = (.bool fold) := ha 2 _ rfl
  clear ha
  refine V.seq (fun K1 hK2 => ?_)
  refine V.region (by kernel_rfl) ?_
  refine V.go (V.mk [(0, .agg #[.int .i64 g.kind, .int .u8 g.c, .bool g.neg, .slice A g.rs.length cap])] ⟨(s0), trivial⟩ (by kernel_rfl) [.int .i64 g.kind, .int .u8 g.c, .bool g.neg, .slice A g.rs.length cap] 42 (fun b => .pointer (some ⟨b, 0, none⟩)) (by kernel_rfl) ?_)
  intro w4 b3 heb3 hB5 hF6 hsb3
  have hF_7 := hF.new hF6
  have hS_8 := hS.fr0 hF6
  refine V.go (V.asg (v := (.bool false)) evc ?_)
  refine V.nil ?_
  refine V.then_n (hK2 _ _ ?_)
  refine V.seq (fun K9 hK10 => ?_)
  refine V.region (by kernel_rfl) ?_
  refine V.go (V.mv (v := (.int .u8 c)) (at_other rfl _ (at_other rfl _ (s1))) ?_)
  refine V.go (V.mv (v := (.bool fold)) (at_other rfl _ (at_other rfl _ (at_other rfl _ (s2)))) ?_)
  refine V.go (V.call 42 #[] #[.int .u8 c, .bool fold] evf (args2 (at_other rfl _ (at_same ((hz.put _ _).put _ _) rfl _)) (at_same (((hz.put _ _).put _ _).put _ _) rfl _)) (Go.Proofs.enters_of Try.func42 (by kernel_rfl) rfl) (rsmall_any _ c fold (by omega) (by omega)) ?_)
  rintro _ _ ⟨rfl, rfl⟩
  refine ⟨_, rfl, ?_⟩
  have hsm10 := smallF_in c fold (by omega) (by omega)
  refine V.go (V.asg (v := (.int .u8 (smallF c fold))) (at_same ((((hz.put _ _).put _ _).put _ _).put _ _) rfl _) ?_)
  refine V.nil ?_
  refine V.then_n (hK10 _ _ ?_)
  refine V.flushW ((((((hz.put _ _).put _ _).put _ _).put _ _).put _ _).put _ _) (fun a11 hz12 up13 => ?_)
  have s1_14 : a11.eval (.tmp 1) = (.int .u8 (smallF c fold)) := up13 _ _ (at_same (((((hz.put _ _).put _ _).put _ _).put _ _).put _ _) rfl _)
  have s2_15 : a11.eval (.tmp 2) = (.bool fold) := up13 _ _ (at_other rfl _ (at_other rfl _ (at_other rfl _ (at_other rfl _ (at_other rfl _ (at_other rfl _ (s2)))))))
  have s3_16 : a11.eval (.tmp 3) = (.pointer (some ⟨b3, 0, none⟩)) := up13 _ _ (at_other rfl _ (at_other rfl _ (at_other rfl _ (at_other rfl _ (at_other rfl _ (at_same hz rfl _))))))
  clear up13
  refine V.seq (fun K17 hK18 => ?_)
  refine V.seq (fun K19 hK20 => ?_)
  refine V.region (by kernel_rfl) ?_
  refine V.go (V.pv [(3, .pointer (some ⟨b3, 0, none⟩))] ⟨(s3_16), trivial⟩ (by kernel_rfl) (.pointer (some ⟨b3, 0, none⟩)) (by kernel_rfl) ?_)
  refine V.go (V.ld ⟨b3, 0, none⟩ (.int .i64 g.kind) (at_same hz12 rfl _) (by kernel_rfl) (hB5.at 0 rfl) ?_)
  refine V.nil ?_
  refine V.then_n (hK20 _ _ ?_)
  refine V.block ?_
  refine V.seq (fun K21 hK22 => ?_)
  refine V.region (by kernel_rfl) ?_
  refine V.go (V.pvw [(14, .int .i64 g.kind)] ⟨(at_same (hz12.put _ _) rfl _), trivial⟩ (by kernel_rfl) (.bool (g.kind == 2)) (.bool (decide (g.kind = 2))) (by kernel_rfl) V.t_eql ?_)
  refine V.go (V.asg (v := (.bool (decide (g.kind = 2)))) (at_same ((hz12.put _ _).put _ _) rfl _) ?_)
  refine V.nil ?_
  refine V.then_n (hK22 _ _ ?_)
  refine V.flushW ((((hz12.put _ _).put _ _).put _ _).put _ _) (fun a23 hz24 up25 => ?_)
  have s1_26 : a23.eval (.tmp 1) = (.int .u8 (smallF c fold)) := up25 _ _ (at_other rfl _ (at_other rfl _ (at_other rfl _ (at_other rfl _ (s1_14)))))
  have s2_27 : a23.eval (.tmp 2) = (.bool fold) := up25 _ _ (at_other rfl _ (at_other rfl _ (at_other rfl _ (at_other rfl _ (s2_15)))))
  have s3_28 : a23.eval (.tmp 3) = (.pointer (some ⟨b3, 0, none⟩)) := up25 _ _ (at_other rfl _ (at_other rfl _ (at_other rfl _ (at_other rfl _ (s3_16)))))
  have s14_29 : a23.eval (.tmp 14) = (.int .i64 g.kind) := up25 _ _ (at_other rfl _ (at_other rfl _ (at_same (hz12.put _ _) rfl _)))
  have s15_30 : a23.eval (.tmp 15) = (.bool (decide (g.kind = 2))) := up25 _ _ (at_same (((hz12.put _ _).put _ _).put _ _) rfl _)
  clear up25
  refine V.condP (p := g.kind = 2) (s15_30) (fun ht31 => ?_) (fun ht31 => ?_)
  ·
    refine V.seq (fun K32 hK33 => ?_)
    refine V.region (by kernel_rfl) ?_
    refine V.go (V.asg (v := (.bool true)) evc ?_)
    refine V.nil ?_
    refine V.then_n (hK33 _ _ ?_)
    refine V.ret ?_
    refine V.blk_r ?_
    refine V.then_r ?_
    refine V.ret1 (hz24.put _ _) rfl (at_same hz24 rfl _) ?_
    refine ⟨congrArg Ending.returned (congrArg Value.bool ?_), hF_7⟩
    unfold oneB
    rw [if_pos (by omega)]
  ·
    refine V.seq (fun K34 hK35 => ?_)
    refine V.region (by kernel_rfl) ?_
    refine V.go (V.pvw [(14, .int .i64 g.kind)] ⟨(s14_29), trivial⟩ (by kernel_rfl) (.bool (g.kind == 3)) (.bool (decide (g.kind = 3))) (by kernel_rfl) V.t_eql ?_)
    refine V.go (V.asg (v := (.bool (decide (g.kind = 3)))) (at_same hz24 rfl _) ?_)
    refine V.nil ?_
    refine V.then_n (hK35 _ _ ?_)
    refine V.condP (p := g.kind = 3) (at_same (hz24.put _ _) rfl _) (fun ht36 => ?_) (fun ht36 => ?_)
    ·
      refine V.seq (fun K37 hK38 => ?_)
      refine V.region (by kernel_rfl) ?_
      refine V.go (V.mv (v := (.int .u8 (smallF c fold))) (at_other rfl _ (at_other rfl _ (s1_26))) ?_)
      refine V.go (V.pv [(3, .pointer (some ⟨b3, 0, none⟩))] ⟨(at_other rfl _ (at_other rfl _ (at_other rfl _ (s3_28)))), trivial⟩ (by kernel_rfl) (.pointer (some ⟨b3, 1, none⟩)) (by kernel_rfl) ?_)
      refine V.go (V.ld ⟨b3, 1, none⟩ (.int .u8 g.c) (at_same (((hz24.put _ _).put _ _).put _ _) rfl _) (by kernel_rfl) (hB5.at 1 rfl) ?_)
      refine V.go (V.mv (v := (.bool fold)) (at_other rfl _ (at_other rfl _ (at_other rfl _ (at_other rfl _ (at_other rfl _ (s2_27)))))) ?_)
      refine V.go (V.call 42 #[] #[.int .u8 g.c, .bool fold] evf (args2 (at_other rfl _ (at_same ((((hz24.put _ _).put _ _).put _ _).put _ _) rfl _)) (at_same (((((hz24.put _ _).put _ _).put _ _).put _ _).put _ _) rfl _)) (Go.Proofs.enters_of Try.func42 (by kernel_rfl) rfl) (rsmall_any _ g.c fold (by omega) (by omega)) ?_)
      rintro _ _ ⟨rfl, rfl⟩
      refine ⟨_, rfl, ?_⟩
      have hsm38 := smallF_in g.c fold (by omega) (by omega)
      refine V.go (V.pvw [(19, .int .u8 (smallF c fold)), (23, .int .u8 (smallF g.c fold))] ⟨(at_other rfl _ (at_other rfl _ (at_other rfl _ (at_other rfl _ (at_same ((hz24.put _ _).put _ _) rfl _))))), (at_same ((((((hz24.put _ _).put _ _).put _ _).put _ _).put _ _).put _ _) rfl _), trivial⟩ (by kernel_rfl) (.bool ((smallF c fold) == (smallF g.c fold))) (.bool (decide ((smallF c fold) = (smallF g.c fold)))) (by kernel_rfl) V.t_eql ?_)
      refine V.go (V.asg (v := (.bool (decide ((smallF c fold) = (smallF g.c fold))))) (at_same (((((((hz24.put _ _).put _ _).put _ _).put _ _).put _ _).put _ _).put _ _) rfl _) ?_)
      refine V.nil ?_
      refine V.then_n (hK38 _ _ ?_)
      refine V.flushW (((((((((hz24.put _ _).put _ _).put _ _).put _ _).put _ _).put _ _).put _ _).put _ _).put _ _) (fun a39 hz40 up41 => ?_)
      have s6_42 : a39.eval (.tmp 6) = (.bool (decide ((smallF c fold) = (smallF g.c fold)))) := up41 _ _ (at_same ((((((((hz24.put _ _).put _ _).put _ _).put _ _).put _ _).put _ _).put _ _).put _ _) rfl _)
      clear up41
      refine V.ret ?_
      refine V.blk_r ?_
      refine V.then_r ?_
      refine V.ret1 hz40 rfl (s6_42) ?_
      refine ⟨congrArg Ending.returned (congrArg Value.bool ?_), hF_7⟩
      unfold oneB
      rw [if_neg (by omega), if_pos (by omega)]
    ·
      refine V.seq (fun K43 hK44 => ?_)
      refine V.region (by kernel_rfl) ?_
      refine V.go (V.pvw [(14, .int .i64 g.kind)] ⟨(at_other rfl _ (at_other rfl _ (s14_29))), trivial⟩ (by kernel_rfl) (.bool (g.kind == 4)) (.bool (decide (g.kind = 4))) (by kernel_rfl) V.t_eql ?_)
      refine V.go (V.asg (v := (.bool (decide (g.kind = 4)))) (at_same ((hz24.put _ _).put _ _) rfl _) ?_)
      refine V.nil ?_
      refine V.then_n (hK44 _ _ ?_)
      refine V.flushW ((((hz24.put _ _).put _ _).put _ _).put _ _) (fun a45 hz46 up47 => ?_)
      have s1_48 : a45.eval (.tmp 1) = (.int .u8 (smallF c fold)) := up47 _ _ (at_other rfl _ (at_other rfl _ (at_other rfl _ (at_other rfl _ (s1_26)))))
      have s2_49 : a45.eval (.tmp 2) = (.bool fold) := up47 _ _ (at_other rfl _ (at_other rfl _ (at_other rfl _ (at_other rfl _ (s2_27)))))
      have s3_50 : a45.eval (.tmp 3) = (.pointer (some ⟨b3, 0, none⟩)) := up47 _ _ (at_other rfl _ (at_other rfl _ (at_other rfl _ (at_other rfl _ (s3_28)))))
      have s25_51 : a45.eval (.tmp 25) = (.bool (decide (g.kind = 4))) := up47 _ _ (at_same (((hz24.put _ _).put _ _).put _ _) rfl _)
      clear up47
      refine V.condP (p := g.kind = 4) (s25_51) (fun ht52 => ?_) (fun ht52 => ?_)
      ·
        refine V.seq (fun K53 hK54 => ?_)
        refine V.seq (fun K55 hK56 => ?_)
        refine V.region (by kernel_rfl) ?_
        refine V.go (V.asg (v := (.int .i64 0)) evc ?_)
        refine V.nil ?_
        refine V.then_n (hK56 _ _ ?_)
        refine V.block ?_
        refine V.loop1 (fun (k : Nat) a_ w_ => Sz 67 a_ ∧ a_.eval (.tmp 1) = (.int .u8 (smallF c fold)) ∧ a_.eval (.tmp 2) = (.bool fold) ∧ a_.eval (.tmp 3) = (.pointer (some ⟨b3, 0, none⟩)) ∧ a_.eval (.tmp 7) = (.int .i64 (k : Int)) ∧ Fr [] w w_ ∧ SlR spanR Z w_ (.slice A g.rs.length cap) g.rs ∧ Blk w_ b3 [.int .i64 g.kind, .int .u8 g.c, .bool g.neg, .slice A g.rs.length cap] 42 ∧ (k ≤ g.rs.length) ∧ (hits (g.rs.drop k) (smallF c fold) fold = hits g.rs (smallF c fold) fold)) (fun (k : Nat) => g.rs.length - k) 0 ?_ ?_
        ·
          refine ⟨(hz46.put _ _), ?_, ?_, ?_, ?_, hF_7, hS_8, hB5, (by omega), (by simp)⟩
          · exact Eq.trans (at_other rfl _ (s1_48)) (V.int_eq (by omega))
          · exact (at_other rfl _ (s2_49))
          · exact (at_other rfl _ (s3_50))
          · exact Eq.trans (at_same hz46 rfl _) (V.int_eq (by omega))
        ·
          rintro k a57 w58 ⟨hz59, s1_60, s2_61, s3_62, s7_63, hF_64, hS_65, hB5_66, hk, hhit⟩
          have hfs67 := hF_64.size
          have hlt68 := hB5_66.lt
          refine V.seq (fun K69 hK70 => ?_)
          refine V.seq (fun K71 hK72 => ?_)
          refine V.region (by kernel_rfl) ?_
          refine V.go (V.mv (v := (.int .i64 (k : Int))) (s7_63) ?_)
          refine V.go (V.pv [(3, .pointer (some ⟨b3, 0, none⟩))] ⟨(at_other rfl _ (s3_62)), trivial⟩ (by kernel_rfl) (.pointer (some ⟨b3, 3, none⟩)) (by kernel_rfl) ?_)
          refine V.go (V.ld ⟨b3, 3, none⟩ (.slice A g.rs.length cap) (at_same (hz59.put _ _) rfl _) (by kernel_rfl) (hB5_66.at 3 rfl) ?_)
          refine V.go (V.pv [(29, .slice A g.rs.length cap)] ⟨(at_same ((hz59.put _ _).put _ _) rfl _), trivial⟩ (by kernel_rfl) (.int .i64 ((g.rs.length : Nat) : Int)) (by kernel_rfl) ?_)
          refine V.go (V.pv [(27, .int .i64 (k : Int)), (30, .int .i64 ((g.rs.length : Nat) : Int))] ⟨(at_other rfl _ (at_other rfl _ (at_other rfl _ (at_same hz59 rfl _)))), (at_same (((hz59.put _ _).put _ _).put _ _) rfl _), trivial⟩ (by kernel_rfl) (.bool (decide ((k : Int) < ((g.rs.length : Nat) : Int)))) (by kernel_rfl) ?_)
          refine V.nil ?_
          refine V.then_n (hK72 _ _ ?_)
          refine V.flushW (((((hz59.put _ _).put _ _).put _ _).put _ _).put _ _) (fun a73 hz74 up75 => ?_)
          have s1_76 : a73.eval (.tmp 1) = (.int .u8 (smallF c fold)) := up75 _ _ (at_other rfl _ (at_other rfl _ (at_other rfl _ (at_other rfl _ (at_other rfl _ (s1_60))))))
          have s2_77 : a73.eval (.tmp 2) = (.bool fold) := up75 _ _ (at_other rfl _ (at_other rfl _ (at_other rfl _ (at_other rfl _ (at_other rfl _ (s2_61))))))
          have s3_78 : a73.eval (.tmp 3) = (.pointer (some ⟨b3, 0, none⟩)) := up75 _ _ (at_other rfl _ (at_other rfl _ (at_other rfl _ (at_other rfl _ (at_other rfl _ (s3_62))))))
          have s7_79 : a73.eval (.tmp 7) = (.int .i64 (k : Int)) := up75 _ _ (at_other rfl _ (at_other rfl _ (at_other rfl _ (at_other rfl _ (at_other rfl _ (s7_63))))))
          have s31_80 : a73.eval (.tmp 31) = (.bool (decide ((k : Int) < ((g.rs.length : Nat) : Int)))) := up75 _ _ (at_same ((((hz59.put _ _).put _ _).put _ _).put _ _) rfl _)
          clear up75
          refine V.condP (p := (k : Int) < ((g.rs.length : Nat) : Int)) (s31_80) (fun ht81 => ?_) (fun ht81 => ?_)
          ·
            refine V.skip ?_
            refine V.then_n (hK70 _ _ ?_)
            refine V.seq (fun K82 hK83 => ?_)
            refine V.block ?_
            refine V.seq (fun K84 hK85 => ?_)
            refine V.plan [[], [0], [], [0, 1, 2], [0, 1, 2, 3], [0, 1, 2, 3, 4], [], [0, 1, 2, 3, 4, 5, 6], [], [8], [], [8, 9, 10], [8, 9, 10, 11], [8, 9, 10, 11, 12], [], [0, 1, 2, 3, 4, 5, 6, 7, 8, 9, 10, 11, 12, 13, 14], [0, 1, 2, 3, 4, 5, 6, 7, 8, 9, 10, 11, 12, 13, 14, 15], [0, 1, 2, 3, 4, 5, 6, 7, 8, 9, 10, 11, 12, 13, 14, 15, 16]] [([0, 1, 2, 3, 4, 5, 6, 8, 9, 10, 11, 12, 13, 14], some (7, [9, 13])), ([], some (15, [])), ([16, 17], none)] (by kernel_rfl) (by kernel_rfl) (by exact fun _ _ _ _ h => h) ?_
            simp only [Plan.wpSegs, Plan.pickAll, Plan.nth, V.L_eq]
            obtain ⟨w86, hF87e⟩ : ∃ w1, w1 = w58.drew := ⟨_, rfl⟩
            rw [← hF87e]
            have hF87 : Fr [] w58 w86 := by rw [hF87e]; exact Fr.drew _ _
            have hsw86 : w86.heap.size = w58.heap.size := by rw [hF87e]; rfl
            clear hF87e
            have hF_88 := hF_64.new hF87
            have hS_89 := hS_65.fr0 hF87
            have hB5_90 := hB5_66.fr0 hF87
            refine V.go (V.pv [(3, .pointer (some ⟨b3, 0, none⟩))] ⟨(s3_78), trivial⟩ (by kernel_rfl) (.pointer (some ⟨b3, 3, none⟩)) (by kernel_rfl) ?_)
            refine V.go (V.ld ⟨b3, 3, none⟩ (.slice A g.rs.length cap) (at_same hz74 rfl _) (by kernel_rfl) (hB5_90.at 3 rfl) ?_)
            refine V.go (V.mv (v := (.int .i64 (k : Int))) (at_other rfl _ (at_other rfl _ (s7_79))) ?_)
            obtain ⟨g91, o92, hA93, hA93l, hA93z⟩ := hS_89.addr (by omega)
            refine V.go (V.ixa g91 o92 g.rs.length cap .i64 (k : Int) 2 ((at_other rfl _ (at_same (hz74.put _ _) rfl _)).trans (by rw [hA93])) (at_same ((hz74.put _ _).put _ _) rfl _) (by omega) (by omega) (by kernel_rfl) ?_)
            refine V.go (V.fa (at_same (((hz74.put _ _).put _ _).put _ _) rfl _) 0 (fun _ _ => by kernel_rfl) ?_)
            obtain ⟨cs94, hok95, hE96⟩ := hS_89.els hA93 (k : Int) (by omega) (by omega)
            obtain rfl := span_open hok95
            have hbd97 := hrs (k : Int); unfold GoodS at hbd97
            refine V.go (V.ld ⟨g91, o92 + (k : Int).toNat * 2, none⟩ (.int .u8 ((at_ spanR g.rs (k : Int)).lo)) (at_same ((((hz74.put _ _).put _ _).put _ _).put _ _) rfl _) (by kernel_rfl) (hE96.at 0 rfl) ?_)
            refine V.go (V.mv (v := (.bool fold)) (at_other rfl _ (at_other rfl _ (at_other rfl _ (at_other rfl _ (at_other rfl _ (at_other rfl _ (s2_77))))))) ?_)
            refine V.go (V.pv [(3, .pointer (some ⟨b3, 0, none⟩))] ⟨(at_other rfl _ (at_other rfl _ (at_other rfl _ (at_other rfl _ (at_other rfl _ (at_other rfl _ (at_other rfl _ (s3_78)))))))), trivial⟩ (by kernel_rfl) (.pointer (some ⟨b3, 3, none⟩)) (by kernel_rfl) ?_)
            refine V.go (V.ld ⟨b3, 3, none⟩ (.slice A g.rs.length cap) (at_same (((((((hz74.put _ _).put _ _).put _ _).put _ _).put _ _).put _ _).put _ _) rfl _) (by kernel_rfl) (hB5_90.at 3 rfl) ?_)
            refine V.go (V.mv (v := (.int .i64 (k : Int))) (at_other rfl _ (at_other rfl _ (at_other rfl _ (at_other rfl _ (at_other rfl _ (at_other rfl _ (at_other rfl _ (at_other rfl _ (at_other rfl _ (s7_79)))))))))) ?_)
            refine V.go (V.ixa g91 o92 g.rs.length cap .i64 (k : Int) 2 ((at_other rfl _ (at_same ((((((((hz74.put _ _).put _ _).put _ _).put _ _).put _ _).put _ _).put _ _).put _ _) rfl _)).trans (by rw [hA93])) (at_same (((((((((hz74.put _ _).put _ _).put _ _).put _ _).put _ _).put _ _).put _ _).put _ _).put _ _) rfl _) (by omega) (by omega) (by kernel_rfl) ?_)
            refine V.go (V.fa (at_same ((((((((((hz74.put _ _).put _ _).put _ _).put _ _).put _ _).put _ _).put _ _).put _ _).put _ _).put _ _) rfl _) 1 (fun _ _ => by kernel_rfl) ?_)
            refine V.go (V.ld ⟨g91, (o92 + (k : Int).toNat * 2) + 1, none⟩ (.int .u8 ((at_ spanR g.rs (k : Int)).hi)) (at_same (((((((((((hz74.put _ _).put _ _).put _ _).put _ _).put _ _).put _ _).put _ _).put _ _).put _ _).put _ _).put _ _) rfl _) (by kernel_rfl) (hE96.at 1 rfl) ?_)
            refine V.go (V.mv (v := (.bool fold)) (at_other rfl _ (at_other rfl _ (at_other rfl _ (at_other rfl _ (at_other rfl _ (at_other rfl _ (at_other rfl _ (at_other rfl _ (at_other rfl _ (at_other rfl _ (at_other rfl _ (at_other rfl _ (at_other rfl _ (s2_77)))))))))))))) ?_)
            refine V.nil ?_
            refine ⟨chk [] trivial (by kernel_rfl), ?_⟩
            refine V.go (V.call 42 #[] #[.int .u8 ((at_ spanR g.rs (k : Int)).lo), .bool fold] evf (args2 (at_other rfl _ (at_other rfl _ (at_other rfl _ (at_other rfl _ (at_other rfl _ (at_other rfl _ (at_other rfl _ (at_other rfl _ (at_same (((((hz74.put _ _).put _ _).put _ _).put _ _).put _ _) rfl _))))))))) (at_other rfl _ (at_other rfl _ (at_other rfl _ (at_other rfl _ (at_other rfl _ (at_other rfl _ (at_other rfl _ (at_same ((((((hz74.put _ _).put _ _).put _ _).put _ _).put _ _).put _ _) rfl _))))))))) (Go.Proofs.enters_of Try.func42 (by kernel_rfl) rfl) (rsmall_any _ ((at_ spanR g.rs (k : Int)).lo) fold (by omega) (by omega)) ?_)
            rintro _ _ ⟨rfl, rfl⟩
            refine ⟨_, rfl, ?_⟩
            have hsm97 := smallF_in ((at_ spanR g.rs (k : Int)).lo) fold (by omega) (by omega)
            refine V.nil ?_
            refine ⟨⟨(fun _ => held_blk (n := 1) (hx := (at_other rfl _ (at_other rfl _ (at_other rfl _ (at_other rfl _ (at_other rfl _ (at_other rfl _ (at_same (((((((hz74.put _ _).put _ _).put _ _).put _ _).put _ _).put _ _).put _ _) rfl _)))))))) hB5_90 hB5_90 (by kernel_rfl) rfl (by simp only [List.length]; omega)), (fun _ => held_els (m := 1) (f := 1) (hx := (at_other rfl _ (at_other rfl _ (at_same (((((((((((hz74.put _ _).put _ _).put _ _).put _ _).put _ _).put _ _).put _ _).put _ _).put _ _).put _ _).put _ _) rfl _)))) hE96 hE96 (by kernel_rfl) (by simp only [List.length]; omega))⟩, ?_⟩
            refine V.nil ?_
            refine ⟨chk [] trivial (by kernel_rfl), ?_⟩
            refine V.go (V.call 42 #[] #[.int .u8 ((at_ spanR g.rs (k : Int)).hi), .bool fold] evf (args2 (at_other rfl _ (at_other rfl _ (at_same ((((((((((((hz74.put _ _).put _ _).put _ _).put _ _).put _ _).put _ _).put _ _).put _ _).put _ _).put _ _).put _ _).put _ _) rfl _))) (at_other rfl _ (at_same (((((((((((((hz74.put _ _).put _ _).put _ _).put _ _).put _ _).put _ _).put _ _).put _ _).put _ _).put _ _).put _ _).put _ _).put _ _) rfl _))) (Go.Proofs.enters_of Try.func42 (by kernel_rfl) rfl) (rsmall_any _ ((at_ spanR g.rs (k : Int)).hi) fold (by omega) (by omega)) ?_)
            rintro _ _ ⟨rfl, rfl⟩
            refine ⟨_, rfl, ?_⟩
            have hsm97 := smallF_in ((at_ spanR g.rs (k : Int)).hi) fold (by omega) (by omega)
            refine V.nil ?_
            refine ⟨trivial, ?_⟩
            refine V.go (V.asg (v := (.int .u8 (smallF ((at_ spanR g.rs (k : Int)).lo) fold))) (at_other rfl _ (at_same ((((((((((((((hz74.put _ _).put _ _).put _ _).put _ _).put _ _).put _ _).put _ _).put _ _).put _ _).put _ _).put _ _).put _ _).put _ _).put _ _) rfl _)) ?_)
            refine V.go (V.asg (v := (.int .u8 (smallF ((at_ spanR g.rs (k : Int)).hi) fold))) (at_other rfl _ (at_same (((((((((((((((hz74.put _ _).put _ _).put _ _).put _ _).put _ _).put _ _).put _ _).put _ _).put _ _).put _ _).put _ _).put _ _).put _ _).put _ _).put _ _) rfl _)) ?_)
            refine V.nil ?_
            refine ⟨chk [] trivial (by kernel_rfl), ?_⟩
            refine V.then_n (hK85 _ _ ?_)
            refine V.flushW ((((((((((((((((((hz74.put _ _).put _ _).put _ _).put _ _).put _ _).put _ _).put _ _).put _ _).put _ _).put _ _).put _ _).put _ _).put _ _).put _ _).put _ _).put _ _).put _ _).put _ _) (fun a98 hz99 up100 => ?_)
            have s1_101 : a98.eval (.tmp 1) = (.int .u8 (smallF c fold)) := up100 _ _ (at_other rfl _ (at_other rfl _ (at_other rfl _ (at_other rfl _ (at_other rfl _ (at_other rfl _ (at_other rfl _ (at_other rfl _ (at_other rfl _ (at_other rfl _ (at_other rfl _ (at_other rfl _ (at_other rfl _ (at_other rfl _ (at_other rfl _ (at_other rfl _ (at_other rfl _ (at_other rfl _ (s1_76)))))))))))))))))))
            have s2_102 : a98.eval (.tmp 2) = (.bool fold) := up100 _ _ (at_other rfl _ (at_other rfl _ (at_other rfl _ (at_other rfl _ (at_other rfl _ (at_other rfl _ (at_other rfl _ (at_other rfl _ (at_other rfl _ (at_other rfl _ (at_other rfl _ (at_other rfl _ (at_other rfl _ (at_other rfl _ (at_other rfl _ (at_other rfl _ (at_other rfl _ (at_other rfl _ (s2_77)))))))))))))))))))
            have s3_103 : a98.eval (.tmp 3) = (.pointer (some ⟨b3, 0, none⟩)) := up100 _ _ (at_other rfl _ (at_other rfl _ (at_other rfl _ (at_other rfl _ (at_other rfl _ (at_other rfl _ (at_other rfl _ (at_other rfl _ (at_other rfl _ (at_other rfl _ (at_other rfl _ (at_other rfl _ (at_other rfl _ (at_other rfl _ (at_other rfl _ (at_other rfl _ (at_other rfl _ (at_other rfl _ (s3_78)))))))))))))))))))
            have s7_104 : a98.eval (.tmp 7) = (.int .i64 (k : Int)) := up100 _ _ (at_other rfl _ (at_other rfl _ (at_other rfl _ (at_other rfl _ (at_other rfl _ (at_other rfl _ (at_other rfl _ (at_other rfl _ (at_other rfl _ (at_other rfl _ (at_other rfl _ (at_other rfl _ (at_other rfl _ (at_other rfl _ (at_other rfl _ (at_other rfl _ (at_other rfl _ (at_other rfl _ (s7_79)))))))))))))))))))
            have s8_105 : a98.eval (.tmp 8) = (.int .u8 (smallF ((at_ spanR g.rs (k : Int)).lo) fold)) := up100 _ _ (at_other rfl _ (at_same ((((((((((((((((hz74.put _ _).put _ _).put _ _).put _ _).put _ _).put _ _).put _ _).put _ _).put _ _).put _ _).put _ _).put _ _).put _ _).put _ _).put _ _).put _ _) rfl _))
            have s9_106 : a98.eval (.tmp 9) = (.int .u8 (smallF ((at_ spanR g.rs (k : Int)).hi) fold)) := up100 _ _ (at_same (((((((((((((((((hz74.put _ _).put _ _).put _ _).put _ _).put _ _).put _ _).put _ _).put _ _).put _ _).put _ _).put _ _).put _ _).put _ _).put _ _).put _ _).put _ _).put _ _) rfl _)
            clear up100
            refine V.seq (fun K107 hK108 => ?_)
            refine V.region (by kernel_rfl) ?_
            refine V.go (V.mv (v := (.int .u8 (smallF c fold))) (s1_101) ?_)
            refine V.go (V.mv (v := (.int .u8 (smallF ((at_ spanR g.rs (k : Int)).lo) fold))) (at_other rfl _ (s8_105)) ?_)
            refine V.go (V.mv (v := (.int .u8 (smallF ((at_ spanR g.rs (k : Int)).hi) fold))) (at_other rfl _ (at_other rfl _ (s9_106))) ?_)
            refine V.go (V.pvw [(51, .int .u8 (smallF ((at_ spanR g.rs (k : Int)).lo) fold)), (52, .int .u8 (smallF ((at_ spanR g.rs (k : Int)).hi) fold))] ⟨(at_other rfl _ (at_same (hz99.put _ _) rfl _)), (at_same ((hz99.put _ _).put _ _) rfl _), trivial⟩ (by kernel_rfl) (.int .u8 (if (smallF ((at_ spanR g.rs (k : Int)).hi) fold) < (smallF ((at_ spanR g.rs (k : Int)).lo) fold) then (smallF ((at_ spanR g.rs (k : Int)).hi) fold) else (smallF ((at_ spanR g.rs (k : Int)).lo) fold))) (.int .u8 (min (smallF ((at_ spanR g.rs (k : Int)).lo) fold) (smallF ((at_ spanR g.rs (k : Int)).hi) fold))) (by kernel_rfl) V.min_int ?_)
            refine V.go (V.pv [(50, .int .u8 (smallF c fold)), (53, .int .u8 (min (smallF ((at_ spanR g.rs (k : Int)).lo) fold) (smallF ((at_ spanR g.rs (k : Int)).hi) fold)))] ⟨(at_other rfl _ (at_other rfl _ (at_other rfl _ (at_same hz99 rfl _)))), (at_same (((hz99.put _ _).put _ _).put _ _) rfl _), trivial⟩ (by kernel_rfl) (.bool (decide ((smallF c fold) ≥ (min (smallF ((at_ spanR g.rs (k : Int)).lo) fold) (smallF ((at_ spanR g.rs (k : Int)).hi) fold))))) (by kernel_rfl) ?_)
            refine V.go (V.mv (v := (.bool (decide ((smallF c fold) ≥ (min (smallF ((at_ spanR g.rs (k : Int)).lo) fold) (smallF ((at_ spanR g.rs (k : Int)).hi) fold)))))) (at_same ((((hz99.put _ _).put _ _).put _ _).put _ _) rfl _) ?_)
            by_cases hg109 : (smallF c fold) ≥ (min (smallF ((at_ spanR g.rs (k : Int)).lo) fold) (smallF ((at_ spanR g.rs (k : Int)).hi) fold))
            ·
              refine V.go_on 55 (by kernel_rfl) (((at_same (((((hz99.put _ _).put _ _).put _ _).put _ _).put _ _) rfl _ : Act.eval _ _ = (.bool (decide ((smallF c fold) ≥ (min (smallF ((at_ spanR g.rs (k : Int)).lo) fold) (smallF ((at_ spanR g.rs (k : Int)).hi) fold))))))).trans (dt hg109)) (V.mv (v := (.int .u8 (smallF c fold))) (at_other rfl _ (at_other rfl _ (at_other rfl _ (at_other rfl _ (at_other rfl _ (at_other rfl _ (s1_101))))))) ?_)
              refine V.go_on 55 (by kernel_rfl) (((at_other rfl _ (at_same (((((hz99.put _ _).put _ _).put _ _).put _ _).put _ _) rfl _) : Act.eval _ _ = (.bool (decide ((smallF c fold) ≥ (min (smallF ((at_ spanR g.rs (k : Int)).lo) fold) (smallF ((at_ spanR g.rs (k : Int)).hi) fold))))))).trans (dt hg109)) (V.mv (v := (.int .u8 (smallF ((at_ spanR g.rs (k : Int)).lo) fold))) (at_other rfl _ (at_other rfl _ (at_other rfl _ (at_other rfl _ (at_other rfl _ (at_other rfl _ (at_other rfl _ (s8_105)))))))) ?_)
              refine V.go_on 55 (by kernel_rfl) (((at_other rfl _ (at_other rfl _ (at_same (((((hz99.put _ _).put _ _).put _ _).put _ _).put _ _) rfl _)) : Act.eval _ _ = (.bool (decide ((smallF c fold) ≥ (min (smallF ((at_ spanR g.rs (k : Int)).lo) fold) (smallF ((at_ spanR g.rs (k : Int)).hi) fold))))))).trans (dt hg109)) (V.mv (v := (.int .u8 (smallF ((at_ spanR g.rs (k : Int)).hi) fold))) (at_other rfl _ (at_other rfl _ (at_other rfl _ (at_other rfl _ (at_other rfl _ (at_other rfl _ (at_other rfl _ (at_other rfl _ (s9_106))))))))) ?_)
              refine V.go_on 55 (by kernel_rfl) (((at_other rfl _ (at_other rfl _ (at_other rfl _ (at_same (((((hz99.put _ _).put _ _).put _ _).put _ _).put _ _) rfl _))) : Act.eval _ _ = (.bool (decide ((smallF c fold) ≥ (min (smallF ((at_ spanR g.rs (k : Int)).lo) fold) (smallF ((at_ spanR g.rs (k : Int)).hi) fold))))))).trans (dt hg109)) (V.pvw [(57, .int .u8 (smallF ((at_ spanR g.rs (k : Int)).lo) fold)), (58, .int .u8 (smallF ((at_ spanR g.rs (k : Int)).hi) fold))] ⟨(at_other rfl _ (at_same (((((((hz99.put _ _).put _ _).put _ _).put _ _).put _ _).put _ _).put _ _) rfl _)), (at_same ((((((((hz99.put _ _).put _ _).put _ _).put _ _).put _ _).put _ _).put _ _).put _ _) rfl _), trivial⟩ (by kernel_rfl) (.int .u8 (if (smallF ((at_ spanR g.rs (k : Int)).hi) fold) > (smallF ((at_ spanR g.rs (k : Int)).lo) fold) then (smallF ((at_ spanR g.rs (k : Int)).hi) fold) else (smallF ((at_ spanR g.rs (k : Int)).lo) fold))) (.int .u8 (max (smallF ((at_ spanR g.rs (k : Int)).lo) fold) (smallF ((at_ spanR g.rs (k : Int)).hi) fold))) (by kernel_rfl) V.max_int ?_)
              refine V.go_on 55 (by kernel_rfl) (((at_other rfl _ (at_other rfl _ (at_other rfl _ (at_other rfl _ (at_same (((((hz99.put _ _).put _ _).put _ _).put _ _).put _ _) rfl _)))) : Act.eval _ _ = (.bool (decide ((smallF c fold) ≥ (min (smallF ((at_ spanR g.rs (k : Int)).lo) fold) (smallF ((at_ spanR g.rs (k : Int)).hi) fold))))))).trans (dt hg109)) (V.pv [(56, .int .u8 (smallF c fold)), (59, .int .u8 (max (smallF ((at_ spanR g.rs (k : Int)).lo) fold) (smallF ((at_ spanR g.rs (k : Int)).hi) fold)))] ⟨(at_other rfl _ (at_other rfl _ (at_other rfl _ (at_same ((((((hz99.put _ _).put _ _).put _ _).put _ _).put _ _).put _ _) rfl _)))), (at_same (((((((((hz99.put _ _).put _ _).put _ _).put _ _).put _ _).put _ _).put _ _).put _ _).put _ _) rfl _), trivial⟩ (by kernel_rfl) (.bool (decide ((smallF c fold) ≤ (max (smallF ((at_ spanR g.rs (k : Int)).lo) fold) (smallF ((at_ spanR g.rs (k : Int)).hi) fold))))) (by kernel_rfl) ?_)
              refine V.go (V.pk_t (((at_other rfl _ (at_other rfl _ (at_other rfl _ (at_other rfl _ (at_other rfl _ (at_same (((((hz99.put _ _).put _ _).put _ _).put _ _).put _ _) rfl _))))) : Act.eval _ _ = (.bool (decide ((smallF c fold) ≥ (min (smallF ((at_ spanR g.rs (k : Int)).lo) fold) (smallF ((at_ spanR g.rs (k : Int)).hi) fold))))))).trans (dt hg109)) (v := (.bool (decide ((smallF c fold) ≤ (max (smallF ((at_ spanR g.rs (k : Int)).lo) fold) (smallF ((at_ spanR g.rs (k : Int)).hi) fold)))))) (at_same ((((((((((hz99.put _ _).put _ _).put _ _).put _ _).put _ _).put _ _).put _ _).put _ _).put _ _).put _ _) rfl _) ?_)
              refine V.nil ?_
              refine V.then_n (hK108 _ _ ?_)
              refine V.flushW ((((((((((((hz99.put _ _).put _ _).put _ _).put _ _).put _ _).put _ _).put _ _).put _ _).put _ _).put _ _).put _ _).put _ _) (fun a110 hz111 up112 => ?_)
              have s1_113 : a110.eval (.tmp 1) = (.int .u8 (smallF c fold)) := up112 _ _ (at_other rfl _ (at_other rfl _ (at_other rfl _ (at_other rfl _ (at_other rfl _ (at_other rfl _ (at_other rfl _ (at_other rfl _ (at_other rfl _ (at_other rfl _ (at_other rfl _ (at_other rfl _ (s1_101)))))))))))))
              have s2_114 : a110.eval (.tmp 2) = (.bool fold) := up112 _ _ (at_other rfl _ (at_other rfl _ (at_other rfl _ (at_other rfl _ (at_other rfl _ (at_other rfl _ (at_other rfl _ (at_other rfl _ (at_other rfl _ (at_other rfl _ (at_other rfl _ (at_other rfl _ (s2_102)))))))))))))
              have s3_115 : a110.eval (.tmp 3) = (.pointer (some ⟨b3, 0, none⟩)) := up112 _ _ (at_other rfl _ (at_other rfl _ (at_other rfl _ (at_other rfl _ (at_other rfl _ (at_other rfl _ (at_other rfl _ (at_other rfl _ (at_other rfl _ (at_other rfl _ (at_other rfl _ (at_other rfl _ (s3_103)))))))))))))
              have s7_116 : a110.eval (.tmp 7) = (.int .i64 (k : Int)) := up112 _ _ (at_other rfl _ (at_other rfl _ (at_other rfl _ (at_other rfl _ (at_other rfl _ (at_other rfl _ (at_other rfl _ (at_other rfl _ (at_other rfl _ (at_other rfl _ (at_other rfl _ (at_other rfl _ (s7_104)))))))))))))
              have s61_117 : a110.eval (.tmp 61) = (.bool (decide ((smallF c fold) ≤ (max (smallF ((at_ spanR g.rs (k : Int)).lo) fold) (smallF ((at_ spanR g.rs (k : Int)).hi) fold))))) := up112 _ _ (at_same (((((((((((hz99.put _ _).put _ _).put _ _).put _ _).put _ _).put _ _).put _ _).put _ _).put _ _).put _ _).put _ _) rfl _)
              clear up112
              refine V.condP (p := (smallF c fold) ≤ (max (smallF ((at_ spanR g.rs (k : Int)).lo) fold) (smallF ((at_ spanR g.rs (k : Int)).hi) fold))) (s61_117) (fun ht118 => ?_) (fun ht118 => ?_)
              ·
                refine V.seq (fun K119 hK120 => ?_)
                refine V.region (by kernel_rfl) ?_
                refine V.go (V.pv [(3, .pointer (some ⟨b3, 0, none⟩))] ⟨(s3_115), trivial⟩ (by kernel_rfl) (.pointer (some ⟨b3, 2, none⟩)) (by kernel_rfl) ?_)
                refine V.go (V.ld ⟨b3, 2, none⟩ (.bool g.neg) (at_same hz111 rfl _) (by kernel_rfl) (hB5_90.at 2 rfl) ?_)
                refine V.go (V.pv [(63, .bool g.neg)] ⟨(at_same (hz111.put _ _) rfl _), trivial⟩ (by kernel_rfl) (.bool (!g.neg)) (by kernel_rfl) ?_)
                refine V.go (V.asg (v := (.bool (!g.neg))) (at_same ((hz111.put _ _).put _ _) rfl _) ?_)
                refine V.nil ?_
                refine V.then_n (hK120 _ _ ?_)
                refine V.flushW ((((hz111.put _ _).put _ _).put _ _).put _ _) (fun a121 hz122 up123 => ?_)
                have s1_124 : a121.eval (.tmp 1) = (.int .u8 (smallF c fold)) := up123 _ _ (at_other rfl _ (at_other rfl _ (at_other rfl _ (at_other rfl _ (s1_113)))))
                have s2_125 : a121.eval (.tmp 2) = (.bool fold) := up123 _ _ (at_other rfl _ (at_other rfl _ (at_other rfl _ (at_other rfl _ (s2_114)))))
                have s3_126 : a121.eval (.tmp 3) = (.pointer (some ⟨b3, 0, none⟩)) := up123 _ _ (at_other rfl _ (at_other rfl _ (at_other rfl _ (at_other rfl _ (s3_115)))))
                have s6_127 : a121.eval (.tmp 6) = (.bool (!g.neg)) := up123 _ _ (at_same (((hz111.put _ _).put _ _).put _ _) rfl _)
                have s7_128 : a121.eval (.tmp 7) = (.int .i64 (k : Int)) := up123 _ _ (at_other rfl _ (at_other rfl _ (at_other rfl _ (at_other rfl _ (s7_116)))))
                clear up123
                refine V.ret ?_
                refine V.blk_r ?_
                refine V.then_r ?_
                refine V.then_r ?_
                refine V.blk_r ?_
                refine V.then_r ?_
                refine V.blk_r ?_
                refine V.then_r ?_
                refine V.ret1 hz122 rfl (s6_127) ?_
                refine ⟨congrArg Ending.returned (congrArg Value.bool ?_), hF_88⟩
                unfold oneB
                rw [hits_step g.rs k _ fold (by omega), if_pos (by omega)] at hhit
                rw [if_neg (by omega), if_neg (by omega), if_pos (by omega), ← hhit]; simp
              ·
                refine V.skip ?_
                refine V.blk_n ?_
                refine V.then_n (hK83 _ _ ?_)
                refine V.region (by kernel_rfl) ?_
                refine V.go (V.mv (v := (.int .i64 (k : Int))) (s7_116) ?_)
                refine V.go (V.pvw [(32, .int .i64 (k : Int))] ⟨(at_same hz111 rfl _), trivial⟩ (by kernel_rfl) (.int .i64 (IntKind.i64.wrap ((k : Int) + 1))) (.int .i64 ((k : Int) + 1)) (by kernel_rfl) (V.w_i64 (by omega) (by omega)) ?_)
                refine V.go (V.asg (v := (.int .i64 ((k : Int) + 1))) (at_same (hz111.put _ _) rfl _) ?_)
                refine V.nil ?_
                refine V.then_n ?_
                rw [hits_step g.rs k _ fold (by omega), if_neg (by omega)] at hhit
                refine ⟨k + 1, by omega, ?_⟩
                refine ⟨(((hz111.put _ _).put _ _).put _ _), ?_, ?_, ?_, ?_, hF_88, hS_89, hB5_90, (by omega), (by simpa using hhit)⟩
                · exact Eq.trans (at_other rfl _ (at_other rfl _ (at_other rfl _ (s1_113)))) (V.int_eq (by omega))
                · exact (at_other rfl _ (at_other rfl _ (at_other rfl _ (s2_114))))
                · exact (at_other rfl _ (at_other rfl _ (at_other rfl _ (s3_115))))
                · exact Eq.trans (at_same ((hz111.put _ _).put _ _) rfl _) (V.int_eq (by omega))
            ·
              refine V.go_off 55 (by kernel_rfl) (((at_same (((((hz99.put _ _).put _ _).put _ _).put _ _).put _ _) rfl _ : Act.eval _ _ = (.bool (decide ((smallF c fold) ≥ (min (smallF ((at_ spanR g.rs (k : Int)).lo) fold) (smallF ((at_ spanR g.rs (k : Int)).hi) fold))))))).trans (df hg109)) (by kernel_rfl) ?_
              refine V.go_off 55 (by kernel_rfl) (((at_other rfl _ (at_same (((((hz99.put _ _).put _ _).put _ _).put _ _).put _ _) rfl _) : Act.eval _ _ = (.bool (decide ((smallF c fold) ≥ (min (smallF ((at_ spanR g.rs (k : Int)).lo) fold) (smallF ((at_ spanR g.rs (k : Int)).hi) fold))))))).trans (df hg109)) (by kernel_rfl) ?_
              refine V.go_off 55 (by kernel_rfl) (((at_other rfl _ (at_other rfl _ (at_same (((((hz99.put _ _).put _ _).put _ _).put _ _).put _ _) rfl _)) : Act.eval _ _ = (.bool (decide ((smallF c fold) ≥ (min (smallF ((at_ spanR g.rs (k : Int)).lo) fold) (smallF ((at_ spanR g.rs (k : Int)).hi) fold))))))).trans (df hg109)) (by kernel_rfl) ?_
              refine V.go_off 55 (by kernel_rfl) (((at_other rfl _ (at_other rfl _ (at_other rfl _ (at_same (((((hz99.put _ _).put _ _).put _ _).put _ _).put _ _) rfl _))) : Act.eval _ _ = (.bool (decide ((smallF c fold) ≥ (min (smallF ((at_ spanR g.rs (k : Int)).lo) fold) (smallF ((at_ spanR g.rs (k : Int)).hi) fold))))))).trans (df hg109)) (by kernel_rfl) ?_
              refine V.go_off 55 (by kernel_rfl) (((at_other rfl _ (at_other rfl _ (at_other rfl _ (at_other rfl _ (at_same (((((hz99.put _ _).put _ _).put _ _).put _ _).put _ _) rfl _)))) : Act.eval _ _ = (.bool (decide ((smallF c fold) ≥ (min (smallF ((at_ spanR g.rs (k : Int)).lo) fold) (smallF ((at_ spanR g.rs (k : Int)).hi) fold))))))).trans (df hg109)) (by kernel_rfl) ?_
              refine V.go (V.pk_f (((at_other rfl _ (at_other rfl _ (at_other rfl _ (at_other rfl _ (at_other rfl _ (at_same (((((hz99.put _ _).put _ _).put _ _).put _ _).put _ _) rfl _))))) : Act.eval _ _ = (.bool (decide ((smallF c fold) ≥ (min (smallF ((at_ spanR g.rs (k : Int)).lo) fold) (smallF ((at_ spanR g.rs (k : Int)).hi) fold))))))).trans (df hg109)) (v := (.bool false)) evc ?_)
              refine V.nil ?_
              refine V.then_n (hK108 _ _ ?_)
              refine V.flushW ((((((((((((hz99.put _ _).put _ _).put _ _).put _ _).put _ _).put _ _).put _ _).put _ _).put _ _).put _ _).put _ _).put _ _) (fun a129 hz130 up131 => ?_)
              have s1_132 : a129.eval (.tmp 1) = (.int .u8 (smallF c fold)) := up131 _ _ (at_other rfl _ (at_other rfl _ (at_other rfl _ (at_other rfl _ (at_other rfl _ (at_other rfl _ (at_other rfl _ (at_other rfl _ (at_other rfl _ (at_other rfl _ (at_other rfl _ (at_other rfl _ (s1_101)))))))))))))
              have s2_133 : a129.eval (.tmp 2) = (.bool fold) := up131 _ _ (at_other rfl _ (at_other rfl _ (at_other rfl _ (at_other rfl _ (at_other rfl _ (at_other rfl _ (at_other rfl _ (at_other rfl _ (at_other rfl _ (at_other rfl _ (at_other rfl _ (at_other rfl _ (s2_102)))))))))))))
              have s3_134 : a129.eval (.tmp 3) = (.pointer (some ⟨b3, 0, none⟩)) := up131 _ _ (at_other rfl _ (at_other rfl _ (at_other rfl _ (at_other rfl _ (at_other rfl _ (at_other rfl _ (at_other rfl _ (at_other rfl _ (at_other rfl _ (at_other rfl _ (at_other rfl _ (at_other rfl _ (s3_103)))))))))))))
              have s7_135 : a129.eval (.tmp 7) = (.int .i64 (k : Int)) := up131 _ _ (at_other rfl _ (at_other rfl _ (at_other rfl _ (at_other rfl _ (at_other rfl _ (at_other rfl _ (at_other rfl _ (at_other rfl _ (at_other rfl _ (at_other rfl _ (at_other rfl _ (at_other rfl _ (s7_104)))))))))))))
              have s61_136 : a129.eval (.tmp 61) = (.bool false) := up131 _ _ (at_same (((((((((((hz99.put _ _).put _ _).put _ _).put _ _).put _ _).put _ _).put _ _).put _ _).put _ _).put _ _).put _ _) rfl _)
              clear up131
              refine V.cond_f (s61_136) ?_
              refine V.skip ?_
              refine V.blk_n ?_
              refine V.then_n (hK83 _ _ ?_)
              refine V.region (by kernel_rfl) ?_
              refine V.go (V.mv (v := (.int .i64 (k : Int))) (s7_135) ?_)
              refine V.go (V.pvw [(32, .int .i64 (k : Int))] ⟨(at_same hz130 rfl _), trivial⟩ (by kernel_rfl) (.int .i64 (IntKind.i64.wrap ((k : Int) + 1))) (.int .i64 ((k : Int) + 1)) (by kernel_rfl) (V.w_i64 (by omega) (by omega)) ?_)
              refine V.go (V.asg (v := (.int .i64 ((k : Int) + 1))) (at_same (hz130.put _ _) rfl _) ?_)
              refine V.nil ?_
              refine V.then_n ?_
              rw [hits_step g.rs k _ fold (by omega), if_neg (by omega)] at hhit
              refine ⟨k + 1, by omega, ?_⟩
              refine ⟨(((hz130.put _ _).put _ _).put _ _), ?_, ?_, ?_, ?_, hF_88, hS_89, hB5_90, (by omega), (by simpa using hhit)⟩
              · exact Eq.trans (at_other rfl _ (at_other rfl _ (at_other rfl _ (s1_132)))) (V.int_eq (by omega))
              · exact (at_other rfl _ (at_other rfl _ (at_other rfl _ (s2_133))))
              · exact (at_other rfl _ (at_other rfl _ (at_other rfl _ (s3_134))))
              · exact Eq.trans (at_same ((hz130.put _ _).put _ _) rfl _) (V.int_eq (by omega))
          ·
            refine V.exit ?_
            refine V.then_e ?_
            refine V.then_e ?_
            refine V.blk_hit ?_
            refine V.then_n (hK54 _ _ ?_)
            refine V.seq (fun K137 hK138 => ?_)
            refine V.region (by kernel_rfl) ?_
            refine V.go (V.pv [(3, .pointer (some ⟨b3, 0, none⟩))] ⟨(s3_78), trivial⟩ (by kernel_rfl) (.pointer (some ⟨b3, 2, none⟩)) (by kernel_rfl) ?_)
            refine V.go (V.ld ⟨b3, 2, none⟩ (.bool g.neg) (at_same hz74 rfl _) (by kernel_rfl) (hB5_66.at 2 rfl) ?_)
            refine V.go (V.asg (v := (.bool g.neg)) (at_same (hz74.put _ _) rfl _) ?_)
            refine V.nil ?_
            refine V.then_n (hK138 _ _ ?_)
            refine V.ret ?_
            refine V.blk_r ?_
            refine V.then_r ?_
            refine V.ret1 (((hz74.put _ _).put _ _).put _ _) rfl (at_same ((hz74.put _ _).put _ _) rfl _) ?_
            refine ⟨congrArg Ending.returned (congrArg Value.bool ?_), hF_64⟩
            unfold oneB
            rw [if_neg (by omega), if_neg (by omega), if_pos (by omega), ← hhit, List.drop_eq_nil_of_le (by omega)]
            unfold hits; simp
      ·
        refine V.skip ?_
        refine V.blk_n ?_
        refine V.then_n (hK18 _ _ ?_)
        refine V.seq (fun K139 hK140 => ?_)
        refine V.region (by kernel_rfl) ?_
        refine V.go (V.asg (v := (.bool false)) evc ?_)
        refine V.nil ?_
        refine V.then_n (hK140 _ _ ?_)
        refine V.ret ?_
        refine V.ret1 (hz46.put _ _) rfl (at_same hz46 rfl _) ?_
        refine ⟨congrArg Ending.returned (congrArg Value.bool ?_), hF_7⟩
        unfold oneB
        rw [if_neg (by omega), if_neg (by omega), if_neg (by omega)]
end Go.Proofs.Ytmlohijidjbbjaa
