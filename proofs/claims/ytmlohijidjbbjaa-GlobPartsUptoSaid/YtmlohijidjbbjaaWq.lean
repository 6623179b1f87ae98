/- Walks: the reference's Same. -/
import Derived.Test.YtmlohijidjbbjaaProg
import Derived.Test.YtmlohijidjbbjaaWa
import Derived.Test.YtmlohijidjbbjaaAgg
namespace Go.Proofs.Ytmlohijidjbbjaa
open Go.V Go.Base
attribute [local irreducible] Act.put Act.eval
set_option linter.unusedVariables false
set_option linter.unusedSimpArgs false
set_option maxHeartbeats 4000000 in
set_option maxRecDepth 20000 in
theorem rsame_any (w : World) (A0 A1 : Option Addr) (c0 c1 : Nat) (l : List Glob) (hS : SlR globR (fun b => b < w.heap.size) w (.slice A0 l.length c0) l) (hT : SlR globR (fun b => b < w.heap.size) w (.slice A1 l.length c1) l) : Calls Try.prog 20 #[.slice A0 l.length c0, .slice A1 l.length c1] w (fun e w' => e = .returned (.bool true) ∧ Fr [] w w') := by
  have hF := Fr.refl [] w
  have hlen0 := hS.len_le
  refine V.enter 74 Try.func20 rfl rfl ?_
  intro a hz ha
  have s0 : a.eval (.tmp 0) = (.slice A0 l.length c0) := ha 0 _ rfl
  have s1 : a.eval (.tmp 1) = (.slice A1 l.length c1) := ha 1 _ rfl
  clear ha
  refine V.seq (fun K1 hK2 => ?_)
  refine V.region (by kernel_rfl) ?_
  refine V.go (V.asg (v := (.bool false)) evc ?_)
  refine V.nil ?_
  refine V.then_n (hK2 _ _ ?_)
  refine V.seq (fun K3 hK4 => ?_)
  refine V.seq (fun K5 hK6 => ?_)
  refine V.region (by kernel_rfl) ?_
  refine V.go (V.mv (v := (.slice A0 l.length c0)) (at_other rfl _ (s0)) ?_)
  refine V.go (V.pv [(9, .slice A0 l.length c0)] ⟨(at_same (hz.put _ _) rfl _), trivial⟩ (by kernel_rfl) (.int .i64 ((l.length : Nat) : Int)) (by kernel_rfl) ?_)
  refine V.go (V.mv (v := (.slice A1 l.length c1)) (at_other rfl _ (at_other rfl _ (at_other rfl _ (s1)))) ?_)
  refine V.go (V.pv [(11, .slice A1 l.length c1)] ⟨(at_same (((hz.put _ _).put _ _).put _ _) rfl _), trivial⟩ (by kernel_rfl) (.int .i64 ((l.length : Nat) : Int)) (by kernel_rfl) ?_)
  refine V.go (V.pvw [(10, .int .i64 ((l.length : Nat) : Int)), (12, .int .i64 ((l.length : Nat) : Int))] ⟨(at_other rfl _ (at_other rfl _ (at_same ((hz.put _ _).put _ _) rfl _))), (at_same ((((hz.put _ _).put _ _).put _ _).put _ _) rfl _), trivial⟩ (by kernel_rfl) (.bool (((l.length : Nat) : Int) != ((l.length : Nat) : Int))) (.bool (decide (¬ ((l.length : Nat) : Int) = ((l.length : Nat) : Int)))) (by kernel_rfl) V.t_neq ?_)
  refine V.nil ?_
  refine V.then_n (hK6 _ _ ?_)
  refine V.flushW ((((((hz.put _ _).put _ _).put _ _).put _ _).put _ _).put _ _) (fun a7 hz8 up9 => ?_)
  have s0_10 : a7.eval (.tmp 0) = (.slice A0 l.length c0) := up9 _ _ (at_other rfl _ (at_other rfl _ (at_other rfl _ (at_other rfl _ (at_other rfl _ (at_other rfl _ (s0)))))))
  have s1_11 : a7.eval (.tmp 1) = (.slice A1 l.length c1) := up9 _ _ (at_other rfl _ (at_other rfl _ (at_other rfl _ (at_other rfl _ (at_other rfl _ (at_other rfl _ (s1)))))))
  have s13_12 : a7.eval (.tmp 13) = (.bool (decide (¬ ((l.length : Nat) : Int) = ((l.length : Nat) : Int)))) := up9 _ _ (at_same (((((hz.put _ _).put _ _).put _ _).put _ _).put _ _) rfl _)
  clear up9
  refine V.condP (p := ¬ ((l.length : Nat) : Int) = ((l.length : Nat) : Int)) (s13_12) (fun ht13 => ?_) (fun ht13 => ?_)
  ·
    refine V.seq (fun K14 hK15 => ?_)
    refine V.region (by kernel_rfl) ?_
    refine V.go (V.asg (v := (.bool false)) evc ?_)
    refine V.nil ?_
    refine V.then_n (hK15 _ _ ?_)
    refine V.ret ?_
    refine V.then_r ?_
    refine V.ret1 (hz8.put _ _) rfl (at_same hz8 rfl _) ?_
    exact absurd rfl ht13
  ·
    refine V.skip ?_
    refine V.then_n (hK4 _ _ ?_)
    refine V.seq (fun K16 hK17 => ?_)
    refine V.seq (fun K18 hK19 => ?_)
    refine V.region (by kernel_rfl) ?_
    refine V.go (V.asg (v := (.int .i64 0)) evc ?_)
    refine V.nil ?_
    refine V.then_n (hK19 _ _ ?_)
    refine V.block ?_
    refine V.loop1 (fun (k : Nat) a_ w_ => Sz 74 a_ ∧ a_.eval (.tmp 0) = (.slice A0 l.length c0) ∧ a_.eval (.tmp 1) = (.slice A1 l.length c1) ∧ a_.eval (.tmp 5) = (.int .i64 (k : Int)) ∧ Fr [] w w_ ∧ SlR globR (fun b => b < w.heap.size) w_ (.slice A0 l.length c0) l ∧ SlR globR (fun b => b < w.heap.size) w_ (.slice A1 l.length c1) l ∧ (k ≤ l.length)) (fun (k : Nat) => l.length - k) 0 ?_ ?_
    ·
      refine ⟨(hz8.put _ _), ?_, ?_, ?_, hF, hS, hT, (by omega)⟩
      · exact (at_other rfl _ (s0_10))
      · exact (at_other rfl _ (s1_11))
      · exact Eq.trans (at_same hz8 rfl _) (V.int_eq (by omega))
    ·
      rintro k a20 w21 ⟨hz22, s0_23, s1_24, s5_25, hF_26, hS_27, hT_28, hk⟩
      have hfs29 := hF_26.size
      refine V.seq (fun K30 hK31 => ?_)
      refine V.seq (fun K32 hK33 => ?_)
      refine V.region (by kernel_rfl) ?_
      refine V.go (V.mv (v := (.int .i64 (k : Int))) (s5_25) ?_)
      refine V.go (V.mv (v := (.slice A0 l.length c0)) (at_other rfl _ (s0_23)) ?_)
      refine V.go (V.pv [(15, .slice A0 l.length c0)] ⟨(at_same (hz22.put _ _) rfl _), trivial⟩ (by kernel_rfl) (.int .i64 ((l.length : Nat) : Int)) (by kernel_rfl) ?_)
      refine V.go (V.pv [(14, .int .i64 (k : Int)), (16, .int .i64 ((l.length : Nat) : Int))] ⟨(at_other rfl _ (at_other rfl _ (at_same hz22 rfl _))), (at_same ((hz22.put _ _).put _ _) rfl _), trivial⟩ (by kernel_rfl) (.bool (decide ((k : Int) < ((l.length : Nat) : Int)))) (by kernel_rfl) ?_)
      refine V.nil ?_
      refine V.then_n (hK33 _ _ ?_)
      refine V.flushW ((((hz22.put _ _).put _ _).put _ _).put _ _) (fun a34 hz35 up36 => ?_)
      have s0_37 : a34.eval (.tmp 0) = (.slice A0 l.length c0) := up36 _ _ (at_other rfl _ (at_other rfl _ (at_other rfl _ (at_other rfl _ (s0_23)))))
      have s1_38 : a34.eval (.tmp 1) = (.slice A1 l.length c1) := up36 _ _ (at_other rfl _ (at_other rfl _ (at_other rfl _ (at_other rfl _ (s1_24)))))
      have s5_39 : a34.eval (.tmp 5) = (.int .i64 (k : Int)) := up36 _ _ (at_other rfl _ (at_other rfl _ (at_other rfl _ (at_other rfl _ (s5_25)))))
      have s17_40 : a34.eval (.tmp 17) = (.bool (decide ((k : Int) < ((l.length : Nat) : Int)))) := up36 _ _ (at_same (((hz22.put _ _).put _ _).put _ _) rfl _)
      clear up36
      refine V.condP (p := (k : Int) < ((l.length : Nat) : Int)) (s17_40) (fun ht41 => ?_) (fun ht41 => ?_)
      ·
        refine V.skip ?_
        refine V.then_n (hK31 _ _ ?_)
        refine V.seq (fun K42 hK43 => ?_)
        refine V.block ?_
        refine V.seq (fun K44 hK45 => ?_)
        refine V.planT [[], [], [0, 1], [0, 1, 2], [], [], [4, 5], [4, 5, 6], [], [], [0, 1, 2, 3, 8, 9], [0, 1, 2, 3, 4, 5, 6, 7, 8, 9, 10]] (.seg [0, 1, 2, 3, 4, 5, 6, 7] (.alt (.eff 8 [3, 7] (.eff 9 [3, 7] (.eff 10 [7] (.eff 11 [] .nil)))) (.eff 9 [3, 7] (.eff 8 [3, 7] (.eff 10 [7] (.eff 11 [] .nil)))))) (by kernel_rfl) (by kernel_rfl) (by exact fun _ _ _ _ h => h) ?_
        simp only [Plan.wpST, Plan.pickAll, Plan.nth, V.L_eq]
        obtain ⟨w46, hF47e⟩ : ∃ w1, w1 = w21.drew := ⟨_, rfl⟩
        rw [← hF47e]
        have hF47 : Fr [] w21 w46 := by rw [hF47e]; exact Fr.drew _ _
        have hsw46 : w46.heap.size = w21.heap.size := by rw [hF47e]; rfl
        clear hF47e
        have hF_48 := hF_26.new hF47
        have hS_49 := hS_27.fr0 hF47
        have hT_50 := hT_28.fr0 hF47
        refine V.go (V.mv (v := (.slice A0 l.length c0)) (s0_37) ?_)
        refine V.go (V.mv (v := (.int .i64 (k : Int))) (at_other rfl _ (s5_39)) ?_)
        obtain ⟨g51, o52, hA53, hA53l, hA53z⟩ := hS_49.addr (by omega)
        refine V.go (V.ixa g51 o52 l.length c0 .i64 (k : Int) 4 ((at_other rfl _ (at_same hz35 rfl _)).trans (by rw [hA53])) (at_same (hz35.put _ _) rfl _) (by omega) (by omega) (by kernel_rfl) ?_)
        obtain ⟨cs54, hok55, hE56⟩ := hS_49.els hA53 (k : Int) (by omega) (by omega)
        obtain ⟨A57, c58, rfl, hcap59, hS60⟩ := glob_open hok55
        refine V.go (V.lds ⟨g51, o52 + (k : Int).toNat * 4, none⟩ [.int .i64 ((at_ globR l (k : Int)).kind), .int .u8 ((at_ globR l (k : Int)).c), .bool ((at_ globR l (k : Int)).neg), .slice A57 ((at_ globR l (k : Int)).rs.length) c58] (at_same ((hz35.put _ _).put _ _) rfl _) (by kernel_rfl) (hE56.cells 0 _ rfl) ?_)
        refine V.go (V.mv (v := (.slice A1 l.length c1)) (at_other rfl _ (at_other rfl _ (at_other rfl _ (at_other rfl _ (s1_38))))) ?_)
        refine V.go (V.mv (v := (.int .i64 (k : Int))) (at_other rfl _ (at_other rfl _ (at_other rfl _ (at_other rfl _ (at_other rfl _ (s5_39)))))) ?_)
        obtain ⟨g61, o62, hA63, hA63l, hA63z⟩ := hT_50.addr (by omega)
        refine V.go (V.ixa g61 o62 l.length c1 .i64 (k : Int) 4 ((at_other rfl _ (at_same ((((hz35.put _ _).put _ _).put _ _).put _ _) rfl _)).trans (by rw [hA63])) (at_same (((((hz35.put _ _).put _ _).put _ _).put _ _).put _ _) rfl _) (by omega) (by omega) (by kernel_rfl) ?_)
        obtain ⟨cs64, hok65, hE66⟩ := hT_50.els hA63 (k : Int) (by omega) (by omega)
        obtain ⟨A67, c68, rfl, hcap69, hS70⟩ := glob_open hok65
        refine V.go (V.lds ⟨g61, o62 + (k : Int).toNat * 4, none⟩ [.int .i64 ((at_ globR l (k : Int)).kind), .int .u8 ((at_ globR l (k : Int)).c), .bool ((at_ globR l (k : Int)).neg), .slice A67 ((at_ globR l (k : Int)).rs.length) c68] (at_same ((((((hz35.put _ _).put _ _).put _ _).put _ _).put _ _).put _ _) rfl _) (by kernel_rfl) (hE66.cells 0 _ rfl) ?_)
        refine V.nil ?_
        refine ⟨chk [] trivial (by kernel_rfl), ?_⟩
        refine ⟨?_, ?_⟩
        ·
          refine V.go (V.mk [] trivial (by kernel_rfl) [.int .i64 0, .int .u8 0, .bool false, .slice none 0 0] 42 (fun b => .pointer (some ⟨b, 0, none⟩)) (by kernel_rfl) ?_)
          intro w72 b71 heb71 hB73 hF74 hsb71
          have hF_75 := hF_48.new hF74
          have hS_76 := hS_49.fr0 hF74
          have hT_77 := hT_50.fr0 hF74
          have hS60_78 := hS60.fr0 hF74
          have hE56_79 := hE56.fr0 hF74
          have hS70_80 := hS70.fr0 hF74
          have hE66_81 := hE66.fr0 hF74
          refine V.nil ?_
          refine ⟨⟨(fun _ => held_els (m := 4) (f := 0) (hx := (at_other rfl _ (at_other rfl _ (at_other rfl _ (at_other rfl _ (at_other rfl _ (at_same ((hz35.put _ _).put _ _) rfl _))))))) hE56 hE56_79 (by kernel_rfl) (by simp only [List.length]; omega)), (fun _ => held_els (m := 4) (f := 0) (hx := (at_other rfl _ (at_same ((((((hz35.put _ _).put _ _).put _ _).put _ _).put _ _).put _ _) rfl _))) hE66 hE66_81 (by kernel_rfl) (by simp only [List.length]; omega))⟩, ?_⟩
          refine V.go (V.mk [] trivial (by kernel_rfl) [.int .i64 0, .int .u8 0, .bool false, .slice none 0 0] 42 (fun b => .pointer (some ⟨b, 0, none⟩)) (by kernel_rfl) ?_)
          intro w83 b82 heb82 hB84 hF85 hsb82
          have hF_86 := hF_75.new hF85
          have hS_87 := hS_76.fr0 hF85
          have hT_88 := hT_77.fr0 hF85
          have hS60_89 := hS60_78.fr0 hF85
          have hE56_90 := hE56_79.fr0 hF85
          have hS70_91 := hS70_80.fr0 hF85
          have hE66_92 := hE66_81.fr0 hF85
          have hB73_93 := hB73.fr0 hF85
          refine V.nil ?_
          refine ⟨⟨(fun _ => held_els (m := 4) (f := 0) (hx := (at_other rfl _ (at_other rfl _ (at_other rfl _ (at_other rfl _ (at_other rfl _ (at_other rfl _ (at_same ((hz35.put _ _).put _ _) rfl _)))))))) hE56_79 hE56_90 (by kernel_rfl) (by simp only [List.length]; omega)), (fun _ => held_els (m := 4) (f := 0) (hx := (at_other rfl _ (at_other rfl _ (at_same ((((((hz35.put _ _).put _ _).put _ _).put _ _).put _ _).put _ _) rfl _)))) hE66_81 hE66_92 (by kernel_rfl) (by simp only [List.length]; omega))⟩, ?_⟩
          refine V.go (V.stn b71 0 (.agg #[.int .i64 ((at_ globR l (k : Int)).kind), .int .u8 ((at_ globR l (k : Int)).c), .bool ((at_ globR l (k : Int)).neg), .slice A57 ((at_ globR l (k : Int)).rs.length) c58]) [.int .i64 ((at_ globR l (k : Int)).kind), .int .u8 ((at_ globR l (k : Int)).c), .bool ((at_ globR l (k : Int)).neg), .slice A57 ((at_ globR l (k : Int)).rs.length) c58] (at_other rfl _ (at_same ((((((((hz35.put _ _).put _ _).put _ _).put _ _).put _ _).put _ _).put _ _).put _ _) rfl _)) (at_other rfl _ (at_other rfl _ (at_other rfl _ (at_other rfl _ (at_other rfl _ (at_other rfl _ (at_same (((hz35.put _ _).put _ _).put _ _) rfl _))))))) rfl rfl (by kernel_rfl) hB73_93 (by simp) [.int .i64 ((at_ globR l (k : Int)).kind), .int .u8 ((at_ globR l (k : Int)).c), .bool ((at_ globR l (k : Int)).neg), .slice A57 ((at_ globR l (k : Int)).rs.length) c58] rfl ?_)
          intro w94 hB95 hF96 hsw94
          have hF_97 := hF_86.own hF96 (by simp <;> omega)
          have hS_98 := hS_87.fr hF96 (by simp <;> omega)
          have hT_99 := hT_88.fr hF96 (by simp <;> omega)
          have hS60_100 := hS60_89.fr hF96 (by simp <;> omega)
          have hE56_101 := hE56_90.fr hF96 (by simp <;> omega)
          have hS70_102 := hS70_91.fr hF96 (by simp <;> omega)
          have hE66_103 := hE66_92.fr hF96 (by simp <;> omega)
          have hB84_104 := hB84.fr1 hF96 (by omega)
          refine V.nil ?_
          refine ⟨(fun _ => held_els (m := 4) (f := 0) (hx := (at_other rfl _ (at_other rfl _ (at_other rfl _ (at_same ((((((hz35.put _ _).put _ _).put _ _).put _ _).put _ _).put _ _) rfl _))))) hE66_92 hE66_103 (by kernel_rfl) (by simp only [List.length]; omega)), ?_⟩
          refine V.go (V.stn b82 0 (.agg #[.int .i64 ((at_ globR l (k : Int)).kind), .int .u8 ((at_ globR l (k : Int)).c), .bool ((at_ globR l (k : Int)).neg), .slice A67 ((at_ globR l (k : Int)).rs.length) c68]) [.int .i64 ((at_ globR l (k : Int)).kind), .int .u8 ((at_ globR l (k : Int)).c), .bool ((at_ globR l (k : Int)).neg), .slice A67 ((at_ globR l (k : Int)).rs.length) c68] (at_same (((((((((hz35.put _ _).put _ _).put _ _).put _ _).put _ _).put _ _).put _ _).put _ _).put _ _) rfl _) (at_other rfl _ (at_other rfl _ (at_same (((((((hz35.put _ _).put _ _).put _ _).put _ _).put _ _).put _ _).put _ _) rfl _))) rfl rfl (by kernel_rfl) hB84_104 (by simp) [.int .i64 ((at_ globR l (k : Int)).kind), .int .u8 ((at_ globR l (k : Int)).c), .bool ((at_ globR l (k : Int)).neg), .slice A67 ((at_ globR l (k : Int)).rs.length) c68] rfl ?_)
          intro w105 hB106 hF107 hsw105
          have hF_108 := hF_97.own hF107 (by simp <;> omega)
          have hS_109 := hS_98.fr hF107 (by simp <;> omega)
          have hT_110 := hT_99.fr hF107 (by simp <;> omega)
          have hS60_111 := hS60_100.fr hF107 (by simp <;> omega)
          have hE56_112 := hE56_101.fr hF107 (by simp <;> omega)
          have hS70_113 := hS70_102.fr hF107 (by simp <;> omega)
          have hE66_114 := hE66_103.fr hF107 (by simp <;> omega)
          have hB95_115 := hB95.fr1 hF107 (by omega)
          refine V.nil ?_
          refine ⟨trivial, ?_⟩
          refine V.then_n (hK45 _ _ ?_)
          refine V.flushW ((((((((((hz35.put _ _).put _ _).put _ _).put _ _).put _ _).put _ _).put _ _).put _ _).put _ _).put _ _) (fun a116 hz117 up118 => ?_)
          have s0_119 : a116.eval (.tmp 0) = (.slice A0 l.length c0) := up118 _ _ (at_other rfl _ (at_other rfl _ (at_other rfl _ (at_other rfl _ (at_other rfl _ (at_other rfl _ (at_other rfl _ (at_other rfl _ (at_other rfl _ (at_other rfl _ (s0_37)))))))))))
          have s1_120 : a116.eval (.tmp 1) = (.slice A1 l.length c1) := up118 _ _ (at_other rfl _ (at_other rfl _ (at_other rfl _ (at_other rfl _ (at_other rfl _ (at_other rfl _ (at_other rfl _ (at_other rfl _ (at_other rfl _ (at_other rfl _ (s1_38)))))))))))
          have s5_121 : a116.eval (.tmp 5) = (.int .i64 (k : Int)) := up118 _ _ (at_other rfl _ (at_other rfl _ (at_other rfl _ (at_other rfl _ (at_other rfl _ (at_other rfl _ (at_other rfl _ (at_other rfl _ (at_other rfl _ (at_other rfl _ (s5_39)))))))))))
          have s6_122 : a116.eval (.tmp 6) = (.pointer (some ⟨b71, 0, none⟩)) := up118 _ _ (at_other rfl _ (at_same ((((((((hz35.put _ _).put _ _).put _ _).put _ _).put _ _).put _ _).put _ _).put _ _) rfl _))
          have s7_123 : a116.eval (.tmp 7) = (.pointer (some ⟨b82, 0, none⟩)) := up118 _ _ (at_same (((((((((hz35.put _ _).put _ _).put _ _).put _ _).put _ _).put _ _).put _ _).put _ _).put _ _) rfl _)
          clear up118
          refine V.seq (fun K124 hK125 => ?_)
          refine V.seq (fun K126 hK127 => ?_)
          refine V.region (by kernel_rfl) ?_
          refine V.go (V.pv [(6, .pointer (some ⟨b71, 0, none⟩))] ⟨(s6_122), trivial⟩ (by kernel_rfl) (.pointer (some ⟨b71, 0, none⟩)) (by kernel_rfl) ?_)
          refine V.go (V.ld ⟨b71, 0, none⟩ (.int .i64 ((at_ globR l (k : Int)).kind)) (at_same hz117 rfl _) (by kernel_rfl) (hB95_115.at 0 rfl) ?_)
          refine V.go (V.pv [(7, .pointer (some ⟨b82, 0, none⟩))] ⟨(at_other rfl _ (at_other rfl _ (s7_123))), trivial⟩ (by kernel_rfl) (.pointer (some ⟨b82, 0, none⟩)) (by kernel_rfl) ?_)
          refine V.go (V.ld ⟨b82, 0, none⟩ (.int .i64 ((at_ globR l (k : Int)).kind)) (at_same ((hz117.put _ _).put _ _) rfl _) (by kernel_rfl) (hB106.at 0 rfl) ?_)
          refine V.go (V.pvw [(29, .int .i64 ((at_ globR l (k : Int)).kind)), (31, .int .i64 ((at_ globR l (k : Int)).kind))] ⟨(at_other rfl _ (at_other rfl _ (at_same (hz117.put _ _) rfl _))), (at_same (((hz117.put _ _).put _ _).put _ _) rfl _), trivial⟩ (by kernel_rfl) (.bool (((at_ globR l (k : Int)).kind) != ((at_ globR l (k : Int)).kind))) (.bool (decide (¬ ((at_ globR l (k : Int)).kind) = ((at_ globR l (k : Int)).kind)))) (by kernel_rfl) V.t_neq ?_)
          refine V.go (V.mv (v := (.bool (decide (¬ ((at_ globR l (k : Int)).kind) = ((at_ globR l (k : Int)).kind))))) (at_same ((((hz117.put _ _).put _ _).put _ _).put _ _) rfl _) ?_)
          by_cases hg128 : ¬ ((at_ globR l (k : Int)).kind) = ((at_ globR l (k : Int)).kind)
          ·
            refine V.go_off 33 (by kernel_rfl) (((at_same (((((hz117.put _ _).put _ _).put _ _).put _ _).put _ _) rfl _ : Act.eval _ _ = (.bool (decide (¬ ((at_ globR l (k : Int)).kind) = ((at_ globR l (k : Int)).kind)))))).trans (dt hg128)) (by kernel_rfl) ?_
            refine V.go_off 33 (by kernel_rfl) (((at_other rfl _ (at_same (((((hz117.put _ _).put _ _).put _ _).put _ _).put _ _) rfl _) : Act.eval _ _ = (.bool (decide (¬ ((at_ globR l (k : Int)).kind) = ((at_ globR l (k : Int)).kind)))))).trans (dt hg128)) (by kernel_rfl) ?_
            refine V.go_off 33 (by kernel_rfl) (((at_other rfl _ (at_other rfl _ (at_same (((((hz117.put _ _).put _ _).put _ _).put _ _).put _ _) rfl _)) : Act.eval _ _ = (.bool (decide (¬ ((at_ globR l (k : Int)).kind) = ((at_ globR l (k : Int)).kind)))))).trans (dt hg128)) (by kernel_rfl) ?_
            refine V.go_off 33 (by kernel_rfl) (((at_other rfl _ (at_other rfl _ (at_other rfl _ (at_same (((((hz117.put _ _).put _ _).put _ _).put _ _).put _ _) rfl _))) : Act.eval _ _ = (.bool (decide (¬ ((at_ globR l (k : Int)).kind) = ((at_ globR l (k : Int)).kind)))))).trans (dt hg128)) (by kernel_rfl) ?_
            refine V.go_off 33 (by kernel_rfl) (((at_other rfl _ (at_other rfl _ (at_other rfl _ (at_other rfl _ (at_same (((((hz117.put _ _).put _ _).put _ _).put _ _).put _ _) rfl _)))) : Act.eval _ _ = (.bool (decide (¬ ((at_ globR l (k : Int)).kind) = ((at_ globR l (k : Int)).kind)))))).trans (dt hg128)) (by kernel_rfl) ?_
            refine V.go (V.pk_t (((at_other rfl _ (at_other rfl _ (at_other rfl _ (at_other rfl _ (at_other rfl _ (at_same (((((hz117.put _ _).put _ _).put _ _).put _ _).put _ _) rfl _))))) : Act.eval _ _ = (.bool (decide (¬ ((at_ globR l (k : Int)).kind) = ((at_ globR l (k : Int)).kind)))))).trans (dt hg128)) (v := (.bool true)) evc ?_)
            refine V.go (V.mv (v := (.bool true)) (at_same (((((((((((hz117.put _ _).put _ _).put _ _).put _ _).put _ _).put _ _).put _ _).put _ _).put _ _).put _ _).put _ _) rfl _) ?_)
            refine V.go_off 40 (by kernel_rfl) (at_same ((((((((((((hz117.put _ _).put _ _).put _ _).put _ _).put _ _).put _ _).put _ _).put _ _).put _ _).put _ _).put _ _).put _ _) rfl _) (by kernel_rfl) ?_
            refine V.go_off 40 (by kernel_rfl) (at_other rfl _ (at_same ((((((((((((hz117.put _ _).put _ _).put _ _).put _ _).put _ _).put _ _).put _ _).put _ _).put _ _).put _ _).put _ _).put _ _) rfl _)) (by kernel_rfl) ?_
            refine V.go_off 40 (by kernel_rfl) (at_other rfl _ (at_other rfl _ (at_same ((((((((((((hz117.put _ _).put _ _).put _ _).put _ _).put _ _).put _ _).put _ _).put _ _).put _ _).put _ _).put _ _).put _ _) rfl _))) (by kernel_rfl) ?_
            refine V.go_off 40 (by kernel_rfl) (at_other rfl _ (at_other rfl _ (at_other rfl _ (at_same ((((((((((((hz117.put _ _).put _ _).put _ _).put _ _).put _ _).put _ _).put _ _).put _ _).put _ _).put _ _).put _ _).put _ _) rfl _)))) (by kernel_rfl) ?_
            refine V.go_off 40 (by kernel_rfl) (at_other rfl _ (at_other rfl _ (at_other rfl _ (at_other rfl _ (at_same ((((((((((((hz117.put _ _).put _ _).put _ _).put _ _).put _ _).put _ _).put _ _).put _ _).put _ _).put _ _).put _ _).put _ _) rfl _))))) (by kernel_rfl) ?_
            refine V.go (V.pk_t (at_other rfl _ (at_other rfl _ (at_other rfl _ (at_other rfl _ (at_other rfl _ (at_same ((((((((((((hz117.put _ _).put _ _).put _ _).put _ _).put _ _).put _ _).put _ _).put _ _).put _ _).put _ _).put _ _).put _ _) rfl _)))))) (v := (.bool true)) evc ?_)
            refine V.go (V.mv (v := (.bool true)) (at_same ((((((((((((((((((hz117.put _ _).put _ _).put _ _).put _ _).put _ _).put _ _).put _ _).put _ _).put _ _).put _ _).put _ _).put _ _).put _ _).put _ _).put _ _).put _ _).put _ _).put _ _) rfl _) ?_)
            refine V.go_off 47 (by kernel_rfl) (at_same (((((((((((((((((((hz117.put _ _).put _ _).put _ _).put _ _).put _ _).put _ _).put _ _).put _ _).put _ _).put _ _).put _ _).put _ _).put _ _).put _ _).put _ _).put _ _).put _ _).put _ _).put _ _) rfl _) (by kernel_rfl) ?_
            refine V.go_off 47 (by kernel_rfl) (at_other rfl _ (at_same (((((((((((((((((((hz117.put _ _).put _ _).put _ _).put _ _).put _ _).put _ _).put _ _).put _ _).put _ _).put _ _).put _ _).put _ _).put _ _).put _ _).put _ _).put _ _).put _ _).put _ _).put _ _) rfl _)) (by kernel_rfl) ?_
            refine V.go_off 47 (by kernel_rfl) (at_other rfl _ (at_other rfl _ (at_same (((((((((((((((((((hz117.put _ _).put _ _).put _ _).put _ _).put _ _).put _ _).put _ _).put _ _).put _ _).put _ _).put _ _).put _ _).put _ _).put _ _).put _ _).put _ _).put _ _).put _ _).put _ _) rfl _))) (by kernel_rfl) ?_
            refine V.go_off 47 (by kernel_rfl) (at_other rfl _ (at_other rfl _ (at_other rfl _ (at_same (((((((((((((((((((hz117.put _ _).put _ _).put _ _).put _ _).put _ _).put _ _).put _ _).put _ _).put _ _).put _ _).put _ _).put _ _).put _ _).put _ _).put _ _).put _ _).put _ _).put _ _).put _ _) rfl _)))) (by kernel_rfl) ?_
            refine V.go_off 47 (by kernel_rfl) (at_other rfl _ (at_other rfl _ (at_other rfl _ (at_other rfl _ (at_same (((((((((((((((((((hz117.put _ _).put _ _).put _ _).put _ _).put _ _).put _ _).put _ _).put _ _).put _ _).put _ _).put _ _).put _ _).put _ _).put _ _).put _ _).put _ _).put _ _).put _ _).put _ _) rfl _))))) (by kernel_rfl) ?_
            refine V.flushL (((((((((((((((((((((((((hz117.put _ _).put _ _).put _ _).put _ _).put _ _).put _ _).put _ _).put _ _).put _ _).put _ _).put _ _).put _ _).put _ _).put _ _).put _ _).put _ _).put _ _).put _ _).put _ _).put _ _).put _ _).put _ _).put _ _).put _ _).put _ _) (fun a129 hz130 up131 => ?_)
            have s0_132 : a129.eval (.tmp 0) = (.slice A0 l.length c0) := up131 _ _ (at_other rfl _ (at_other rfl _ (at_other rfl _ (at_other rfl _ (at_other rfl _ (at_other rfl _ (at_other rfl _ (at_other rfl _ (at_other rfl _ (at_other rfl _ (at_other rfl _ (at_other rfl _ (at_other rfl _ (at_other rfl _ (at_other rfl _ (at_other rfl _ (at_other rfl _ (at_other rfl _ (at_other rfl _ (at_other rfl _ (at_other rfl _ (at_other rfl _ (at_other rfl _ (at_other rfl _ (at_other rfl _ (s0_119))))))))))))))))))))))))))
            have s1_133 : a129.eval (.tmp 1) = (.slice A1 l.length c1) := up131 _ _ (at_other rfl _ (at_other rfl _ (at_other rfl _ (at_other rfl _ (at_other rfl _ (at_other rfl _ (at_other rfl _ (at_other rfl _ (at_other rfl _ (at_other rfl _ (at_other rfl _ (at_other rfl _ (at_other rfl _ (at_other rfl _ (at_other rfl _ (at_other rfl _ (at_other rfl _ (at_other rfl _ (at_other rfl _ (at_other rfl _ (at_other rfl _ (at_other rfl _ (at_other rfl _ (at_other rfl _ (at_other rfl _ (s1_120))))))))))))))))))))))))))
            have s5_134 : a129.eval (.tmp 5) = (.int .i64 (k : Int)) := up131 _ _ (at_other rfl _ (at_other rfl _ (at_other rfl _ (at_other rfl _ (at_other rfl _ (at_other rfl _ (at_other rfl _ (at_other rfl _ (at_other rfl _ (at_other rfl _ (at_other rfl _ (at_other rfl _ (at_other rfl _ (at_other rfl _ (at_other rfl _ (at_other rfl _ (at_other rfl _ (at_other rfl _ (at_other rfl _ (at_other rfl _ (at_other rfl _ (at_other rfl _ (at_other rfl _ (at_other rfl _ (at_other rfl _ (s5_121))))))))))))))))))))))))))
            have s6_135 : a129.eval (.tmp 6) = (.pointer (some ⟨b71, 0, none⟩)) := up131 _ _ (at_other rfl _ (at_other rfl _ (at_other rfl _ (at_other rfl _ (at_other rfl _ (at_other rfl _ (at_other rfl _ (at_other rfl _ (at_other rfl _ (at_other rfl _ (at_other rfl _ (at_other rfl _ (at_other rfl _ (at_other rfl _ (at_other rfl _ (at_other rfl _ (at_other rfl _ (at_other rfl _ (at_other rfl _ (at_other rfl _ (at_other rfl _ (at_other rfl _ (at_other rfl _ (at_other rfl _ (at_other rfl _ (s6_122))))))))))))))))))))))))))
            have s7_136 : a129.eval (.tmp 7) = (.pointer (some ⟨b82, 0, none⟩)) := up131 _ _ (at_other rfl _ (at_other rfl _ (at_other rfl _ (at_other rfl _ (at_other rfl _ (at_other rfl _ (at_other rfl _ (at_other rfl _ (at_other rfl _ (at_other rfl _ (at_other rfl _ (at_other rfl _ (at_other rfl _ (at_other rfl _ (at_other rfl _ (at_other rfl _ (at_other rfl _ (at_other rfl _ (at_other rfl _ (at_other rfl _ (at_other rfl _ (at_other rfl _ (at_other rfl _ (at_other rfl _ (at_other rfl _ (s7_123))))))))))))))))))))))))))
            have s47_137 : a129.eval (.tmp 47) = (.bool true) := up131 _ _ (at_other rfl _ (at_other rfl _ (at_other rfl _ (at_other rfl _ (at_other rfl _ (at_same (((((((((((((((((((hz117.put _ _).put _ _).put _ _).put _ _).put _ _).put _ _).put _ _).put _ _).put _ _).put _ _).put _ _).put _ _).put _ _).put _ _).put _ _).put _ _).put _ _).put _ _).put _ _) rfl _))))))
            have s50_138 : a129.eval (.tmp 50) = (undef) := up131 _ _ (at_other rfl _ (at_other rfl _ (at_same ((((((((((((((((((((((hz117.put _ _).put _ _).put _ _).put _ _).put _ _).put _ _).put _ _).put _ _).put _ _).put _ _).put _ _).put _ _).put _ _).put _ _).put _ _).put _ _).put _ _).put _ _).put _ _).put _ _).put _ _).put _ _) rfl _)))
            have s52_139 : a129.eval (.tmp 52) = (undef) := up131 _ _ (at_same ((((((((((((((((((((((((hz117.put _ _).put _ _).put _ _).put _ _).put _ _).put _ _).put _ _).put _ _).put _ _).put _ _).put _ _).put _ _).put _ _).put _ _).put _ _).put _ _).put _ _).put _ _).put _ _).put _ _).put _ _).put _ _).put _ _).put _ _) rfl _)
            clear up131
            refine V.go_off 47 (by kernel_rfl) (s47_137) (by kernel_rfl) ?_
            refine V.go_off 47 (by kernel_rfl) (at_other rfl _ (s47_137)) (by kernel_rfl) ?_
            refine V.go (V.pk_t (at_other rfl _ (at_other rfl _ (s47_137))) (v := (.bool true)) evc ?_)
            refine V.nil ?_
            refine V.then_n (hK127 _ _ ?_)
            refine V.cond_t (at_same ((hz130.put _ _).put _ _) rfl _) ?_
            refine V.seq (fun K140 hK141 => ?_)
            refine V.region (by kernel_rfl) ?_
            refine V.go (V.asg (v := (.bool false)) evc ?_)
            refine V.nil ?_
            refine V.then_n (hK141 _ _ ?_)
            refine V.flushW ((((hz130.put _ _).put _ _).put _ _).put _ _) (fun a142 hz143 up144 => ?_)
            have s0_145 : a142.eval (.tmp 0) = (.slice A0 l.length c0) := up144 _ _ (at_other rfl _ (at_other rfl _ (at_other rfl _ (at_other rfl _ (s0_132)))))
            have s1_146 : a142.eval (.tmp 1) = (.slice A1 l.length c1) := up144 _ _ (at_other rfl _ (at_other rfl _ (at_other rfl _ (at_other rfl _ (s1_133)))))
            have s4_147 : a142.eval (.tmp 4) = (.bool false) := up144 _ _ (at_same (((hz130.put _ _).put _ _).put _ _) rfl _)
            have s5_148 : a142.eval (.tmp 5) = (.int .i64 (k : Int)) := up144 _ _ (at_other rfl _ (at_other rfl _ (at_other rfl _ (at_other rfl _ (s5_134)))))
            have s6_149 : a142.eval (.tmp 6) = (.pointer (some ⟨b71, 0, none⟩)) := up144 _ _ (at_other rfl _ (at_other rfl _ (at_other rfl _ (at_other rfl _ (s6_135)))))
            have s7_150 : a142.eval (.tmp 7) = (.pointer (some ⟨b82, 0, none⟩)) := up144 _ _ (at_other rfl _ (at_other rfl _ (at_other rfl _ (at_other rfl _ (s7_136)))))
            clear up144
            refine V.ret ?_
            refine V.then_r ?_
            refine V.blk_r ?_
            refine V.then_r ?_
            refine V.then_r ?_
            refine V.blk_r ?_
            refine V.then_r ?_
            refine V.ret1 hz143 rfl (s4_147) ?_
            exact absurd rfl hg128
          ·
            refine V.go_on 33 (by kernel_rfl) (((at_same (((((hz117.put _ _).put _ _).put _ _).put _ _).put _ _) rfl _ : Act.eval _ _ = (.bool (decide (¬ ((at_ globR l (k : Int)).kind) = ((at_ globR l (k : Int)).kind)))))).trans (df hg128)) (V.pv [(6, .pointer (some ⟨b71, 0, none⟩))] ⟨(at_other rfl _ (at_other rfl _ (at_other rfl _ (at_other rfl _ (at_other rfl _ (at_other rfl _ (s6_122))))))), trivial⟩ (by kernel_rfl) (.pointer (some ⟨b71, 1, none⟩)) (by kernel_rfl) ?_)
            refine V.go_on 33 (by kernel_rfl) (((at_other rfl _ (at_same (((((hz117.put _ _).put _ _).put _ _).put _ _).put _ _) rfl _) : Act.eval _ _ = (.bool (decide (¬ ((at_ globR l (k : Int)).kind) = ((at_ globR l (k : Int)).kind)))))).trans (df hg128)) (V.ld ⟨b71, 1, none⟩ (.int .u8 ((at_ globR l (k : Int)).c)) (at_same ((((((hz117.put _ _).put _ _).put _ _).put _ _).put _ _).put _ _) rfl _) (by kernel_rfl) (hB95_115.at 1 rfl) ?_)
            refine V.go_on 33 (by kernel_rfl) (((at_other rfl _ (at_other rfl _ (at_same (((((hz117.put _ _).put _ _).put _ _).put _ _).put _ _) rfl _)) : Act.eval _ _ = (.bool (decide (¬ ((at_ globR l (k : Int)).kind) = ((at_ globR l (k : Int)).kind)))))).trans (df hg128)) (V.pv [(7, .pointer (some ⟨b82, 0, none⟩))] ⟨(at_other rfl _ (at_other rfl _ (at_other rfl _ (at_other rfl _ (at_other rfl _ (at_other rfl _ (at_other rfl _ (at_other rfl _ (s7_123))))))))), trivial⟩ (by kernel_rfl) (.pointer (some ⟨b82, 1, none⟩)) (by kernel_rfl) ?_)
            refine V.go_on 33 (by kernel_rfl) (((at_other rfl _ (at_other rfl _ (at_other rfl _ (at_same (((((hz117.put _ _).put _ _).put _ _).put _ _).put _ _) rfl _))) : Act.eval _ _ = (.bool (decide (¬ ((at_ globR l (k : Int)).kind) = ((at_ globR l (k : Int)).kind)))))).trans (df hg128)) (V.ld ⟨b82, 1, none⟩ (.int .u8 ((at_ globR l (k : Int)).c)) (at_same ((((((((hz117.put _ _).put _ _).put _ _).put _ _).put _ _).put _ _).put _ _).put _ _) rfl _) (by kernel_rfl) (hB106.at 1 rfl) ?_)
            refine V.go_on 33 (by kernel_rfl) (((at_other rfl _ (at_other rfl _ (at_other rfl _ (at_other rfl _ (at_same (((((hz117.put _ _).put _ _).put _ _).put _ _).put _ _) rfl _)))) : Act.eval _ _ = (.bool (decide (¬ ((at_ globR l (k : Int)).kind) = ((at_ globR l (k : Int)).kind)))))).trans (df hg128)) (V.pvw [(35, .int .u8 ((at_ globR l (k : Int)).c)), (37, .int .u8 ((at_ globR l (k : Int)).c))] ⟨(at_other rfl _ (at_other rfl _ (at_same (((((((hz117.put _ _).put _ _).put _ _).put _ _).put _ _).put _ _).put _ _) rfl _))), (at_same (((((((((hz117.put _ _).put _ _).put _ _).put _ _).put _ _).put _ _).put _ _).put _ _).put _ _) rfl _), trivial⟩ (by kernel_rfl) (.bool (((at_ globR l (k : Int)).c) != ((at_ globR l (k : Int)).c))) (.bool (decide (¬ ((at_ globR l (k : Int)).c) = ((at_ globR l (k : Int)).c)))) (by kernel_rfl) V.t_neq ?_)
            refine V.go (V.pk_f (((at_other rfl _ (at_other rfl _ (at_other rfl _ (at_other rfl _ (at_other rfl _ (at_same (((((hz117.put _ _).put _ _).put _ _).put _ _).put _ _) rfl _))))) : Act.eval _ _ = (.bool (decide (¬ ((at_ globR l (k : Int)).kind) = ((at_ globR l (k : Int)).kind)))))).trans (df hg128)) (v := (.bool (decide (¬ ((at_ globR l (k : Int)).c) = ((at_ globR l (k : Int)).c))))) (at_same ((((((((((hz117.put _ _).put _ _).put _ _).put _ _).put _ _).put _ _).put _ _).put _ _).put _ _).put _ _) rfl _) ?_)
            refine V.go (V.mv (v := (.bool (decide (¬ ((at_ globR l (k : Int)).c) = ((at_ globR l (k : Int)).c))))) (at_same (((((((((((hz117.put _ _).put _ _).put _ _).put _ _).put _ _).put _ _).put _ _).put _ _).put _ _).put _ _).put _ _) rfl _) ?_)
            by_cases hg151 : ¬ ((at_ globR l (k : Int)).c) = ((at_ globR l (k : Int)).c)
            ·
              refine V.go_off 40 (by kernel_rfl) (((at_same ((((((((((((hz117.put _ _).put _ _).put _ _).put _ _).put _ _).put _ _).put _ _).put _ _).put _ _).put _ _).put _ _).put _ _) rfl _ : Act.eval _ _ = (.bool (decide (¬ ((at_ globR l (k : Int)).c) = ((at_ globR l (k : Int)).c)))))).trans (dt hg151)) (by kernel_rfl) ?_
              refine V.go_off 40 (by kernel_rfl) (((at_other rfl _ (at_same ((((((((((((hz117.put _ _).put _ _).put _ _).put _ _).put _ _).put _ _).put _ _).put _ _).put _ _).put _ _).put _ _).put _ _) rfl _) : Act.eval _ _ = (.bool (decide (¬ ((at_ globR l (k : Int)).c) = ((at_ globR l (k : Int)).c)))))).trans (dt hg151)) (by kernel_rfl) ?_
              refine V.go_off 40 (by kernel_rfl) (((at_other rfl _ (at_other rfl _ (at_same ((((((((((((hz117.put _ _).put _ _).put _ _).put _ _).put _ _).put _ _).put _ _).put _ _).put _ _).put _ _).put _ _).put _ _) rfl _)) : Act.eval _ _ = (.bool (decide (¬ ((at_ globR l (k : Int)).c) = ((at_ globR l (k : Int)).c)))))).trans (dt hg151)) (by kernel_rfl) ?_
              refine V.go_off 40 (by kernel_rfl) (((at_other rfl _ (at_other rfl _ (at_other rfl _ (at_same ((((((((((((hz117.put _ _).put _ _).put _ _).put _ _).put _ _).put _ _).put _ _).put _ _).put _ _).put _ _).put _ _).put _ _) rfl _))) : Act.eval _ _ = (.bool (decide (¬ ((at_ globR l (k : Int)).c) = ((at_ globR l (k : Int)).c)))))).trans (dt hg151)) (by kernel_rfl) ?_
              refine V.go_off 40 (by kernel_rfl) (((at_other rfl _ (at_other rfl _ (at_other rfl _ (at_other rfl _ (at_same ((((((((((((hz117.put _ _).put _ _).put _ _).put _ _).put _ _).put _ _).put _ _).put _ _).put _ _).put _ _).put _ _).put _ _) rfl _)))) : Act.eval _ _ = (.bool (decide (¬ ((at_ globR l (k : Int)).c) = ((at_ globR l (k : Int)).c)))))).trans (dt hg151)) (by kernel_rfl) ?_
              refine V.go (V.pk_t (((at_other rfl _ (at_other rfl _ (at_other rfl _ (at_other rfl _ (at_other rfl _ (at_same ((((((((((((hz117.put _ _).put _ _).put _ _).put _ _).put _ _).put _ _).put _ _).put _ _).put _ _).put _ _).put _ _).put _ _) rfl _))))) : Act.eval _ _ = (.bool (decide (¬ ((at_ globR l (k : Int)).c) = ((at_ globR l (k : Int)).c)))))).trans (dt hg151)) (v := (.bool true)) evc ?_)
              refine V.go (V.mv (v := (.bool true)) (at_same ((((((((((((((((((hz117.put _ _).put _ _).put _ _).put _ _).put _ _).put _ _).put _ _).put _ _).put _ _).put _ _).put _ _).put _ _).put _ _).put _ _).put _ _).put _ _).put _ _).put _ _) rfl _) ?_)
              refine V.go_off 47 (by kernel_rfl) (at_same (((((((((((((((((((hz117.put _ _).put _ _).put _ _).put _ _).put _ _).put _ _).put _ _).put _ _).put _ _).put _ _).put _ _).put _ _).put _ _).put _ _).put _ _).put _ _).put _ _).put _ _).put _ _) rfl _) (by kernel_rfl) ?_
              refine V.go_off 47 (by kernel_rfl) (at_other rfl _ (at_same (((((((((((((((((((hz117.put _ _).put _ _).put _ _).put _ _).put _ _).put _ _).put _ _).put _ _).put _ _).put _ _).put _ _).put _ _).put _ _).put _ _).put _ _).put _ _).put _ _).put _ _).put _ _) rfl _)) (by kernel_rfl) ?_
              refine V.go_off 47 (by kernel_rfl) (at_other rfl _ (at_other rfl _ (at_same (((((((((((((((((((hz117.put _ _).put _ _).put _ _).put _ _).put _ _).put _ _).put _ _).put _ _).put _ _).put _ _).put _ _).put _ _).put _ _).put _ _).put _ _).put _ _).put _ _).put _ _).put _ _) rfl _))) (by kernel_rfl) ?_
              refine V.go_off 47 (by kernel_rfl) (at_other rfl _ (at_other rfl _ (at_other rfl _ (at_same (((((((((((((((((((hz117.put _ _).put _ _).put _ _).put _ _).put _ _).put _ _).put _ _).put _ _).put _ _).put _ _).put _ _).put _ _).put _ _).put _ _).put _ _).put _ _).put _ _).put _ _).put _ _) rfl _)))) (by kernel_rfl) ?_
              refine V.go_off 47 (by kernel_rfl) (at_other rfl _ (at_other rfl _ (at_other rfl _ (at_other rfl _ (at_same (((((((((((((((((((hz117.put _ _).put _ _).put _ _).put _ _).put _ _).put _ _).put _ _).put _ _).put _ _).put _ _).put _ _).put _ _).put _ _).put _ _).put _ _).put _ _).put _ _).put _ _).put _ _) rfl _))))) (by kernel_rfl) ?_
              refine V.flushL (((((((((((((((((((((((((hz117.put _ _).put _ _).put _ _).put _ _).put _ _).put _ _).put _ _).put _ _).put _ _).put _ _).put _ _).put _ _).put _ _).put _ _).put _ _).put _ _).put _ _).put _ _).put _ _).put _ _).put _ _).put _ _).put _ _).put _ _).put _ _) (fun a152 hz153 up154 => ?_)
              have s0_155 : a152.eval (.tmp 0) = (.slice A0 l.length c0) := up154 _ _ (at_other rfl _ (at_other rfl _ (at_other rfl _ (at_other rfl _ (at_other rfl _ (at_other rfl _ (at_other rfl _ (at_other rfl _ (at_other rfl _ (at_other rfl _ (at_other rfl _ (at_other rfl _ (at_other rfl _ (at_other rfl _ (at_other rfl _ (at_other rfl _ (at_other rfl _ (at_other rfl _ (at_other rfl _ (at_other rfl _ (at_other rfl _ (at_other rfl _ (at_other rfl _ (at_other rfl _ (at_other rfl _ (s0_119))))))))))))))))))))))))))
              have s1_156 : a152.eval (.tmp 1) = (.slice A1 l.length c1) := up154 _ _ (at_other rfl _ (at_other rfl _ (at_other rfl _ (at_other rfl _ (at_other rfl _ (at_other rfl _ (at_other rfl _ (at_other rfl _ (at_other rfl _ (at_other rfl _ (at_other rfl _ (at_other rfl _ (at_other rfl _ (at_other rfl _ (at_other rfl _ (at_other rfl _ (at_other rfl _ (at_other rfl _ (at_other rfl _ (at_other rfl _ (at_other rfl _ (at_other rfl _ (at_other rfl _ (at_other rfl _ (at_other rfl _ (s1_120))))))))))))))))))))))))))
              have s5_157 : a152.eval (.tmp 5) = (.int .i64 (k : Int)) := up154 _ _ (at_other rfl _ (at_other rfl _ (at_other rfl _ (at_other rfl _ (at_other rfl _ (at_other rfl _ (at_other rfl _ (at_other rfl _ (at_other rfl _ (at_other rfl _ (at_other rfl _ (at_other rfl _ (at_other rfl _ (at_other rfl _ (at_other rfl _ (at_other rfl _ (at_other rfl _ (at_other rfl _ (at_other rfl _ (at_other rfl _ (at_other rfl _ (at_other rfl _ (at_other rfl _ (at_other rfl _ (at_other rfl _ (s5_121))))))))))))))))))))))))))
              have s6_158 : a152.eval (.tmp 6) = (.pointer (some ⟨b71, 0, none⟩)) := up154 _ _ (at_other rfl _ (at_other rfl _ (at_other rfl _ (at_other rfl _ (at_other rfl _ (at_other rfl _ (at_other rfl _ (at_other rfl _ (at_other rfl _ (at_other rfl _ (at_other rfl _ (at_other rfl _ (at_other rfl _ (at_other rfl _ (at_other rfl _ (at_other rfl _ (at_other rfl _ (at_other rfl _ (at_other rfl _ (at_other rfl _ (at_other rfl _ (at_other rfl _ (at_other rfl _ (at_other rfl _ (at_other rfl _ (s6_122))))))))))))))))))))))))))
              have s7_159 : a152.eval (.tmp 7) = (.pointer (some ⟨b82, 0, none⟩)) := up154 _ _ (at_other rfl _ (at_other rfl _ (at_other rfl _ (at_other rfl _ (at_other rfl _ (at_other rfl _ (at_other rfl _ (at_other rfl _ (at_other rfl _ (at_other rfl _ (at_other rfl _ (at_other rfl _ (at_other rfl _ (at_other rfl _ (at_other rfl _ (at_other rfl _ (at_other rfl _ (at_other rfl _ (at_other rfl _ (at_other rfl _ (at_other rfl _ (at_other rfl _ (at_other rfl _ (at_other rfl _ (at_other rfl _ (s7_123))))))))))))))))))))))))))
              have s47_160 : a152.eval (.tmp 47) = (.bool true) := up154 _ _ (at_other rfl _ (at_other rfl _ (at_other rfl _ (at_other rfl _ (at_other rfl _ (at_same (((((((((((((((((((hz117.put _ _).put _ _).put _ _).put _ _).put _ _).put _ _).put _ _).put _ _).put _ _).put _ _).put _ _).put _ _).put _ _).put _ _).put _ _).put _ _).put _ _).put _ _).put _ _) rfl _))))))
              have s50_161 : a152.eval (.tmp 50) = (undef) := up154 _ _ (at_other rfl _ (at_other rfl _ (at_same ((((((((((((((((((((((hz117.put _ _).put _ _).put _ _).put _ _).put _ _).put _ _).put _ _).put _ _).put _ _).put _ _).put _ _).put _ _).put _ _).put _ _).put _ _).put _ _).put _ _).put _ _).put _ _).put _ _).put _ _).put _ _) rfl _)))
              have s52_162 : a152.eval (.tmp 52) = (undef) := up154 _ _ (at_same ((((((((((((((((((((((((hz117.put _ _).put _ _).put _ _).put _ _).put _ _).put _ _).put _ _).put _ _).put _ _).put _ _).put _ _).put _ _).put _ _).put _ _).put _ _).put _ _).put _ _).put _ _).put _ _).put _ _).put _ _).put _ _).put _ _).put _ _) rfl _)
              clear up154
              refine V.go_off 47 (by kernel_rfl) (s47_160) (by kernel_rfl) ?_
              refine V.go_off 47 (by kernel_rfl) (at_other rfl _ (s47_160)) (by kernel_rfl) ?_
              refine V.go (V.pk_t (at_other rfl _ (at_other rfl _ (s47_160))) (v := (.bool true)) evc ?_)
              refine V.nil ?_
              refine V.then_n (hK127 _ _ ?_)
              refine V.cond_t (at_same ((hz153.put _ _).put _ _) rfl _) ?_
              refine V.seq (fun K163 hK164 => ?_)
              refine V.region (by kernel_rfl) ?_
              refine V.go (V.asg (v := (.bool false)) evc ?_)
              refine V.nil ?_
              refine V.then_n (hK164 _ _ ?_)
              refine V.flushW ((((hz153.put _ _).put _ _).put _ _).put _ _) (fun a165 hz166 up167 => ?_)
              have s0_168 : a165.eval (.tmp 0) = (.slice A0 l.length c0) := up167 _ _ (at_other rfl _ (at_other rfl _ (at_other rfl _ (at_other rfl _ (s0_155)))))
              have s1_169 : a165.eval (.tmp 1) = (.slice A1 l.length c1) := up167 _ _ (at_other rfl _ (at_other rfl _ (at_other rfl _ (at_other rfl _ (s1_156)))))
              have s4_170 : a165.eval (.tmp 4) = (.bool false) := up167 _ _ (at_same (((hz153.put _ _).put _ _).put _ _) rfl _)
              have s5_171 : a165.eval (.tmp 5) = (.int .i64 (k : Int)) := up167 _ _ (at_other rfl _ (at_other rfl _ (at_other rfl _ (at_other rfl _ (s5_157)))))
              have s6_172 : a165.eval (.tmp 6) = (.pointer (some ⟨b71, 0, none⟩)) := up167 _ _ (at_other rfl _ (at_other rfl _ (at_other rfl _ (at_other rfl _ (s6_158)))))
              have s7_173 : a165.eval (.tmp 7) = (.pointer (some ⟨b82, 0, none⟩)) := up167 _ _ (at_other rfl _ (at_other rfl _ (at_other rfl _ (at_other rfl _ (s7_159)))))
              clear up167
              refine V.ret ?_
              refine V.then_r ?_
              refine V.blk_r ?_
              refine V.then_r ?_
              refine V.then_r ?_
              refine V.blk_r ?_
              refine V.then_r ?_
              refine V.ret1 hz166 rfl (s4_170) ?_
              exact absurd rfl hg151
            ·
              refine V.go_on 40 (by kernel_rfl) (((at_same ((((((((((((hz117.put _ _).put _ _).put _ _).put _ _).put _ _).put _ _).put _ _).put _ _).put _ _).put _ _).put _ _).put _ _) rfl _ : Act.eval _ _ = (.bool (decide (¬ ((at_ globR l (k : Int)).c) = ((at_ globR l (k : Int)).c)))))).trans (df hg151)) (V.pv [(6, .pointer (some ⟨b71, 0, none⟩))] ⟨(at_other rfl _ (at_other rfl _ (at_other rfl _ (at_other rfl _ (at_other rfl _ (at_other rfl _ (at_other rfl _ (at_other rfl _ (at_other rfl _ (at_other rfl _ (at_other rfl _ (at_other rfl _ (at_other rfl _ (s6_122)))))))))))))), trivial⟩ (by kernel_rfl) (.pointer (some ⟨b71, 2, none⟩)) (by kernel_rfl) ?_)
              refine V.go_on 40 (by kernel_rfl) (((at_other rfl _ (at_same ((((((((((((hz117.put _ _).put _ _).put _ _).put _ _).put _ _).put _ _).put _ _).put _ _).put _ _).put _ _).put _ _).put _ _) rfl _) : Act.eval _ _ = (.bool (decide (¬ ((at_ globR l (k : Int)).c) = ((at_ globR l (k : Int)).c)))))).trans (df hg151)) (V.ld ⟨b71, 2, none⟩ (.bool ((at_ globR l (k : Int)).neg)) (at_same (((((((((((((hz117.put _ _).put _ _).put _ _).put _ _).put _ _).put _ _).put _ _).put _ _).put _ _).put _ _).put _ _).put _ _).put _ _) rfl _) (by kernel_rfl) (hB95_115.at 2 rfl) ?_)
              refine V.go_on 40 (by kernel_rfl) (((at_other rfl _ (at_other rfl _ (at_same ((((((((((((hz117.put _ _).put _ _).put _ _).put _ _).put _ _).put _ _).put _ _).put _ _).put _ _).put _ _).put _ _).put _ _) rfl _)) : Act.eval _ _ = (.bool (decide (¬ ((at_ globR l (k : Int)).c) = ((at_ globR l (k : Int)).c)))))).trans (df hg151)) (V.pv [(7, .pointer (some ⟨b82, 0, none⟩))] ⟨(at_other rfl _ (at_other rfl _ (at_other rfl _ (at_other rfl _ (at_other rfl _ (at_other rfl _ (at_other rfl _ (at_other rfl _ (at_other rfl _ (at_other rfl _ (at_other rfl _ (at_other rfl _ (at_other rfl _ (at_other rfl _ (at_other rfl _ (s7_123)))))))))))))))), trivial⟩ (by kernel_rfl) (.pointer (some ⟨b82, 2, none⟩)) (by kernel_rfl) ?_)
              refine V.go_on 40 (by kernel_rfl) (((at_other rfl _ (at_other rfl _ (at_other rfl _ (at_same ((((((((((((hz117.put _ _).put _ _).put _ _).put _ _).put _ _).put _ _).put _ _).put _ _).put _ _).put _ _).put _ _).put _ _) rfl _))) : Act.eval _ _ = (.bool (decide (¬ ((at_ globR l (k : Int)).c) = ((at_ globR l (k : Int)).c)))))).trans (df hg151)) (V.ld ⟨b82, 2, none⟩ (.bool ((at_ globR l (k : Int)).neg)) (at_same (((((((((((((((hz117.put _ _).put _ _).put _ _).put _ _).put _ _).put _ _).put _ _).put _ _).put _ _).put _ _).put _ _).put _ _).put _ _).put _ _).put _ _) rfl _) (by kernel_rfl) (hB106.at 2 rfl) ?_)
              refine V.go_on 40 (by kernel_rfl) (((at_other rfl _ (at_other rfl _ (at_other rfl _ (at_other rfl _ (at_same ((((((((((((hz117.put _ _).put _ _).put _ _).put _ _).put _ _).put _ _).put _ _).put _ _).put _ _).put _ _).put _ _).put _ _) rfl _)))) : Act.eval _ _ = (.bool (decide (¬ ((at_ globR l (k : Int)).c) = ((at_ globR l (k : Int)).c)))))).trans (df hg151)) (V.pvw [(42, .bool ((at_ globR l (k : Int)).neg)), (44, .bool ((at_ globR l (k : Int)).neg))] ⟨(at_other rfl _ (at_other rfl _ (at_same ((((((((((((((hz117.put _ _).put _ _).put _ _).put _ _).put _ _).put _ _).put _ _).put _ _).put _ _).put _ _).put _ _).put _ _).put _ _).put _ _) rfl _))), (at_same ((((((((((((((((hz117.put _ _).put _ _).put _ _).put _ _).put _ _).put _ _).put _ _).put _ _).put _ _).put _ _).put _ _).put _ _).put _ _).put _ _).put _ _).put _ _) rfl _), trivial⟩ (by kernel_rfl) (.bool (!(((at_ globR l (k : Int)).neg) == ((at_ globR l (k : Int)).neg)))) (.bool (decide (¬ ((at_ globR l (k : Int)).neg) = ((at_ globR l (k : Int)).neg)))) (by kernel_rfl) V.t_bneq ?_)
              refine V.go (V.pk_f (((at_other rfl _ (at_other rfl _ (at_other rfl _ (at_other rfl _ (at_other rfl _ (at_same ((((((((((((hz117.put _ _).put _ _).put _ _).put _ _).put _ _).put _ _).put _ _).put _ _).put _ _).put _ _).put _ _).put _ _) rfl _))))) : Act.eval _ _ = (.bool (decide (¬ ((at_ globR l (k : Int)).c) = ((at_ globR l (k : Int)).c)))))).trans (df hg151)) (v := (.bool (decide (¬ ((at_ globR l (k : Int)).neg) = ((at_ globR l (k : Int)).neg))))) (at_same (((((((((((((((((hz117.put _ _).put _ _).put _ _).put _ _).put _ _).put _ _).put _ _).put _ _).put _ _).put _ _).put _ _).put _ _).put _ _).put _ _).put _ _).put _ _).put _ _) rfl _) ?_)
              refine V.go (V.mv (v := (.bool (decide (¬ ((at_ globR l (k : Int)).neg) = ((at_ globR l (k : Int)).neg))))) (at_same ((((((((((((((((((hz117.put _ _).put _ _).put _ _).put _ _).put _ _).put _ _).put _ _).put _ _).put _ _).put _ _).put _ _).put _ _).put _ _).put _ _).put _ _).put _ _).put _ _).put _ _) rfl _) ?_)
              by_cases hg174 : ¬ ((at_ globR l (k : Int)).neg) = ((at_ globR l (k : Int)).neg)
              ·
                refine V.go_off 47 (by kernel_rfl) (((at_same (((((((((((((((((((hz117.put _ _).put _ _).put _ _).put _ _).put _ _).put _ _).put _ _).put _ _).put _ _).put _ _).put _ _).put _ _).put _ _).put _ _).put _ _).put _ _).put _ _).put _ _).put _ _) rfl _ : Act.eval _ _ = (.bool (decide (¬ ((at_ globR l (k : Int)).neg) = ((at_ globR l (k : Int)).neg)))))).trans (dt hg174)) (by kernel_rfl) ?_
                refine V.go_off 47 (by kernel_rfl) (((at_other rfl _ (at_same (((((((((((((((((((hz117.put _ _).put _ _).put _ _).put _ _).put _ _).put _ _).put _ _).put _ _).put _ _).put _ _).put _ _).put _ _).put _ _).put _ _).put _ _).put _ _).put _ _).put _ _).put _ _) rfl _) : Act.eval _ _ = (.bool (decide (¬ ((at_ globR l (k : Int)).neg) = ((at_ globR l (k : Int)).neg)))))).trans (dt hg174)) (by kernel_rfl) ?_
                refine V.go_off 47 (by kernel_rfl) (((at_other rfl _ (at_other rfl _ (at_same (((((((((((((((((((hz117.put _ _).put _ _).put _ _).put _ _).put _ _).put _ _).put _ _).put _ _).put _ _).put _ _).put _ _).put _ _).put _ _).put _ _).put _ _).put _ _).put _ _).put _ _).put _ _) rfl _)) : Act.eval _ _ = (.bool (decide (¬ ((at_ globR l (k : Int)).neg) = ((at_ globR l (k : Int)).neg)))))).trans (dt hg174)) (by kernel_rfl) ?_
                refine V.go_off 47 (by kernel_rfl) (((at_other rfl _ (at_other rfl _ (at_other rfl _ (at_same (((((((((((((((((((hz117.put _ _).put _ _).put _ _).put _ _).put _ _).put _ _).put _ _).put _ _).put _ _).put _ _).put _ _).put _ _).put _ _).put _ _).put _ _).put _ _).put _ _).put _ _).put _ _) rfl _))) : Act.eval _ _ = (.bool (decide (¬ ((at_ globR l (k : Int)).neg) = ((at_ globR l (k : Int)).neg)))))).trans (dt hg174)) (by kernel_rfl) ?_
                refine V.go_off 47 (by kernel_rfl) (((at_other rfl _ (at_other rfl _ (at_other rfl _ (at_other rfl _ (at_same (((((((((((((((((((hz117.put _ _).put _ _).put _ _).put _ _).put _ _).put _ _).put _ _).put _ _).put _ _).put _ _).put _ _).put _ _).put _ _).put _ _).put _ _).put _ _).put _ _).put _ _).put _ _) rfl _)))) : Act.eval _ _ = (.bool (decide (¬ ((at_ globR l (k : Int)).neg) = ((at_ globR l (k : Int)).neg)))))).trans (dt hg174)) (by kernel_rfl) ?_
                refine V.flushL (((((((((((((((((((((((((hz117.put _ _).put _ _).put _ _).put _ _).put _ _).put _ _).put _ _).put _ _).put _ _).put _ _).put _ _).put _ _).put _ _).put _ _).put _ _).put _ _).put _ _).put _ _).put _ _).put _ _).put _ _).put _ _).put _ _).put _ _).put _ _) (fun a175 hz176 up177 => ?_)
                have s0_178 : a175.eval (.tmp 0) = (.slice A0 l.length c0) := up177 _ _ (at_other rfl _ (at_other rfl _ (at_other rfl _ (at_other rfl _ (at_other rfl _ (at_other rfl _ (at_other rfl _ (at_other rfl _ (at_other rfl _ (at_other rfl _ (at_other rfl _ (at_other rfl _ (at_other rfl _ (at_other rfl _ (at_other rfl _ (at_other rfl _ (at_other rfl _ (at_other rfl _ (at_other rfl _ (at_other rfl _ (at_other rfl _ (at_other rfl _ (at_other rfl _ (at_other rfl _ (at_other rfl _ (s0_119))))))))))))))))))))))))))
                have s1_179 : a175.eval (.tmp 1) = (.slice A1 l.length c1) := up177 _ _ (at_other rfl _ (at_other rfl _ (at_other rfl _ (at_other rfl _ (at_other rfl _ (at_other rfl _ (at_other rfl _ (at_other rfl _ (at_other rfl _ (at_other rfl _ (at_other rfl _ (at_other rfl _ (at_other rfl _ (at_other rfl _ (at_other rfl _ (at_other rfl _ (at_other rfl _ (at_other rfl _ (at_other rfl _ (at_other rfl _ (at_other rfl _ (at_other rfl _ (at_other rfl _ (at_other rfl _ (at_other rfl _ (s1_120))))))))))))))))))))))))))
                have s5_180 : a175.eval (.tmp 5) = (.int .i64 (k : Int)) := up177 _ _ (at_other rfl _ (at_other rfl _ (at_other rfl _ (at_other rfl _ (at_other rfl _ (at_other rfl _ (at_other rfl _ (at_other rfl _ (at_other rfl _ (at_other rfl _ (at_other rfl _ (at_other rfl _ (at_other rfl _ (at_other rfl _ (at_other rfl _ (at_other rfl _ (at_other rfl _ (at_other rfl _ (at_other rfl _ (at_other rfl _ (at_other rfl _ (at_other rfl _ (at_other rfl _ (at_other rfl _ (at_other rfl _ (s5_121))))))))))))))))))))))))))
                have s6_181 : a175.eval (.tmp 6) = (.pointer (some ⟨b71, 0, none⟩)) := up177 _ _ (at_other rfl _ (at_other rfl _ (at_other rfl _ (at_other rfl _ (at_other rfl _ (at_other rfl _ (at_other rfl _ (at_other rfl _ (at_other rfl _ (at_other rfl _ (at_other rfl _ (at_other rfl _ (at_other rfl _ (at_other rfl _ (at_other rfl _ (at_other rfl _ (at_other rfl _ (at_other rfl _ (at_other rfl _ (at_other rfl _ (at_other rfl _ (at_other rfl _ (at_other rfl _ (at_other rfl _ (at_other rfl _ (s6_122))))))))))))))))))))))))))
                have s7_182 : a175.eval (.tmp 7) = (.pointer (some ⟨b82, 0, none⟩)) := up177 _ _ (at_other rfl _ (at_other rfl _ (at_other rfl _ (at_other rfl _ (at_other rfl _ (at_other rfl _ (at_other rfl _ (at_other rfl _ (at_other rfl _ (at_other rfl _ (at_other rfl _ (at_other rfl _ (at_other rfl _ (at_other rfl _ (at_other rfl _ (at_other rfl _ (at_other rfl _ (at_other rfl _ (at_other rfl _ (at_other rfl _ (at_other rfl _ (at_other rfl _ (at_other rfl _ (at_other rfl _ (at_other rfl _ (s7_123))))))))))))))))))))))))))
                have s47_183 : a175.eval (.tmp 47) = (.bool (decide (¬ ((at_ globR l (k : Int)).neg) = ((at_ globR l (k : Int)).neg)))) := up177 _ _ (at_other rfl _ (at_other rfl _ (at_other rfl _ (at_other rfl _ (at_other rfl _ (at_same (((((((((((((((((((hz117.put _ _).put _ _).put _ _).put _ _).put _ _).put _ _).put _ _).put _ _).put _ _).put _ _).put _ _).put _ _).put _ _).put _ _).put _ _).put _ _).put _ _).put _ _).put _ _) rfl _))))))
                have s50_184 : a175.eval (.tmp 50) = (undef) := up177 _ _ (at_other rfl _ (at_other rfl _ (at_same ((((((((((((((((((((((hz117.put _ _).put _ _).put _ _).put _ _).put _ _).put _ _).put _ _).put _ _).put _ _).put _ _).put _ _).put _ _).put _ _).put _ _).put _ _).put _ _).put _ _).put _ _).put _ _).put _ _).put _ _).put _ _) rfl _)))
                have s52_185 : a175.eval (.tmp 52) = (undef) := up177 _ _ (at_same ((((((((((((((((((((((((hz117.put _ _).put _ _).put _ _).put _ _).put _ _).put _ _).put _ _).put _ _).put _ _).put _ _).put _ _).put _ _).put _ _).put _ _).put _ _).put _ _).put _ _).put _ _).put _ _).put _ _).put _ _).put _ _).put _ _).put _ _) rfl _)
                clear up177
                refine V.go_off 47 (by kernel_rfl) ((s47_183).trans (dt hg174)) (by kernel_rfl) ?_
                refine V.go_off 47 (by kernel_rfl) (((at_other rfl _ (s47_183) : Act.eval _ _ = (.bool (decide (¬ ((at_ globR l (k : Int)).neg) = ((at_ globR l (k : Int)).neg)))))).trans (dt hg174)) (by kernel_rfl) ?_
                refine V.go (V.pk_t (((at_other rfl _ (at_other rfl _ (s47_183)) : Act.eval _ _ = (.bool (decide (¬ ((at_ globR l (k : Int)).neg) = ((at_ globR l (k : Int)).neg)))))).trans (dt hg174)) (v := (.bool true)) evc ?_)
                refine V.nil ?_
                refine V.then_n (hK127 _ _ ?_)
                refine V.cond_t (at_same ((hz176.put _ _).put _ _) rfl _) ?_
                refine V.seq (fun K186 hK187 => ?_)
                refine V.region (by kernel_rfl) ?_
                refine V.go (V.asg (v := (.bool false)) evc ?_)
                refine V.nil ?_
                refine V.then_n (hK187 _ _ ?_)
                refine V.flushW ((((hz176.put _ _).put _ _).put _ _).put _ _) (fun a188 hz189 up190 => ?_)
                have s0_191 : a188.eval (.tmp 0) = (.slice A0 l.length c0) := up190 _ _ (at_other rfl _ (at_other rfl _ (at_other rfl _ (at_other rfl _ (s0_178)))))
                have s1_192 : a188.eval (.tmp 1) = (.slice A1 l.length c1) := up190 _ _ (at_other rfl _ (at_other rfl _ (at_other rfl _ (at_other rfl _ (s1_179)))))
                have s4_193 : a188.eval (.tmp 4) = (.bool false) := up190 _ _ (at_same (((hz176.put _ _).put _ _).put _ _) rfl _)
                have s5_194 : a188.eval (.tmp 5) = (.int .i64 (k : Int)) := up190 _ _ (at_other rfl _ (at_other rfl _ (at_other rfl _ (at_other rfl _ (s5_180)))))
                have s6_195 : a188.eval (.tmp 6) = (.pointer (some ⟨b71, 0, none⟩)) := up190 _ _ (at_other rfl _ (at_other rfl _ (at_other rfl _ (at_other rfl _ (s6_181)))))
                have s7_196 : a188.eval (.tmp 7) = (.pointer (some ⟨b82, 0, none⟩)) := up190 _ _ (at_other rfl _ (at_other rfl _ (at_other rfl _ (at_other rfl _ (s7_182)))))
                clear up190
                refine V.ret ?_
                refine V.then_r ?_
                refine V.blk_r ?_
                refine V.then_r ?_
                refine V.then_r ?_
                refine V.blk_r ?_
                refine V.then_r ?_
                refine V.ret1 hz189 rfl (s4_193) ?_
                exact absurd rfl hg174
              ·
                refine V.go_on 47 (by kernel_rfl) (((at_same (((((((((((((((((((hz117.put _ _).put _ _).put _ _).put _ _).put _ _).put _ _).put _ _).put _ _).put _ _).put _ _).put _ _).put _ _).put _ _).put _ _).put _ _).put _ _).put _ _).put _ _).put _ _) rfl _ : Act.eval _ _ = (.bool (decide (¬ ((at_ globR l (k : Int)).neg) = ((at_ globR l (k : Int)).neg)))))).trans (df hg174)) (V.pv [(6, .pointer (some ⟨b71, 0, none⟩))] ⟨(at_other rfl _ (at_other rfl _ (at_other rfl _ (at_other rfl _ (at_other rfl _ (at_other rfl _ (at_other rfl _ (at_other rfl _ (at_other rfl _ (at_other rfl _ (at_other rfl _ (at_other rfl _ (at_other rfl _ (at_other rfl _ (at_other rfl _ (at_other rfl _ (at_other rfl _ (at_other rfl _ (at_other rfl _ (at_other rfl _ (s6_122))))))))))))))))))))), trivial⟩ (by kernel_rfl) (.pointer (some ⟨b71, 3, none⟩)) (by kernel_rfl) ?_)
                refine V.go_on 47 (by kernel_rfl) (((at_other rfl _ (at_same (((((((((((((((((((hz117.put _ _).put _ _).put _ _).put _ _).put _ _).put _ _).put _ _).put _ _).put _ _).put _ _).put _ _).put _ _).put _ _).put _ _).put _ _).put _ _).put _ _).put _ _).put _ _) rfl _) : Act.eval _ _ = (.bool (decide (¬ ((at_ globR l (k : Int)).neg) = ((at_ globR l (k : Int)).neg)))))).trans (df hg174)) (V.ld ⟨b71, 3, none⟩ (.slice A57 ((at_ globR l (k : Int)).rs.length) c58) (at_same ((((((((((((((((((((hz117.put _ _).put _ _).put _ _).put _ _).put _ _).put _ _).put _ _).put _ _).put _ _).put _ _).put _ _).put _ _).put _ _).put _ _).put _ _).put _ _).put _ _).put _ _).put _ _).put _ _) rfl _) (by kernel_rfl) (hB95_115.at 3 rfl) ?_)
                refine V.go_on 47 (by kernel_rfl) (((at_other rfl _ (at_other rfl _ (at_same (((((((((((((((((((hz117.put _ _).put _ _).put _ _).put _ _).put _ _).put _ _).put _ _).put _ _).put _ _).put _ _).put _ _).put _ _).put _ _).put _ _).put _ _).put _ _).put _ _).put _ _).put _ _) rfl _)) : Act.eval _ _ = (.bool (decide (¬ ((at_ globR l (k : Int)).neg) = ((at_ globR l (k : Int)).neg)))))).trans (df hg174)) (V.pv [(49, .slice A57 ((at_ globR l (k : Int)).rs.length) c58)] ⟨(at_same (((((((((((((((((((((hz117.put _ _).put _ _).put _ _).put _ _).put _ _).put _ _).put _ _).put _ _).put _ _).put _ _).put _ _).put _ _).put _ _).put _ _).put _ _).put _ _).put _ _).put _ _).put _ _).put _ _).put _ _) rfl _), trivial⟩ (by kernel_rfl) (.int .i64 (((at_ globR l (k : Int)).rs.length : Nat) : Int)) (by kernel_rfl) ?_)
                refine V.go_on 47 (by kernel_rfl) (((at_other rfl _ (at_other rfl _ (at_other rfl _ (at_same (((((((((((((((((((hz117.put _ _).put _ _).put _ _).put _ _).put _ _).put _ _).put _ _).put _ _).put _ _).put _ _).put _ _).put _ _).put _ _).put _ _).put _ _).put _ _).put _ _).put _ _).put _ _) rfl _))) : Act.eval _ _ = (.bool (decide (¬ ((at_ globR l (k : Int)).neg) = ((at_ globR l (k : Int)).neg)))))).trans (df hg174)) (V.pv [(7, .pointer (some ⟨b82, 0, none⟩))] ⟨(at_other rfl _ (at_other rfl _ (at_other rfl _ (at_other rfl _ (at_other rfl _ (at_other rfl _ (at_other rfl _ (at_other rfl _ (at_other rfl _ (at_other rfl _ (at_other rfl _ (at_other rfl _ (at_other rfl _ (at_other rfl _ (at_other rfl _ (at_other rfl _ (at_other rfl _ (at_other rfl _ (at_other rfl _ (at_other rfl _ (at_other rfl _ (at_other rfl _ (at_other rfl _ (s7_123)))))))))))))))))))))))), trivial⟩ (by kernel_rfl) (.pointer (some ⟨b82, 3, none⟩)) (by kernel_rfl) ?_)
                refine V.go_on 47 (by kernel_rfl) (((at_other rfl _ (at_other rfl _ (at_other rfl _ (at_other rfl _ (at_same (((((((((((((((((((hz117.put _ _).put _ _).put _ _).put _ _).put _ _).put _ _).put _ _).put _ _).put _ _).put _ _).put _ _).put _ _).put _ _).put _ _).put _ _).put _ _).put _ _).put _ _).put _ _) rfl _)))) : Act.eval _ _ = (.bool (decide (¬ ((at_ globR l (k : Int)).neg) = ((at_ globR l (k : Int)).neg)))))).trans (df hg174)) (V.ld ⟨b82, 3, none⟩ (.slice A67 ((at_ globR l (k : Int)).rs.length) c68) (at_same (((((((((((((((((((((((hz117.put _ _).put _ _).put _ _).put _ _).put _ _).put _ _).put _ _).put _ _).put _ _).put _ _).put _ _).put _ _).put _ _).put _ _).put _ _).put _ _).put _ _).put _ _).put _ _).put _ _).put _ _).put _ _).put _ _) rfl _) (by kernel_rfl) (hB106.at 3 rfl) ?_)
                refine V.flushL (((((((((((((((((((((((((hz117.put _ _).put _ _).put _ _).put _ _).put _ _).put _ _).put _ _).put _ _).put _ _).put _ _).put _ _).put _ _).put _ _).put _ _).put _ _).put _ _).put _ _).put _ _).put _ _).put _ _).put _ _).put _ _).put _ _).put _ _).put _ _) (fun a197 hz198 up199 => ?_)
                have s0_200 : a197.eval (.tmp 0) = (.slice A0 l.length c0) := up199 _ _ (at_other rfl _ (at_other rfl _ (at_other rfl _ (at_other rfl _ (at_other rfl _ (at_other rfl _ (at_other rfl _ (at_other rfl _ (at_other rfl _ (at_other rfl _ (at_other rfl _ (at_other rfl _ (at_other rfl _ (at_other rfl _ (at_other rfl _ (at_other rfl _ (at_other rfl _ (at_other rfl _ (at_other rfl _ (at_other rfl _ (at_other rfl _ (at_other rfl _ (at_other rfl _ (at_other rfl _ (at_other rfl _ (s0_119))))))))))))))))))))))))))
                have s1_201 : a197.eval (.tmp 1) = (.slice A1 l.length c1) := up199 _ _ (at_other rfl _ (at_other rfl _ (at_other rfl _ (at_other rfl _ (at_other rfl _ (at_other rfl _ (at_other rfl _ (at_other rfl _ (at_other rfl _ (at_other rfl _ (at_other rfl _ (at_other rfl _ (at_other rfl _ (at_other rfl _ (at_other rfl _ (at_other rfl _ (at_other rfl _ (at_other rfl _ (at_other rfl _ (at_other rfl _ (at_other rfl _ (at_other rfl _ (at_other rfl _ (at_other rfl _ (at_other rfl _ (s1_120))))))))))))))))))))))))))
                have s5_202 : a197.eval (.tmp 5) = (.int .i64 (k : Int)) := up199 _ _ (at_other rfl _ (at_other rfl _ (at_other rfl _ (at_other rfl _ (at_other rfl _ (at_other rfl _ (at_other rfl _ (at_other rfl _ (at_other rfl _ (at_other rfl _ (at_other rfl _ (at_other rfl _ (at_other rfl _ (at_other rfl _ (at_other rfl _ (at_other rfl _ (at_other rfl _ (at_other rfl _ (at_other rfl _ (at_other rfl _ (at_other rfl _ (at_other rfl _ (at_other rfl _ (at_other rfl _ (at_other rfl _ (s5_121))))))))))))))))))))))))))
                have s6_203 : a197.eval (.tmp 6) = (.pointer (some ⟨b71, 0, none⟩)) := up199 _ _ (at_other rfl _ (at_other rfl _ (at_other rfl _ (at_other rfl _ (at_other rfl _ (at_other rfl _ (at_other rfl _ (at_other rfl _ (at_other rfl _ (at_other rfl _ (at_other rfl _ (at_other rfl _ (at_other rfl _ (at_other rfl _ (at_other rfl _ (at_other rfl _ (at_other rfl _ (at_other rfl _ (at_other rfl _ (at_other rfl _ (at_other rfl _ (at_other rfl _ (at_other rfl _ (at_other rfl _ (at_other rfl _ (s6_122))))))))))))))))))))))))))
                have s7_204 : a197.eval (.tmp 7) = (.pointer (some ⟨b82, 0, none⟩)) := up199 _ _ (at_other rfl _ (at_other rfl _ (at_other rfl _ (at_other rfl _ (at_other rfl _ (at_other rfl _ (at_other rfl _ (at_other rfl _ (at_other rfl _ (at_other rfl _ (at_other rfl _ (at_other rfl _ (at_other rfl _ (at_other rfl _ (at_other rfl _ (at_other rfl _ (at_other rfl _ (at_other rfl _ (at_other rfl _ (at_other rfl _ (at_other rfl _ (at_other rfl _ (at_other rfl _ (at_other rfl _ (at_other rfl _ (s7_123))))))))))))))))))))))))))
                have s47_205 : a197.eval (.tmp 47) = (.bool (decide (¬ ((at_ globR l (k : Int)).neg) = ((at_ globR l (k : Int)).neg)))) := up199 _ _ (at_other rfl _ (at_other rfl _ (at_other rfl _ (at_other rfl _ (at_other rfl _ (at_same (((((((((((((((((((hz117.put _ _).put _ _).put _ _).put _ _).put _ _).put _ _).put _ _).put _ _).put _ _).put _ _).put _ _).put _ _).put _ _).put _ _).put _ _).put _ _).put _ _).put _ _).put _ _) rfl _))))))
                have s50_206 : a197.eval (.tmp 50) = (.int .i64 (((at_ globR l (k : Int)).rs.length : Nat) : Int)) := up199 _ _ (at_other rfl _ (at_other rfl _ (at_same ((((((((((((((((((((((hz117.put _ _).put _ _).put _ _).put _ _).put _ _).put _ _).put _ _).put _ _).put _ _).put _ _).put _ _).put _ _).put _ _).put _ _).put _ _).put _ _).put _ _).put _ _).put _ _).put _ _).put _ _).put _ _) rfl _)))
                have s52_207 : a197.eval (.tmp 52) = (.slice A67 ((at_ globR l (k : Int)).rs.length) c68) := up199 _ _ (at_same ((((((((((((((((((((((((hz117.put _ _).put _ _).put _ _).put _ _).put _ _).put _ _).put _ _).put _ _).put _ _).put _ _).put _ _).put _ _).put _ _).put _ _).put _ _).put _ _).put _ _).put _ _).put _ _).put _ _).put _ _).put _ _).put _ _).put _ _) rfl _)
                clear up199
                refine V.go_on 47 (by kernel_rfl) ((s47_205).trans (df hg174)) (V.pv [(52, .slice A67 ((at_ globR l (k : Int)).rs.length) c68)] ⟨(s52_207), trivial⟩ (by kernel_rfl) (.int .i64 (((at_ globR l (k : Int)).rs.length : Nat) : Int)) (by kernel_rfl) ?_)
                refine V.go_on 47 (by kernel_rfl) (((at_other rfl _ (s47_205) : Act.eval _ _ = (.bool (decide (¬ ((at_ globR l (k : Int)).neg) = ((at_ globR l (k : Int)).neg)))))).trans (df hg174)) (V.pvw [(50, .int .i64 (((at_ globR l (k : Int)).rs.length : Nat) : Int)), (53, .int .i64 (((at_ globR l (k : Int)).rs.length : Nat) : Int))] ⟨(at_other rfl _ (s50_206)), (at_same hz198 rfl _), trivial⟩ (by kernel_rfl) (.bool ((((at_ globR l (k : Int)).rs.length : Nat) : Int) != (((at_ globR l (k : Int)).rs.length : Nat) : Int))) (.bool (decide (¬ (((at_ globR l (k : Int)).rs.length : Nat) : Int) = (((at_ globR l (k : Int)).rs.length : Nat) : Int)))) (by kernel_rfl) V.t_neq ?_)
                refine V.go (V.pk_f (((at_other rfl _ (at_other rfl _ (s47_205)) : Act.eval _ _ = (.bool (decide (¬ ((at_ globR l (k : Int)).neg) = ((at_ globR l (k : Int)).neg)))))).trans (df hg174)) (v := (.bool (decide (¬ (((at_ globR l (k : Int)).rs.length : Nat) : Int) = (((at_ globR l (k : Int)).rs.length : Nat) : Int))))) (at_same (hz198.put _ _) rfl _) ?_)
                refine V.nil ?_
                refine V.then_n (hK127 _ _ ?_)
                refine V.condP (p := ¬ (((at_ globR l (k : Int)).rs.length : Nat) : Int) = (((at_ globR l (k : Int)).rs.length : Nat) : Int)) (at_same ((hz198.put _ _).put _ _) rfl _) (fun ht208 => ?_) (fun ht208 => ?_)
                ·
                  refine V.seq (fun K209 hK210 => ?_)
                  refine V.region (by kernel_rfl) ?_
                  refine V.go (V.asg (v := (.bool false)) evc ?_)
                  refine V.nil ?_
                  refine V.then_n (hK210 _ _ ?_)
                  refine V.flushW ((((hz198.put _ _).put _ _).put _ _).put _ _) (fun a211 hz212 up213 => ?_)
                  have s0_214 : a211.eval (.tmp 0) = (.slice A0 l.length c0) := up213 _ _ (at_other rfl _ (at_other rfl _ (at_other rfl _ (at_other rfl _ (s0_200)))))
                  have s1_215 : a211.eval (.tmp 1) = (.slice A1 l.length c1) := up213 _ _ (at_other rfl _ (at_other rfl _ (at_other rfl _ (at_other rfl _ (s1_201)))))
                  have s4_216 : a211.eval (.tmp 4) = (.bool false) := up213 _ _ (at_same (((hz198.put _ _).put _ _).put _ _) rfl _)
                  have s5_217 : a211.eval (.tmp 5) = (.int .i64 (k : Int)) := up213 _ _ (at_other rfl _ (at_other rfl _ (at_other rfl _ (at_other rfl _ (s5_202)))))
                  have s6_218 : a211.eval (.tmp 6) = (.pointer (some ⟨b71, 0, none⟩)) := up213 _ _ (at_other rfl _ (at_other rfl _ (at_other rfl _ (at_other rfl _ (s6_203)))))
                  have s7_219 : a211.eval (.tmp 7) = (.pointer (some ⟨b82, 0, none⟩)) := up213 _ _ (at_other rfl _ (at_other rfl _ (at_other rfl _ (at_other rfl _ (s7_204)))))
                  clear up213
                  refine V.ret ?_
                  refine V.then_r ?_
                  refine V.blk_r ?_
                  refine V.then_r ?_
                  refine V.then_r ?_
                  refine V.blk_r ?_
                  refine V.then_r ?_
                  refine V.ret1 hz212 rfl (s4_216) ?_
                  exact absurd rfl ht208
                ·
                  refine V.skip ?_
                  refine V.then_n (hK125 _ _ ?_)
                  refine V.seq (fun K220 hK221 => ?_)
                  refine V.region (by kernel_rfl) ?_
                  refine V.go (V.asg (v := (.int .i64 0)) evc ?_)
                  refine V.nil ?_
                  refine V.then_n (hK221 _ _ ?_)
                  refine V.flushW ((((hz198.put _ _).put _ _).put _ _).put _ _) (fun a222 hz223 up224 => ?_)
                  have s0_225 : a222.eval (.tmp 0) = (.slice A0 l.length c0) := up224 _ _ (at_other rfl _ (at_other rfl _ (at_other rfl _ (at_other rfl _ (s0_200)))))
                  have s1_226 : a222.eval (.tmp 1) = (.slice A1 l.length c1) := up224 _ _ (at_other rfl _ (at_other rfl _ (at_other rfl _ (at_other rfl _ (s1_201)))))
                  have s5_227 : a222.eval (.tmp 5) = (.int .i64 (k : Int)) := up224 _ _ (at_other rfl _ (at_other rfl _ (at_other rfl _ (at_other rfl _ (s5_202)))))
                  have s6_228 : a222.eval (.tmp 6) = (.pointer (some ⟨b71, 0, none⟩)) := up224 _ _ (at_other rfl _ (at_other rfl _ (at_other rfl _ (at_other rfl _ (s6_203)))))
                  have s7_229 : a222.eval (.tmp 7) = (.pointer (some ⟨b82, 0, none⟩)) := up224 _ _ (at_other rfl _ (at_other rfl _ (at_other rfl _ (at_other rfl _ (s7_204)))))
                  have s8_230 : a222.eval (.tmp 8) = (.int .i64 0) := up224 _ _ (at_same (((hz198.put _ _).put _ _).put _ _) rfl _)
                  clear up224
                  refine V.block ?_
                  refine V.loop1 (fun (r : Nat) a_ w_ => Sz 74 a_ ∧ a_.eval (.tmp 0) = (.slice A0 l.length c0) ∧ a_.eval (.tmp 1) = (.slice A1 l.length c1) ∧ a_.eval (.tmp 5) = (.int .i64 (k : Int)) ∧ a_.eval (.tmp 6) = (.pointer (some ⟨b71, 0, none⟩)) ∧ a_.eval (.tmp 7) = (.pointer (some ⟨b82, 0, none⟩)) ∧ a_.eval (.tmp 8) = (.int .i64 (r : Int)) ∧ Fr [] w w_ ∧ SlR globR (fun b => b < w.heap.size) w_ (.slice A0 l.length c0) l ∧ SlR globR (fun b => b < w.heap.size) w_ (.slice A1 l.length c1) l ∧ SlR spanR (fun b => b < w.heap.size) w_ (.slice A57 ((at_ globR l (k : Int)).rs.length) c58) ((at_ globR l (k : Int)).rs) ∧ SlR spanR (fun b => b < w.heap.size) w_ (.slice A67 ((at_ globR l (k : Int)).rs.length) c68) ((at_ globR l (k : Int)).rs) ∧ Blk w_ b71 [.int .i64 ((at_ globR l (k : Int)).kind), .int .u8 ((at_ globR l (k : Int)).c), .bool ((at_ globR l (k : Int)).neg), .slice A57 ((at_ globR l (k : Int)).rs.length) c58] 42 ∧ Blk w_ b82 [.int .i64 ((at_ globR l (k : Int)).kind), .int .u8 ((at_ globR l (k : Int)).c), .bool ((at_ globR l (k : Int)).neg), .slice A67 ((at_ globR l (k : Int)).rs.length) c68] 42 ∧ (r ≤ (at_ globR l (k : Int)).rs.length)) (fun (r : Nat) => (at_ globR l (k : Int)).rs.length - r) 0 ?_ ?_
                  ·
                    refine ⟨hz223, ?_, ?_, ?_, ?_, ?_, ?_, hF_108, hS_109, hT_110, hS60_111, hS70_113, hB95_115, hB106, (by omega)⟩
                    · exact (s0_225)
                    · exact (s1_226)
                    · exact Eq.trans (s5_227) (V.int_eq (by omega))
                    · exact (s6_228)
                    · exact (s7_229)
                    · exact Eq.trans (s8_230) (V.int_eq (by omega))
                  ·
                    rintro r a231 w232 ⟨hz233, s0_234, s1_235, s5_236, s6_237, s7_238, s8_239, hF_240, hS_241, hT_242, hS60_243, hS70_244, hB95_245, hB106_246, hr⟩
                    have hfs247 := hF_240.size
                    have hlt248 := hB95_245.lt
                    have hlt249 := hB106_246.lt
                    have hlr := hS60_243.len_le
                    refine V.seq (fun K250 hK251 => ?_)
                    refine V.seq (fun K252 hK253 => ?_)
                    refine V.region (by kernel_rfl) ?_
                    refine V.go (V.mv (v := (.int .i64 (r : Int))) (s8_239) ?_)
                    refine V.go (V.pv [(6, .pointer (some ⟨b71, 0, none⟩))] ⟨(at_other rfl _ (s6_237)), trivial⟩ (by kernel_rfl) (.pointer (some ⟨b71, 3, none⟩)) (by kernel_rfl) ?_)
                    refine V.go (V.ld ⟨b71, 3, none⟩ (.slice A57 ((at_ globR l (k : Int)).rs.length) c58) (at_same (hz233.put _ _) rfl _) (by kernel_rfl) (hB95_245.at 3 rfl) ?_)
                    refine V.go (V.pv [(58, .slice A57 ((at_ globR l (k : Int)).rs.length) c58)] ⟨(at_same ((hz233.put _ _).put _ _) rfl _), trivial⟩ (by kernel_rfl) (.int .i64 (((at_ globR l (k : Int)).rs.length : Nat) : Int)) (by kernel_rfl) ?_)
                    refine V.go (V.pv [(56, .int .i64 (r : Int)), (59, .int .i64 (((at_ globR l (k : Int)).rs.length : Nat) : Int))] ⟨(at_other rfl _ (at_other rfl _ (at_other rfl _ (at_same hz233 rfl _)))), (at_same (((hz233.put _ _).put _ _).put _ _) rfl _), trivial⟩ (by kernel_rfl) (.bool (decide ((r : Int) < (((at_ globR l (k : Int)).rs.length : Nat) : Int)))) (by kernel_rfl) ?_)
                    refine V.nil ?_
                    refine V.then_n (hK253 _ _ ?_)
                    refine V.flushW (((((hz233.put _ _).put _ _).put _ _).put _ _).put _ _) (fun a254 hz255 up256 => ?_)
                    have s0_257 : a254.eval (.tmp 0) = (.slice A0 l.length c0) := up256 _ _ (at_other rfl _ (at_other rfl _ (at_other rfl _ (at_other rfl _ (at_other rfl _ (s0_234))))))
                    have s1_258 : a254.eval (.tmp 1) = (.slice A1 l.length c1) := up256 _ _ (at_other rfl _ (at_other rfl _ (at_other rfl _ (at_other rfl _ (at_other rfl _ (s1_235))))))
                    have s5_259 : a254.eval (.tmp 5) = (.int .i64 (k : Int)) := up256 _ _ (at_other rfl _ (at_other rfl _ (at_other rfl _ (at_other rfl _ (at_other rfl _ (s5_236))))))
                    have s6_260 : a254.eval (.tmp 6) = (.pointer (some ⟨b71, 0, none⟩)) := up256 _ _ (at_other rfl _ (at_other rfl _ (at_other rfl _ (at_other rfl _ (at_other rfl _ (s6_237))))))
                    have s7_261 : a254.eval (.tmp 7) = (.pointer (some ⟨b82, 0, none⟩)) := up256 _ _ (at_other rfl _ (at_other rfl _ (at_other rfl _ (at_other rfl _ (at_other rfl _ (s7_238))))))
                    have s8_262 : a254.eval (.tmp 8) = (.int .i64 (r : Int)) := up256 _ _ (at_other rfl _ (at_other rfl _ (at_other rfl _ (at_other rfl _ (at_other rfl _ (s8_239))))))
                    have s60_263 : a254.eval (.tmp 60) = (.bool (decide ((r : Int) < (((at_ globR l (k : Int)).rs.length : Nat) : Int)))) := up256 _ _ (at_same ((((hz233.put _ _).put _ _).put _ _).put _ _) rfl _)
                    clear up256
                    refine V.condP (p := (r : Int) < (((at_ globR l (k : Int)).rs.length : Nat) : Int)) (s60_263) (fun ht264 => ?_) (fun ht264 => ?_)
                    ·
                      refine V.skip ?_
                      refine V.then_n (hK251 _ _ ?_)
                      refine V.seq (fun K265 hK266 => ?_)
                      refine V.block ?_
                      refine V.seq (fun K267 hK268 => ?_)
                      refine V.plan [[], [0], [], [0, 1, 2], [0, 1, 2, 3], [], [5], [], [5, 6, 7], [5, 6, 7, 8], [0, 1, 2, 3, 4, 5, 6, 7, 8, 9]] [([0, 1, 2, 3, 4, 5, 6, 7, 8, 9], some (10, [])), ([], none)] (by kernel_rfl) (by kernel_rfl) (by exact fun _ _ _ _ h => h) ?_
                      simp only [Plan.wpSegs, Plan.pickAll, Plan.nth, V.L_eq]
                      obtain ⟨w269, hF270e⟩ : ∃ w1, w1 = w232.drew := ⟨_, rfl⟩
                      rw [← hF270e]
                      have hF270 : Fr [] w232 w269 := by rw [hF270e]; exact Fr.drew _ _
                      have hsw269 : w269.heap.size = w232.heap.size := by rw [hF270e]; rfl
                      clear hF270e
                      have hF_271 := hF_240.new hF270
                      have hS_272 := hS_241.fr0 hF270
                      have hT_273 := hT_242.fr0 hF270
                      have hS60_274 := hS60_243.fr0 hF270
                      have hS70_275 := hS70_244.fr0 hF270
                      have hB95_276 := hB95_245.fr0 hF270
                      have hB106_277 := hB106_246.fr0 hF270
                      refine V.go (V.pv [(6, .pointer (some ⟨b71, 0, none⟩))] ⟨(s6_260), trivial⟩ (by kernel_rfl) (.pointer (some ⟨b71, 3, none⟩)) (by kernel_rfl) ?_)
                      refine V.go (V.ld ⟨b71, 3, none⟩ (.slice A57 ((at_ globR l (k : Int)).rs.length) c58) (at_same hz255 rfl _) (by kernel_rfl) (hB95_276.at 3 rfl) ?_)
                      refine V.go (V.mv (v := (.int .i64 (r : Int))) (at_other rfl _ (at_other rfl _ (s8_262))) ?_)
                      obtain ⟨g278, o279, hA280, hA280l, hA280z⟩ := hS60_274.addr (by omega)
                      refine V.go (V.ixa g278 o279 ((at_ globR l (k : Int)).rs.length) c58 .i64 (r : Int) 2 ((at_other rfl _ (at_same (hz255.put _ _) rfl _)).trans (by rw [hA280])) (at_same ((hz255.put _ _).put _ _) rfl _) (by omega) (by omega) (by kernel_rfl) ?_)
                      obtain ⟨cs281, hok282, hE283⟩ := hS60_274.els hA280 (r : Int) (by omega) (by omega)
                      obtain rfl := span_open hok282
                      refine V.go (V.lds ⟨g278, o279 + (r : Int).toNat * 2, none⟩ [.int .u8 ((at_ spanR ((at_ globR l (k : Int)).rs) (r : Int)).lo), .int .u8 ((at_ spanR ((at_ globR l (k : Int)).rs) (r : Int)).hi)] (at_same (((hz255.put _ _).put _ _).put _ _) rfl _) (by kernel_rfl) (hE283.cells 0 _ rfl) ?_)
                      refine V.go (V.pv [(7, .pointer (some ⟨b82, 0, none⟩))] ⟨(at_other rfl _ (at_other rfl _ (at_other rfl _ (at_other rfl _ (at_other rfl _ (s7_261)))))), trivial⟩ (by kernel_rfl) (.pointer (some ⟨b82, 3, none⟩)) (by kernel_rfl) ?_)
                      refine V.go (V.ld ⟨b82, 3, none⟩ (.slice A67 ((at_ globR l (k : Int)).rs.length) c68) (at_same (((((hz255.put _ _).put _ _).put _ _).put _ _).put _ _) rfl _) (by kernel_rfl) (hB106_277.at 3 rfl) ?_)
                      refine V.go (V.mv (v := (.int .i64 (r : Int))) (at_other rfl _ (at_other rfl _ (at_other rfl _ (at_other rfl _ (at_other rfl _ (at_other rfl _ (at_other rfl _ (s8_262)))))))) ?_)
                      obtain ⟨g284, o285, hA286, hA286l, hA286z⟩ := hS70_275.addr (by omega)
                      refine V.go (V.ixa g284 o285 ((at_ globR l (k : Int)).rs.length) c68 .i64 (r : Int) 2 ((at_other rfl _ (at_same ((((((hz255.put _ _).put _ _).put _ _).put _ _).put _ _).put _ _) rfl _)).trans (by rw [hA286])) (at_same (((((((hz255.put _ _).put _ _).put _ _).put _ _).put _ _).put _ _).put _ _) rfl _) (by omega) (by omega) (by kernel_rfl) ?_)
                      obtain ⟨cs287, hok288, hE289⟩ := hS70_275.els hA286 (r : Int) (by omega) (by omega)
                      obtain rfl := span_open hok288
                      refine V.go (V.lds ⟨g284, o285 + (r : Int).toNat * 2, none⟩ [.int .u8 ((at_ spanR ((at_ globR l (k : Int)).rs) (r : Int)).lo), .int .u8 ((at_ spanR ((at_ globR l (k : Int)).rs) (r : Int)).hi)] (at_same ((((((((hz255.put _ _).put _ _).put _ _).put _ _).put _ _).put _ _).put _ _).put _ _) rfl _) (by kernel_rfl) (hE289.cells 0 _ rfl) ?_)
                      refine V.nil ?_
                      refine ⟨chk [] trivial (by kernel_rfl), ?_⟩
                      refine V.go (V.neqA .u8 [(at_ spanR ((at_ globR l (k : Int)).rs) (r : Int)).lo, (at_ spanR ((at_ globR l (k : Int)).rs) (r : Int)).hi] [(at_ spanR ((at_ globR l (k : Int)).rs) (r : Int)).lo, (at_ spanR ((at_ globR l (k : Int)).rs) (r : Int)).hi] (at_other rfl _ (at_other rfl _ (at_other rfl _ (at_other rfl _ (at_other rfl _ (at_same ((((hz255.put _ _).put _ _).put _ _).put _ _) rfl _)))))) (at_same (((((((((hz255.put _ _).put _ _).put _ _).put _ _).put _ _).put _ _).put _ _).put _ _).put _ _) rfl _) (by kernel_rfl) rfl ?_)
                      refine V.nil ?_
                      refine ⟨trivial, ?_⟩
                      refine V.nil ?_
                      refine ⟨chk [] trivial (by kernel_rfl), ?_⟩
                      refine V.then_n (hK268 _ _ ?_)
                      refine V.flushW (((((((((((hz255.put _ _).put _ _).put _ _).put _ _).put _ _).put _ _).put _ _).put _ _).put _ _).put _ _).put _ _) (fun a290 hz291 up292 => ?_)
                      have s0_293 : a290.eval (.tmp 0) = (.slice A0 l.length c0) := up292 _ _ (at_other rfl _ (at_other rfl _ (at_other rfl _ (at_other rfl _ (at_other rfl _ (at_other rfl _ (at_other rfl _ (at_other rfl _ (at_other rfl _ (at_other rfl _ (at_other rfl _ (s0_257))))))))))))
                      have s1_294 : a290.eval (.tmp 1) = (.slice A1 l.length c1) := up292 _ _ (at_other rfl _ (at_other rfl _ (at_other rfl _ (at_other rfl _ (at_other rfl _ (at_other rfl _ (at_other rfl _ (at_other rfl _ (at_other rfl _ (at_other rfl _ (at_other rfl _ (s1_258))))))))))))
                      have s5_295 : a290.eval (.tmp 5) = (.int .i64 (k : Int)) := up292 _ _ (at_other rfl _ (at_other rfl _ (at_other rfl _ (at_other rfl _ (at_other rfl _ (at_other rfl _ (at_other rfl _ (at_other rfl _ (at_other rfl _ (at_other rfl _ (at_other rfl _ (s5_259))))))))))))
                      have s6_296 : a290.eval (.tmp 6) = (.pointer (some ⟨b71, 0, none⟩)) := up292 _ _ (at_other rfl _ (at_other rfl _ (at_other rfl _ (at_other rfl _ (at_other rfl _ (at_other rfl _ (at_other rfl _ (at_other rfl _ (at_other rfl _ (at_other rfl _ (at_other rfl _ (s6_260))))))))))))
                      have s7_297 : a290.eval (.tmp 7) = (.pointer (some ⟨b82, 0, none⟩)) := up292 _ _ (at_other rfl _ (at_other rfl _ (at_other rfl _ (at_other rfl _ (at_other rfl _ (at_other rfl _ (at_other rfl _ (at_other rfl _ (at_other rfl _ (at_other rfl _ (at_other rfl _ (s7_261))))))))))))
                      have s8_298 : a290.eval (.tmp 8) = (.int .i64 (r : Int)) := up292 _ _ (at_other rfl _ (at_other rfl _ (at_other rfl _ (at_other rfl _ (at_other rfl _ (at_other rfl _ (at_other rfl _ (at_other rfl _ (at_other rfl _ (at_other rfl _ (at_other rfl _ (s8_262))))))))))))
                      have s73_299 : a290.eval (.tmp 73) = (.bool (decide (¬ [(at_ spanR ((at_ globR l (k : Int)).rs) (r : Int)).lo, (at_ spanR ((at_ globR l (k : Int)).rs) (r : Int)).hi] = [(at_ spanR ((at_ globR l (k : Int)).rs) (r : Int)).lo, (at_ spanR ((at_ globR l (k : Int)).rs) (r : Int)).hi]))) := up292 _ _ (at_same ((((((((((hz255.put _ _).put _ _).put _ _).put _ _).put _ _).put _ _).put _ _).put _ _).put _ _).put _ _) rfl _)
                      clear up292
                      refine V.condP (p := ¬ [(at_ spanR ((at_ globR l (k : Int)).rs) (r : Int)).lo, (at_ spanR ((at_ globR l (k : Int)).rs) (r : Int)).hi] = [(at_ spanR ((at_ globR l (k : Int)).rs) (r : Int)).lo, (at_ spanR ((at_ globR l (k : Int)).rs) (r : Int)).hi]) (s73_299) (fun ht300 => ?_) (fun ht300 => ?_)
                      ·
                        refine V.seq (fun K301 hK302 => ?_)
                        refine V.region (by kernel_rfl) ?_
                        refine V.go (V.asg (v := (.bool false)) evc ?_)
                        refine V.nil ?_
                        refine V.then_n (hK302 _ _ ?_)
                        refine V.ret ?_
                        refine V.blk_r ?_
                        refine V.then_r ?_
                        refine V.then_r ?_
                        refine V.blk_r ?_
                        refine V.blk_r ?_
                        refine V.then_r ?_
                        refine V.then_r ?_
                        refine V.blk_r ?_
                        refine V.then_r ?_
                        refine V.ret1 (hz291.put _ _) rfl (at_same hz291 rfl _) ?_
                        exact absurd rfl ht300
                      ·
                        refine V.skip ?_
                        refine V.blk_n ?_
                        refine V.then_n (hK266 _ _ ?_)
                        refine V.region (by kernel_rfl) ?_
                        refine V.go (V.mv (v := (.int .i64 (r : Int))) (s8_298) ?_)
                        refine V.go (V.pvw [(61, .int .i64 (r : Int))] ⟨(at_same hz291 rfl _), trivial⟩ (by kernel_rfl) (.int .i64 (IntKind.i64.wrap ((r : Int) + 1))) (.int .i64 ((r : Int) + 1)) (by kernel_rfl) (V.w_i64 (by omega) (by omega)) ?_)
                        refine V.go (V.asg (v := (.int .i64 ((r : Int) + 1))) (at_same (hz291.put _ _) rfl _) ?_)
                        refine V.nil ?_
                        refine V.then_n ?_
                        refine ⟨r + 1, by omega, ?_⟩
                        refine ⟨(((hz291.put _ _).put _ _).put _ _), ?_, ?_, ?_, ?_, ?_, ?_, hF_271, hS_272, hT_273, hS60_274, hS70_275, hB95_276, hB106_277, (by omega)⟩
                        · exact (at_other rfl _ (at_other rfl _ (at_other rfl _ (s0_293))))
                        · exact (at_other rfl _ (at_other rfl _ (at_other rfl _ (s1_294))))
                        · exact Eq.trans (at_other rfl _ (at_other rfl _ (at_other rfl _ (s5_295)))) (V.int_eq (by omega))
                        · exact (at_other rfl _ (at_other rfl _ (at_other rfl _ (s6_296))))
                        · exact (at_other rfl _ (at_other rfl _ (at_other rfl _ (s7_297))))
                        · exact Eq.trans (at_same ((hz291.put _ _).put _ _) rfl _) (V.int_eq (by omega))
                    ·
                      refine V.exit ?_
                      refine V.then_e ?_
                      refine V.then_e ?_
                      refine V.blk_hit ?_
                      refine V.blk_n ?_
                      refine V.then_n (hK43 _ _ ?_)
                      refine V.region (by kernel_rfl) ?_
                      refine V.go (V.mv (v := (.int .i64 (k : Int))) (s5_259) ?_)
                      refine V.go (V.pvw [(18, .int .i64 (k : Int))] ⟨(at_same hz255 rfl _), trivial⟩ (by kernel_rfl) (.int .i64 (IntKind.i64.wrap ((k : Int) + 1))) (.int .i64 ((k : Int) + 1)) (by kernel_rfl) (V.w_i64 (by omega) (by omega)) ?_)
                      refine V.go (V.asg (v := (.int .i64 ((k : Int) + 1))) (at_same (hz255.put _ _) rfl _) ?_)
                      refine V.nil ?_
                      refine V.then_n ?_
                      refine ⟨k + 1, by omega, ?_⟩
                      refine ⟨(((hz255.put _ _).put _ _).put _ _), ?_, ?_, ?_, hF_240, hS_241, hT_242, (by omega)⟩
                      · exact (at_other rfl _ (at_other rfl _ (at_other rfl _ (s0_257))))
                      · exact (at_other rfl _ (at_other rfl _ (at_other rfl _ (s1_258))))
                      · exact Eq.trans (at_same ((hz255.put _ _).put _ _) rfl _) (V.int_eq (by omega))
        ·
          refine V.go (V.mk [] trivial (by kernel_rfl) [.int .i64 0, .int .u8 0, .bool false, .slice none 0 0] 42 (fun b => .pointer (some ⟨b, 0, none⟩)) (by kernel_rfl) ?_)
          intro w304 b303 heb303 hB305 hF306 hsb303
          have hF_307 := hF_48.new hF306
          have hS_308 := hS_49.fr0 hF306
          have hT_309 := hT_50.fr0 hF306
          have hS60_310 := hS60.fr0 hF306
          have hE56_311 := hE56.fr0 hF306
          have hS70_312 := hS70.fr0 hF306
          have hE66_313 := hE66.fr0 hF306
          refine V.nil ?_
          refine ⟨⟨(fun _ => held_els (m := 4) (f := 0) (hx := (at_other rfl _ (at_other rfl _ (at_other rfl _ (at_other rfl _ (at_other rfl _ (at_same ((hz35.put _ _).put _ _) rfl _))))))) hE56 hE56_311 (by kernel_rfl) (by simp only [List.length]; omega)), (fun _ => held_els (m := 4) (f := 0) (hx := (at_other rfl _ (at_same ((((((hz35.put _ _).put _ _).put _ _).put _ _).put _ _).put _ _) rfl _))) hE66 hE66_313 (by kernel_rfl) (by simp only [List.length]; omega))⟩, ?_⟩
          refine V.go (V.mk [] trivial (by kernel_rfl) [.int .i64 0, .int .u8 0, .bool false, .slice none 0 0] 42 (fun b => .pointer (some ⟨b, 0, none⟩)) (by kernel_rfl) ?_)
          intro w315 b314 heb314 hB316 hF317 hsb314
          have hF_318 := hF_307.new hF317
          have hS_319 := hS_308.fr0 hF317
          have hT_320 := hT_309.fr0 hF317
          have hS60_321 := hS60_310.fr0 hF317
          have hE56_322 := hE56_311.fr0 hF317
          have hS70_323 := hS70_312.fr0 hF317
          have hE66_324 := hE66_313.fr0 hF317
          have hB305_325 := hB305.fr0 hF317
          refine V.nil ?_
          refine ⟨⟨(fun _ => held_els (m := 4) (f := 0) (hx := (at_other rfl _ (at_other rfl _ (at_other rfl _ (at_other rfl _ (at_other rfl _ (at_other rfl _ (at_same ((hz35.put _ _).put _ _) rfl _)))))))) hE56_311 hE56_322 (by kernel_rfl) (by simp only [List.length]; omega)), (fun _ => held_els (m := 4) (f := 0) (hx := (at_other rfl _ (at_other rfl _ (at_same ((((((hz35.put _ _).put _ _).put _ _).put _ _).put _ _).put _ _) rfl _)))) hE66_313 hE66_324 (by kernel_rfl) (by simp only [List.length]; omega))⟩, ?_⟩
          refine V.go (V.stn b314 0 (.agg #[.int .i64 ((at_ globR l (k : Int)).kind), .int .u8 ((at_ globR l (k : Int)).c), .bool ((at_ globR l (k : Int)).neg), .slice A57 ((at_ globR l (k : Int)).rs.length) c58]) [.int .i64 ((at_ globR l (k : Int)).kind), .int .u8 ((at_ globR l (k : Int)).c), .bool ((at_ globR l (k : Int)).neg), .slice A57 ((at_ globR l (k : Int)).rs.length) c58] (at_same (((((((((hz35.put _ _).put _ _).put _ _).put _ _).put _ _).put _ _).put _ _).put _ _).put _ _) rfl _) (at_other rfl _ (at_other rfl _ (at_other rfl _ (at_other rfl _ (at_other rfl _ (at_other rfl _ (at_same (((hz35.put _ _).put _ _).put _ _) rfl _))))))) rfl rfl (by kernel_rfl) hB316 (by simp) [.int .i64 ((at_ globR l (k : Int)).kind), .int .u8 ((at_ globR l (k : Int)).c), .bool ((at_ globR l (k : Int)).neg), .slice A57 ((at_ globR l (k : Int)).rs.length) c58] rfl ?_)
          intro w326 hB327 hF328 hsw326
          have hF_329 := hF_318.own hF328 (by simp <;> omega)
          have hS_330 := hS_319.fr hF328 (by simp <;> omega)
          have hT_331 := hT_320.fr hF328 (by simp <;> omega)
          have hS60_332 := hS60_321.fr hF328 (by simp <;> omega)
          have hE56_333 := hE56_322.fr hF328 (by simp <;> omega)
          have hS70_334 := hS70_323.fr hF328 (by simp <;> omega)
          have hE66_335 := hE66_324.fr hF328 (by simp <;> omega)
          have hB305_336 := hB305_325.fr1 hF328 (by omega)
          refine V.nil ?_
          refine ⟨(fun _ => held_els (m := 4) (f := 0) (hx := (at_other rfl _ (at_other rfl _ (at_other rfl _ (at_same ((((((hz35.put _ _).put _ _).put _ _).put _ _).put _ _).put _ _) rfl _))))) hE66_324 hE66_335 (by kernel_rfl) (by simp only [List.length]; omega)), ?_⟩
          refine V.go (V.stn b303 0 (.agg #[.int .i64 ((at_ globR l (k : Int)).kind), .int .u8 ((at_ globR l (k : Int)).c), .bool ((at_ globR l (k : Int)).neg), .slice A67 ((at_ globR l (k : Int)).rs.length) c68]) [.int .i64 ((at_ globR l (k : Int)).kind), .int .u8 ((at_ globR l (k : Int)).c), .bool ((at_ globR l (k : Int)).neg), .slice A67 ((at_ globR l (k : Int)).rs.length) c68] (at_other rfl _ (at_same ((((((((hz35.put _ _).put _ _).put _ _).put _ _).put _ _).put _ _).put _ _).put _ _) rfl _)) (at_other rfl _ (at_other rfl _ (at_same (((((((hz35.put _ _).put _ _).put _ _).put _ _).put _ _).put _ _).put _ _) rfl _))) rfl rfl (by kernel_rfl) hB305_336 (by simp) [.int .i64 ((at_ globR l (k : Int)).kind), .int .u8 ((at_ globR l (k : Int)).c), .bool ((at_ globR l (k : Int)).neg), .slice A67 ((at_ globR l (k : Int)).rs.length) c68] rfl ?_)
          intro w337 hB338 hF339 hsw337
          have hF_340 := hF_329.own hF339 (by simp <;> omega)
          have hS_341 := hS_330.fr hF339 (by simp <;> omega)
          have hT_342 := hT_331.fr hF339 (by simp <;> omega)
          have hS60_343 := hS60_332.fr hF339 (by simp <;> omega)
          have hE56_344 := hE56_333.fr hF339 (by simp <;> omega)
          have hS70_345 := hS70_334.fr hF339 (by simp <;> omega)
          have hE66_346 := hE66_335.fr hF339 (by simp <;> omega)
          have hB327_347 := hB327.fr1 hF339 (by omega)
          refine V.nil ?_
          refine ⟨trivial, ?_⟩
          refine V.then_n (hK45 _ _ ?_)
          refine V.flushW ((((((((((hz35.put _ _).put _ _).put _ _).put _ _).put _ _).put _ _).put _ _).put _ _).put _ _).put _ _) (fun a348 hz349 up350 => ?_)
          have s0_351 : a348.eval (.tmp 0) = (.slice A0 l.length c0) := up350 _ _ (at_other rfl _ (at_other rfl _ (at_other rfl _ (at_other rfl _ (at_other rfl _ (at_other rfl _ (at_other rfl _ (at_other rfl _ (at_other rfl _ (at_other rfl _ (s0_37)))))))))))
          have s1_352 : a348.eval (.tmp 1) = (.slice A1 l.length c1) := up350 _ _ (at_other rfl _ (at_other rfl _ (at_other rfl _ (at_other rfl _ (at_other rfl _ (at_other rfl _ (at_other rfl _ (at_other rfl _ (at_other rfl _ (at_other rfl _ (s1_38)))))))))))
          have s5_353 : a348.eval (.tmp 5) = (.int .i64 (k : Int)) := up350 _ _ (at_other rfl _ (at_other rfl _ (at_other rfl _ (at_other rfl _ (at_other rfl _ (at_other rfl _ (at_other rfl _ (at_other rfl _ (at_other rfl _ (at_other rfl _ (s5_39)))))))))))
          have s6_354 : a348.eval (.tmp 6) = (.pointer (some ⟨b314, 0, none⟩)) := up350 _ _ (at_same (((((((((hz35.put _ _).put _ _).put _ _).put _ _).put _ _).put _ _).put _ _).put _ _).put _ _) rfl _)
          have s7_355 : a348.eval (.tmp 7) = (.pointer (some ⟨b303, 0, none⟩)) := up350 _ _ (at_other rfl _ (at_same ((((((((hz35.put _ _).put _ _).put _ _).put _ _).put _ _).put _ _).put _ _).put _ _) rfl _))
          clear up350
          refine V.seq (fun K356 hK357 => ?_)
          refine V.seq (fun K358 hK359 => ?_)
          refine V.region (by kernel_rfl) ?_
          refine V.go (V.pv [(6, .pointer (some ⟨b314, 0, none⟩))] ⟨(s6_354), trivial⟩ (by kernel_rfl) (.pointer (some ⟨b314, 0, none⟩)) (by kernel_rfl) ?_)
          refine V.go (V.ld ⟨b314, 0, none⟩ (.int .i64 ((at_ globR l (k : Int)).kind)) (at_same hz349 rfl _) (by kernel_rfl) (hB327_347.at 0 rfl) ?_)
          refine V.go (V.pv [(7, .pointer (some ⟨b303, 0, none⟩))] ⟨(at_other rfl _ (at_other rfl _ (s7_355))), trivial⟩ (by kernel_rfl) (.pointer (some ⟨b303, 0, none⟩)) (by kernel_rfl) ?_)
          refine V.go (V.ld ⟨b303, 0, none⟩ (.int .i64 ((at_ globR l (k : Int)).kind)) (at_same ((hz349.put _ _).put _ _) rfl _) (by kernel_rfl) (hB338.at 0 rfl) ?_)
          refine V.go (V.pvw [(29, .int .i64 ((at_ globR l (k : Int)).kind)), (31, .int .i64 ((at_ globR l (k : Int)).kind))] ⟨(at_other rfl _ (at_other rfl _ (at_same (hz349.put _ _) rfl _))), (at_same (((hz349.put _ _).put _ _).put _ _) rfl _), trivial⟩ (by kernel_rfl) (.bool (((at_ globR l (k : Int)).kind) != ((at_ globR l (k : Int)).kind))) (.bool (decide (¬ ((at_ globR l (k : Int)).kind) = ((at_ globR l (k : Int)).kind)))) (by kernel_rfl) V.t_neq ?_)
          refine V.go (V.mv (v := (.bool (decide (¬ ((at_ globR l (k : Int)).kind) = ((at_ globR l (k : Int)).kind))))) (at_same ((((hz349.put _ _).put _ _).put _ _).put _ _) rfl _) ?_)
          by_cases hg360 : ¬ ((at_ globR l (k : Int)).kind) = ((at_ globR l (k : Int)).kind)
          ·
            refine V.go_off 33 (by kernel_rfl) (((at_same (((((hz349.put _ _).put _ _).put _ _).put _ _).put _ _) rfl _ : Act.eval _ _ = (.bool (decide (¬ ((at_ globR l (k : Int)).kind) = ((at_ globR l (k : Int)).kind)))))).trans (dt hg360)) (by kernel_rfl) ?_
            refine V.go_off 33 (by kernel_rfl) (((at_other rfl _ (at_same (((((hz349.put _ _).put _ _).put _ _).put _ _).put _ _) rfl _) : Act.eval _ _ = (.bool (decide (¬ ((at_ globR l (k : Int)).kind) = ((at_ globR l (k : Int)).kind)))))).trans (dt hg360)) (by kernel_rfl) ?_
            refine V.go_off 33 (by kernel_rfl) (((at_other rfl _ (at_other rfl _ (at_same (((((hz349.put _ _).put _ _).put _ _).put _ _).put _ _) rfl _)) : Act.eval _ _ = (.bool (decide (¬ ((at_ globR l (k : Int)).kind) = ((at_ globR l (k : Int)).kind)))))).trans (dt hg360)) (by kernel_rfl) ?_
            refine V.go_off 33 (by kernel_rfl) (((at_other rfl _ (at_other rfl _ (at_other rfl _ (at_same (((((hz349.put _ _).put _ _).put _ _).put _ _).put _ _) rfl _))) : Act.eval _ _ = (.bool (decide (¬ ((at_ globR l (k : Int)).kind) = ((at_ globR l (k : Int)).kind)))))).trans (dt hg360)) (by kernel_rfl) ?_
            refine V.go_off 33 (by kernel_rfl) (((at_other rfl _ (at_other rfl _ (at_other rfl _ (at_other rfl _ (at_same (((((hz349.put _ _).put _ _).put _ _).put _ _).put _ _) rfl _)))) : Act.eval _ _ = (.bool (decide (¬ ((at_ globR l (k : Int)).kind) = ((at_ globR l (k : Int)).kind)))))).trans (dt hg360)) (by kernel_rfl) ?_
            refine V.go (V.pk_t (((at_other rfl _ (at_other rfl _ (at_other rfl _ (at_other rfl _ (at_other rfl _ (at_same (((((hz349.put _ _).put _ _).put _ _).put _ _).put _ _) rfl _))))) : Act.eval _ _ = (.bool (decide (¬ ((at_ globR l (k : Int)).kind) = ((at_ globR l (k : Int)).kind)))))).trans (dt hg360)) (v := (.bool true)) evc ?_)
            refine V.go (V.mv (v := (.bool true)) (at_same (((((((((((hz349.put _ _).put _ _).put _ _).put _ _).put _ _).put _ _).put _ _).put _ _).put _ _).put _ _).put _ _) rfl _) ?_)
            refine V.go_off 40 (by kernel_rfl) (at_same ((((((((((((hz349.put _ _).put _ _).put _ _).put _ _).put _ _).put _ _).put _ _).put _ _).put _ _).put _ _).put _ _).put _ _) rfl _) (by kernel_rfl) ?_
            refine V.go_off 40 (by kernel_rfl) (at_other rfl _ (at_same ((((((((((((hz349.put _ _).put _ _).put _ _).put _ _).put _ _).put _ _).put _ _).put _ _).put _ _).put _ _).put _ _).put _ _) rfl _)) (by kernel_rfl) ?_
            refine V.go_off 40 (by kernel_rfl) (at_other rfl _ (at_other rfl _ (at_same ((((((((((((hz349.put _ _).put _ _).put _ _).put _ _).put _ _).put _ _).put _ _).put _ _).put _ _).put _ _).put _ _).put _ _) rfl _))) (by kernel_rfl) ?_
            refine V.go_off 40 (by kernel_rfl) (at_other rfl _ (at_other rfl _ (at_other rfl _ (at_same ((((((((((((hz349.put _ _).put _ _).put _ _).put _ _).put _ _).put _ _).put _ _).put _ _).put _ _).put _ _).put _ _).put _ _) rfl _)))) (by kernel_rfl) ?_
            refine V.go_off 40 (by kernel_rfl) (at_other rfl _ (at_other rfl _ (at_other rfl _ (at_other rfl _ (at_same ((((((((((((hz349.put _ _).put _ _).put _ _).put _ _).put _ _).put _ _).put _ _).put _ _).put _ _).put _ _).put _ _).put _ _) rfl _))))) (by kernel_rfl) ?_
            refine V.go (V.pk_t (at_other rfl _ (at_other rfl _ (at_other rfl _ (at_other rfl _ (at_other rfl _ (at_same ((((((((((((hz349.put _ _).put _ _).put _ _).put _ _).put _ _).put _ _).put _ _).put _ _).put _ _).put _ _).put _ _).put _ _) rfl _)))))) (v := (.bool true)) evc ?_)
            refine V.go (V.mv (v := (.bool true)) (at_same ((((((((((((((((((hz349.put _ _).put _ _).put _ _).put _ _).put _ _).put _ _).put _ _).put _ _).put _ _).put _ _).put _ _).put _ _).put _ _).put _ _).put _ _).put _ _).put _ _).put _ _) rfl _) ?_)
            refine V.go_off 47 (by kernel_rfl) (at_same (((((((((((((((((((hz349.put _ _).put _ _).put _ _).put _ _).put _ _).put _ _).put _ _).put _ _).put _ _).put _ _).put _ _).put _ _).put _ _).put _ _).put _ _).put _ _).put _ _).put _ _).put _ _) rfl _) (by kernel_rfl) ?_
            refine V.go_off 47 (by kernel_rfl) (at_other rfl _ (at_same (((((((((((((((((((hz349.put _ _).put _ _).put _ _).put _ _).put _ _).put _ _).put _ _).put _ _).put _ _).put _ _).put _ _).put _ _).put _ _).put _ _).put _ _).put _ _).put _ _).put _ _).put _ _) rfl _)) (by kernel_rfl) ?_
            refine V.go_off 47 (by kernel_rfl) (at_other rfl _ (at_other rfl _ (at_same (((((((((((((((((((hz349.put _ _).put _ _).put _ _).put _ _).put _ _).put _ _).put _ _).put _ _).put _ _).put _ _).put _ _).put _ _).put _ _).put _ _).put _ _).put _ _).put _ _).put _ _).put _ _) rfl _))) (by kernel_rfl) ?_
            refine V.go_off 47 (by kernel_rfl) (at_other rfl _ (at_other rfl _ (at_other rfl _ (at_same (((((((((((((((((((hz349.put _ _).put _ _).put _ _).put _ _).put _ _).put _ _).put _ _).put _ _).put _ _).put _ _).put _ _).put _ _).put _ _).put _ _).put _ _).put _ _).put _ _).put _ _).put _ _) rfl _)))) (by kernel_rfl) ?_
            refine V.go_off 47 (by kernel_rfl) (at_other rfl _ (at_other rfl _ (at_other rfl _ (at_other rfl _ (at_same (((((((((((((((((((hz349.put _ _).put _ _).put _ _).put _ _).put _ _).put _ _).put _ _).put _ _).put _ _).put _ _).put _ _).put _ _).put _ _).put _ _).put _ _).put _ _).put _ _).put _ _).put _ _) rfl _))))) (by kernel_rfl) ?_
            refine V.flushL (((((((((((((((((((((((((hz349.put _ _).put _ _).put _ _).put _ _).put _ _).put _ _).put _ _).put _ _).put _ _).put _ _).put _ _).put _ _).put _ _).put _ _).put _ _).put _ _).put _ _).put _ _).put _ _).put _ _).put _ _).put _ _).put _ _).put _ _).put _ _) (fun a361 hz362 up363 => ?_)
            have s0_364 : a361.eval (.tmp 0) = (.slice A0 l.length c0) := up363 _ _ (at_other rfl _ (at_other rfl _ (at_other rfl _ (at_other rfl _ (at_other rfl _ (at_other rfl _ (at_other rfl _ (at_other rfl _ (at_other rfl _ (at_other rfl _ (at_other rfl _ (at_other rfl _ (at_other rfl _ (at_other rfl _ (at_other rfl _ (at_other rfl _ (at_other rfl _ (at_other rfl _ (at_other rfl _ (at_other rfl _ (at_other rfl _ (at_other rfl _ (at_other rfl _ (at_other rfl _ (at_other rfl _ (s0_351))))))))))))))))))))))))))
            have s1_365 : a361.eval (.tmp 1) = (.slice A1 l.length c1) := up363 _ _ (at_other rfl _ (at_other rfl _ (at_other rfl _ (at_other rfl _ (at_other rfl _ (at_other rfl _ (at_other rfl _ (at_other rfl _ (at_other rfl _ (at_other rfl _ (at_other rfl _ (at_other rfl _ (at_other rfl _ (at_other rfl _ (at_other rfl _ (at_other rfl _ (at_other rfl _ (at_other rfl _ (at_other rfl _ (at_other rfl _ (at_other rfl _ (at_other rfl _ (at_other rfl _ (at_other rfl _ (at_other rfl _ (s1_352))))))))))))))))))))))))))
            have s5_366 : a361.eval (.tmp 5) = (.int .i64 (k : Int)) := up363 _ _ (at_other rfl _ (at_other rfl _ (at_other rfl _ (at_other rfl _ (at_other rfl _ (at_other rfl _ (at_other rfl _ (at_other rfl _ (at_other rfl _ (at_other rfl _ (at_other rfl _ (at_other rfl _ (at_other rfl _ (at_other rfl _ (at_other rfl _ (at_other rfl _ (at_other rfl _ (at_other rfl _ (at_other rfl _ (at_other rfl _ (at_other rfl _ (at_other rfl _ (at_other rfl _ (at_other rfl _ (at_other rfl _ (s5_353))))))))))))))))))))))))))
            have s6_367 : a361.eval (.tmp 6) = (.pointer (some ⟨b314, 0, none⟩)) := up363 _ _ (at_other rfl _ (at_other rfl _ (at_other rfl _ (at_other rfl _ (at_other rfl _ (at_other rfl _ (at_other rfl _ (at_other rfl _ (at_other rfl _ (at_other rfl _ (at_other rfl _ (at_other rfl _ (at_other rfl _ (at_other rfl _ (at_other rfl _ (at_other rfl _ (at_other rfl _ (at_other rfl _ (at_other rfl _ (at_other rfl _ (at_other rfl _ (at_other rfl _ (at_other rfl _ (at_other rfl _ (at_other rfl _ (s6_354))))))))))))))))))))))))))
            have s7_368 : a361.eval (.tmp 7) = (.pointer (some ⟨b303, 0, none⟩)) := up363 _ _ (at_other rfl _ (at_other rfl _ (at_other rfl _ (at_other rfl _ (at_other rfl _ (at_other rfl _ (at_other rfl _ (at_other rfl _ (at_other rfl _ (at_other rfl _ (at_other rfl _ (at_other rfl _ (at_other rfl _ (at_other rfl _ (at_other rfl _ (at_other rfl _ (at_other rfl _ (at_other rfl _ (at_other rfl _ (at_other rfl _ (at_other rfl _ (at_other rfl _ (at_other rfl _ (at_other rfl _ (at_other rfl _ (s7_355))))))))))))))))))))))))))
            have s47_369 : a361.eval (.tmp 47) = (.bool true) := up363 _ _ (at_other rfl _ (at_other rfl _ (at_other rfl _ (at_other rfl _ (at_other rfl _ (at_same (((((((((((((((((((hz349.put _ _).put _ _).put _ _).put _ _).put _ _).put _ _).put _ _).put _ _).put _ _).put _ _).put _ _).put _ _).put _ _).put _ _).put _ _).put _ _).put _ _).put _ _).put _ _) rfl _))))))
            have s50_370 : a361.eval (.tmp 50) = (undef) := up363 _ _ (at_other rfl _ (at_other rfl _ (at_same ((((((((((((((((((((((hz349.put _ _).put _ _).put _ _).put _ _).put _ _).put _ _).put _ _).put _ _).put _ _).put _ _).put _ _).put _ _).put _ _).put _ _).put _ _).put _ _).put _ _).put _ _).put _ _).put _ _).put _ _).put _ _) rfl _)))
            have s52_371 : a361.eval (.tmp 52) = (undef) := up363 _ _ (at_same ((((((((((((((((((((((((hz349.put _ _).put _ _).put _ _).put _ _).put _ _).put _ _).put _ _).put _ _).put _ _).put _ _).put _ _).put _ _).put _ _).put _ _).put _ _).put _ _).put _ _).put _ _).put _ _).put _ _).put _ _).put _ _).put _ _).put _ _) rfl _)
            clear up363
            refine V.go_off 47 (by kernel_rfl) (s47_369) (by kernel_rfl) ?_
            refine V.go_off 47 (by kernel_rfl) (at_other rfl _ (s47_369)) (by kernel_rfl) ?_
            refine V.go (V.pk_t (at_other rfl _ (at_other rfl _ (s47_369))) (v := (.bool true)) evc ?_)
            refine V.nil ?_
            refine V.then_n (hK359 _ _ ?_)
            refine V.cond_t (at_same ((hz362.put _ _).put _ _) rfl _) ?_
            refine V.seq (fun K372 hK373 => ?_)
            refine V.region (by kernel_rfl) ?_
            refine V.go (V.asg (v := (.bool false)) evc ?_)
            refine V.nil ?_
            refine V.then_n (hK373 _ _ ?_)
            refine V.flushW ((((hz362.put _ _).put _ _).put _ _).put _ _) (fun a374 hz375 up376 => ?_)
            have s0_377 : a374.eval (.tmp 0) = (.slice A0 l.length c0) := up376 _ _ (at_other rfl _ (at_other rfl _ (at_other rfl _ (at_other rfl _ (s0_364)))))
            have s1_378 : a374.eval (.tmp 1) = (.slice A1 l.length c1) := up376 _ _ (at_other rfl _ (at_other rfl _ (at_other rfl _ (at_other rfl _ (s1_365)))))
            have s4_379 : a374.eval (.tmp 4) = (.bool false) := up376 _ _ (at_same (((hz362.put _ _).put _ _).put _ _) rfl _)
            have s5_380 : a374.eval (.tmp 5) = (.int .i64 (k : Int)) := up376 _ _ (at_other rfl _ (at_other rfl _ (at_other rfl _ (at_other rfl _ (s5_366)))))
            have s6_381 : a374.eval (.tmp 6) = (.pointer (some ⟨b314, 0, none⟩)) := up376 _ _ (at_other rfl _ (at_other rfl _ (at_other rfl _ (at_other rfl _ (s6_367)))))
            have s7_382 : a374.eval (.tmp 7) = (.pointer (some ⟨b303, 0, none⟩)) := up376 _ _ (at_other rfl _ (at_other rfl _ (at_other rfl _ (at_other rfl _ (s7_368)))))
            clear up376
            refine V.ret ?_
            refine V.then_r ?_
            refine V.blk_r ?_
            refine V.then_r ?_
            refine V.then_r ?_
            refine V.blk_r ?_
            refine V.then_r ?_
            refine V.ret1 hz375 rfl (s4_379) ?_
            exact absurd rfl hg360
          ·
            refine V.go_on 33 (by kernel_rfl) (((at_same (((((hz349.put _ _).put _ _).put _ _).put _ _).put _ _) rfl _ : Act.eval _ _ = (.bool (decide (¬ ((at_ globR l (k : Int)).kind) = ((at_ globR l (k : Int)).kind)))))).trans (df hg360)) (V.pv [(6, .pointer (some ⟨b314, 0, none⟩))] ⟨(at_other rfl _ (at_other rfl _ (at_other rfl _ (at_other rfl _ (at_other rfl _ (at_other rfl _ (s6_354))))))), trivial⟩ (by kernel_rfl) (.pointer (some ⟨b314, 1, none⟩)) (by kernel_rfl) ?_)
            refine V.go_on 33 (by kernel_rfl) (((at_other rfl _ (at_same (((((hz349.put _ _).put _ _).put _ _).put _ _).put _ _) rfl _) : Act.eval _ _ = (.bool (decide (¬ ((at_ globR l (k : Int)).kind) = ((at_ globR l (k : Int)).kind)))))).trans (df hg360)) (V.ld ⟨b314, 1, none⟩ (.int .u8 ((at_ globR l (k : Int)).c)) (at_same ((((((hz349.put _ _).put _ _).put _ _).put _ _).put _ _).put _ _) rfl _) (by kernel_rfl) (hB327_347.at 1 rfl) ?_)
            refine V.go_on 33 (by kernel_rfl) (((at_other rfl _ (at_other rfl _ (at_same (((((hz349.put _ _).put _ _).put _ _).put _ _).put _ _) rfl _)) : Act.eval _ _ = (.bool (decide (¬ ((at_ globR l (k : Int)).kind) = ((at_ globR l (k : Int)).kind)))))).trans (df hg360)) (V.pv [(7, .pointer (some ⟨b303, 0, none⟩))] ⟨(at_other rfl _ (at_other rfl _ (at_other rfl _ (at_other rfl _ (at_other rfl _ (at_other rfl _ (at_other rfl _ (at_other rfl _ (s7_355))))))))), trivial⟩ (by kernel_rfl) (.pointer (some ⟨b303, 1, none⟩)) (by kernel_rfl) ?_)
            refine V.go_on 33 (by kernel_rfl) (((at_other rfl _ (at_other rfl _ (at_other rfl _ (at_same (((((hz349.put _ _).put _ _).put _ _).put _ _).put _ _) rfl _))) : Act.eval _ _ = (.bool (decide (¬ ((at_ globR l (k : Int)).kind) = ((at_ globR l (k : Int)).kind)))))).trans (df hg360)) (V.ld ⟨b303, 1, none⟩ (.int .u8 ((at_ globR l (k : Int)).c)) (at_same ((((((((hz349.put _ _).put _ _).put _ _).put _ _).put _ _).put _ _).put _ _).put _ _) rfl _) (by kernel_rfl) (hB338.at 1 rfl) ?_)
            refine V.go_on 33 (by kernel_rfl) (((at_other rfl _ (at_other rfl _ (at_other rfl _ (at_other rfl _ (at_same (((((hz349.put _ _).put _ _).put _ _).put _ _).put _ _) rfl _)))) : Act.eval _ _ = (.bool (decide (¬ ((at_ globR l (k : Int)).kind) = ((at_ globR l (k : Int)).kind)))))).trans (df hg360)) (V.pvw [(35, .int .u8 ((at_ globR l (k : Int)).c)), (37, .int .u8 ((at_ globR l (k : Int)).c))] ⟨(at_other rfl _ (at_other rfl _ (at_same (((((((hz349.put _ _).put _ _).put _ _).put _ _).put _ _).put _ _).put _ _) rfl _))), (at_same (((((((((hz349.put _ _).put _ _).put _ _).put _ _).put _ _).put _ _).put _ _).put _ _).put _ _) rfl _), trivial⟩ (by kernel_rfl) (.bool (((at_ globR l (k : Int)).c) != ((at_ globR l (k : Int)).c))) (.bool (decide (¬ ((at_ globR l (k : Int)).c) = ((at_ globR l (k : Int)).c)))) (by kernel_rfl) V.t_neq ?_)
            refine V.go (V.pk_f (((at_other rfl _ (at_other rfl _ (at_other rfl _ (at_other rfl _ (at_other rfl _ (at_same (((((hz349.put _ _).put _ _).put _ _).put _ _).put _ _) rfl _))))) : Act.eval _ _ = (.bool (decide (¬ ((at_ globR l (k : Int)).kind) = ((at_ globR l (k : Int)).kind)))))).trans (df hg360)) (v := (.bool (decide (¬ ((at_ globR l (k : Int)).c) = ((at_ globR l (k : Int)).c))))) (at_same ((((((((((hz349.put _ _).put _ _).put _ _).put _ _).put _ _).put _ _).put _ _).put _ _).put _ _).put _ _) rfl _) ?_)
            refine V.go (V.mv (v := (.bool (decide (¬ ((at_ globR l (k : Int)).c) = ((at_ globR l (k : Int)).c))))) (at_same (((((((((((hz349.put _ _).put _ _).put _ _).put _ _).put _ _).put _ _).put _ _).put _ _).put _ _).put _ _).put _ _) rfl _) ?_)
            by_cases hg383 : ¬ ((at_ globR l (k : Int)).c) = ((at_ globR l (k : Int)).c)
            ·
              refine V.go_off 40 (by kernel_rfl) (((at_same ((((((((((((hz349.put _ _).put _ _).put _ _).put _ _).put _ _).put _ _).put _ _).put _ _).put _ _).put _ _).put _ _).put _ _) rfl _ : Act.eval _ _ = (.bool (decide (¬ ((at_ globR l (k : Int)).c) = ((at_ globR l (k : Int)).c)))))).trans (dt hg383)) (by kernel_rfl) ?_
              refine V.go_off 40 (by kernel_rfl) (((at_other rfl _ (at_same ((((((((((((hz349.put _ _).put _ _).put _ _).put _ _).put _ _).put _ _).put _ _).put _ _).put _ _).put _ _).put _ _).put _ _) rfl _) : Act.eval _ _ = (.bool (decide (¬ ((at_ globR l (k : Int)).c) = ((at_ globR l (k : Int)).c)))))).trans (dt hg383)) (by kernel_rfl) ?_
              refine V.go_off 40 (by kernel_rfl) (((at_other rfl _ (at_other rfl _ (at_same ((((((((((((hz349.put _ _).put _ _).put _ _).put _ _).put _ _).put _ _).put _ _).put _ _).put _ _).put _ _).put _ _).put _ _) rfl _)) : Act.eval _ _ = (.bool (decide (¬ ((at_ globR l (k : Int)).c) = ((at_ globR l (k : Int)).c)))))).trans (dt hg383)) (by kernel_rfl) ?_
              refine V.go_off 40 (by kernel_rfl) (((at_other rfl _ (at_other rfl _ (at_other rfl _ (at_same ((((((((((((hz349.put _ _).put _ _).put _ _).put _ _).put _ _).put _ _).put _ _).put _ _).put _ _).put _ _).put _ _).put _ _) rfl _))) : Act.eval _ _ = (.bool (decide (¬ ((at_ globR l (k : Int)).c) = ((at_ globR l (k : Int)).c)))))).trans (dt hg383)) (by kernel_rfl) ?_
              refine V.go_off 40 (by kernel_rfl) (((at_other rfl _ (at_other rfl _ (at_other rfl _ (at_other rfl _ (at_same ((((((((((((hz349.put _ _).put _ _).put _ _).put _ _).put _ _).put _ _).put _ _).put _ _).put _ _).put _ _).put _ _).put _ _) rfl _)))) : Act.eval _ _ = (.bool (decide (¬ ((at_ globR l (k : Int)).c) = ((at_ globR l (k : Int)).c)))))).trans (dt hg383)) (by kernel_rfl) ?_
              refine V.go (V.pk_t (((at_other rfl _ (at_other rfl _ (at_other rfl _ (at_other rfl _ (at_other rfl _ (at_same ((((((((((((hz349.put _ _).put _ _).put _ _).put _ _).put _ _).put _ _).put _ _).put _ _).put _ _).put _ _).put _ _).put _ _) rfl _))))) : Act.eval _ _ = (.bool (decide (¬ ((at_ globR l (k : Int)).c) = ((at_ globR l (k : Int)).c)))))).trans (dt hg383)) (v := (.bool true)) evc ?_)
              refine V.go (V.mv (v := (.bool true)) (at_same ((((((((((((((((((hz349.put _ _).put _ _).put _ _).put _ _).put _ _).put _ _).put _ _).put _ _).put _ _).put _ _).put _ _).put _ _).put _ _).put _ _).put _ _).put _ _).put _ _).put _ _) rfl _) ?_)
              refine V.go_off 47 (by kernel_rfl) (at_same (((((((((((((((((((hz349.put _ _).put _ _).put _ _).put _ _).put _ _).put _ _).put _ _).put _ _).put _ _).put _ _).put _ _).put _ _).put _ _).put _ _).put _ _).put _ _).put _ _).put _ _).put _ _) rfl _) (by kernel_rfl) ?_
              refine V.go_off 47 (by kernel_rfl) (at_other rfl _ (at_same (((((((((((((((((((hz349.put _ _).put _ _).put _ _).put _ _).put _ _).put _ _).put _ _).put _ _).put _ _).put _ _).put _ _).put _ _).put _ _).put _ _).put _ _).put _ _).put _ _).put _ _).put _ _) rfl _)) (by kernel_rfl) ?_
              refine V.go_off 47 (by kernel_rfl) (at_other rfl _ (at_other rfl _ (at_same (((((((((((((((((((hz349.put _ _).put _ _).put _ _).put _ _).put _ _).put _ _).put _ _).put _ _).put _ _).put _ _).put _ _).put _ _).put _ _).put _ _).put _ _).put _ _).put _ _).put _ _).put _ _) rfl _))) (by kernel_rfl) ?_
              refine V.go_off 47 (by kernel_rfl) (at_other rfl _ (at_other rfl _ (at_other rfl _ (at_same (((((((((((((((((((hz349.put _ _).put _ _).put _ _).put _ _).put _ _).put _ _).put _ _).put _ _).put _ _).put _ _).put _ _).put _ _).put _ _).put _ _).put _ _).put _ _).put _ _).put _ _).put _ _) rfl _)))) (by kernel_rfl) ?_
              refine V.go_off 47 (by kernel_rfl) (at_other rfl _ (at_other rfl _ (at_other rfl _ (at_other rfl _ (at_same (((((((((((((((((((hz349.put _ _).put _ _).put _ _).put _ _).put _ _).put _ _).put _ _).put _ _).put _ _).put _ _).put _ _).put _ _).put _ _).put _ _).put _ _).put _ _).put _ _).put _ _).put _ _) rfl _))))) (by kernel_rfl) ?_
              refine V.flushL (((((((((((((((((((((((((hz349.put _ _).put _ _).put _ _).put _ _).put _ _).put _ _).put _ _).put _ _).put _ _).put _ _).put _ _).put _ _).put _ _).put _ _).put _ _).put _ _).put _ _).put _ _).put _ _).put _ _).put _ _).put _ _).put _ _).put _ _).put _ _) (fun a384 hz385 up386 => ?_)
              have s0_387 : a384.eval (.tmp 0) = (.slice A0 l.length c0) := up386 _ _ (at_other rfl _ (at_other rfl _ (at_other rfl _ (at_other rfl _ (at_other rfl _ (at_other rfl _ (at_other rfl _ (at_other rfl _ (at_other rfl _ (at_other rfl _ (at_other rfl _ (at_other rfl _ (at_other rfl _ (at_other rfl _ (at_other rfl _ (at_other rfl _ (at_other rfl _ (at_other rfl _ (at_other rfl _ (at_other rfl _ (at_other rfl _ (at_other rfl _ (at_other rfl _ (at_other rfl _ (at_other rfl _ (s0_351))))))))))))))))))))))))))
              have s1_388 : a384.eval (.tmp 1) = (.slice A1 l.length c1) := up386 _ _ (at_other rfl _ (at_other rfl _ (at_other rfl _ (at_other rfl _ (at_other rfl _ (at_other rfl _ (at_other rfl _ (at_other rfl _ (at_other rfl _ (at_other rfl _ (at_other rfl _ (at_other rfl _ (at_other rfl _ (at_other rfl _ (at_other rfl _ (at_other rfl _ (at_other rfl _ (at_other rfl _ (at_other rfl _ (at_other rfl _ (at_other rfl _ (at_other rfl _ (at_other rfl _ (at_other rfl _ (at_other rfl _ (s1_352))))))))))))))))))))))))))
              have s5_389 : a384.eval (.tmp 5) = (.int .i64 (k : Int)) := up386 _ _ (at_other rfl _ (at_other rfl _ (at_other rfl _ (at_other rfl _ (at_other rfl _ (at_other rfl _ (at_other rfl _ (at_other rfl _ (at_other rfl _ (at_other rfl _ (at_other rfl _ (at_other rfl _ (at_other rfl _ (at_other rfl _ (at_other rfl _ (at_other rfl _ (at_other rfl _ (at_other rfl _ (at_other rfl _ (at_other rfl _ (at_other rfl _ (at_other rfl _ (at_other rfl _ (at_other rfl _ (at_other rfl _ (s5_353))))))))))))))))))))))))))
              have s6_390 : a384.eval (.tmp 6) = (.pointer (some ⟨b314, 0, none⟩)) := up386 _ _ (at_other rfl _ (at_other rfl _ (at_other rfl _ (at_other rfl _ (at_other rfl _ (at_other rfl _ (at_other rfl _ (at_other rfl _ (at_other rfl _ (at_other rfl _ (at_other rfl _ (at_other rfl _ (at_other rfl _ (at_other rfl _ (at_other rfl _ (at_other rfl _ (at_other rfl _ (at_other rfl _ (at_other rfl _ (at_other rfl _ (at_other rfl _ (at_other rfl _ (at_other rfl _ (at_other rfl _ (at_other rfl _ (s6_354))))))))))))))))))))))))))
              have s7_391 : a384.eval (.tmp 7) = (.pointer (some ⟨b303, 0, none⟩)) := up386 _ _ (at_other rfl _ (at_other rfl _ (at_other rfl _ (at_other rfl _ (at_other rfl _ (at_other rfl _ (at_other rfl _ (at_other rfl _ (at_other rfl _ (at_other rfl _ (at_other rfl _ (at_other rfl _ (at_other rfl _ (at_other rfl _ (at_other rfl _ (at_other rfl _ (at_other rfl _ (at_other rfl _ (at_other rfl _ (at_other rfl _ (at_other rfl _ (at_other rfl _ (at_other rfl _ (at_other rfl _ (at_other rfl _ (s7_355))))))))))))))))))))))))))
              have s47_392 : a384.eval (.tmp 47) = (.bool true) := up386 _ _ (at_other rfl _ (at_other rfl _ (at_other rfl _ (at_other rfl _ (at_other rfl _ (at_same (((((((((((((((((((hz349.put _ _).put _ _).put _ _).put _ _).put _ _).put _ _).put _ _).put _ _).put _ _).put _ _).put _ _).put _ _).put _ _).put _ _).put _ _).put _ _).put _ _).put _ _).put _ _) rfl _))))))
              have s50_393 : a384.eval (.tmp 50) = (undef) := up386 _ _ (at_other rfl _ (at_other rfl _ (at_same ((((((((((((((((((((((hz349.put _ _).put _ _).put _ _).put _ _).put _ _).put _ _).put _ _).put _ _).put _ _).put _ _).put _ _).put _ _).put _ _).put _ _).put _ _).put _ _).put _ _).put _ _).put _ _).put _ _).put _ _).put _ _) rfl _)))
              have s52_394 : a384.eval (.tmp 52) = (undef) := up386 _ _ (at_same ((((((((((((((((((((((((hz349.put _ _).put _ _).put _ _).put _ _).put _ _).put _ _).put _ _).put _ _).put _ _).put _ _).put _ _).put _ _).put _ _).put _ _).put _ _).put _ _).put _ _).put _ _).put _ _).put _ _).put _ _).put _ _).put _ _).put _ _) rfl _)
              clear up386
              refine V.go_off 47 (by kernel_rfl) (s47_392) (by kernel_rfl) ?_
              refine V.go_off 47 (by kernel_rfl) (at_other rfl _ (s47_392)) (by kernel_rfl) ?_
              refine V.go (V.pk_t (at_other rfl _ (at_other rfl _ (s47_392))) (v := (.bool true)) evc ?_)
              refine V.nil ?_
              refine V.then_n (hK359 _ _ ?_)
              refine V.cond_t (at_same ((hz385.put _ _).put _ _) rfl _) ?_
              refine V.seq (fun K395 hK396 => ?_)
              refine V.region (by kernel_rfl) ?_
              refine V.go (V.asg (v := (.bool false)) evc ?_)
              refine V.nil ?_
              refine V.then_n (hK396 _ _ ?_)
              refine V.flushW ((((hz385.put _ _).put _ _).put _ _).put _ _) (fun a397 hz398 up399 => ?_)
              have s0_400 : a397.eval (.tmp 0) = (.slice A0 l.length c0) := up399 _ _ (at_other rfl _ (at_other rfl _ (at_other rfl _ (at_other rfl _ (s0_387)))))
              have s1_401 : a397.eval (.tmp 1) = (.slice A1 l.length c1) := up399 _ _ (at_other rfl _ (at_other rfl _ (at_other rfl _ (at_other rfl _ (s1_388)))))
              have s4_402 : a397.eval (.tmp 4) = (.bool false) := up399 _ _ (at_same (((hz385.put _ _).put _ _).put _ _) rfl _)
              have s5_403 : a397.eval (.tmp 5) = (.int .i64 (k : Int)) := up399 _ _ (at_other rfl _ (at_other rfl _ (at_other rfl _ (at_other rfl _ (s5_389)))))
              have s6_404 : a397.eval (.tmp 6) = (.pointer (some ⟨b314, 0, none⟩)) := up399 _ _ (at_other rfl _ (at_other rfl _ (at_other rfl _ (at_other rfl _ (s6_390)))))
              have s7_405 : a397.eval (.tmp 7) = (.pointer (some ⟨b303, 0, none⟩)) := up399 _ _ (at_other rfl _ (at_other rfl _ (at_other rfl _ (at_other rfl _ (s7_391)))))
              clear up399
              refine V.ret ?_
              refine V.then_r ?_
              refine V.blk_r ?_
              refine V.then_r ?_
              refine V.then_r ?_
              refine V.blk_r ?_
              refine V.then_r ?_
              refine V.ret1 hz398 rfl (s4_402) ?_
              exact absurd rfl hg383
            ·
              refine V.go_on 40 (by kernel_rfl) (((at_same ((((((((((((hz349.put _ _).put _ _).put _ _).put _ _).put _ _).put _ _).put _ _).put _ _).put _ _).put _ _).put _ _).put _ _) rfl _ : Act.eval _ _ = (.bool (decide (¬ ((at_ globR l (k : Int)).c) = ((at_ globR l (k : Int)).c)))))).trans (df hg383)) (V.pv [(6, .pointer (some ⟨b314, 0, none⟩))] ⟨(at_other rfl _ (at_other rfl _ (at_other rfl _ (at_other rfl _ (at_other rfl _ (at_other rfl _ (at_other rfl _ (at_other rfl _ (at_other rfl _ (at_other rfl _ (at_other rfl _ (at_other rfl _ (at_other rfl _ (s6_354)))))))))))))), trivial⟩ (by kernel_rfl) (.pointer (some ⟨b314, 2, none⟩)) (by kernel_rfl) ?_)
              refine V.go_on 40 (by kernel_rfl) (((at_other rfl _ (at_same ((((((((((((hz349.put _ _).put _ _).put _ _).put _ _).put _ _).put _ _).put _ _).put _ _).put _ _).put _ _).put _ _).put _ _) rfl _) : Act.eval _ _ = (.bool (decide (¬ ((at_ globR l (k : Int)).c) = ((at_ globR l (k : Int)).c)))))).trans (df hg383)) (V.ld ⟨b314, 2, none⟩ (.bool ((at_ globR l (k : Int)).neg)) (at_same (((((((((((((hz349.put _ _).put _ _).put _ _).put _ _).put _ _).put _ _).put _ _).put _ _).put _ _).put _ _).put _ _).put _ _).put _ _) rfl _) (by kernel_rfl) (hB327_347.at 2 rfl) ?_)
              refine V.go_on 40 (by kernel_rfl) (((at_other rfl _ (at_other rfl _ (at_same ((((((((((((hz349.put _ _).put _ _).put _ _).put _ _).put _ _).put _ _).put _ _).put _ _).put _ _).put _ _).put _ _).put _ _) rfl _)) : Act.eval _ _ = (.bool (decide (¬ ((at_ globR l (k : Int)).c) = ((at_ globR l (k : Int)).c)))))).trans (df hg383)) (V.pv [(7, .pointer (some ⟨b303, 0, none⟩))] ⟨(at_other rfl _ (at_other rfl _ (at_other rfl _ (at_other rfl _ (at_other rfl _ (at_other rfl _ (at_other rfl _ (at_other rfl _ (at_other rfl _ (at_other rfl _ (at_other rfl _ (at_other rfl _ (at_other rfl _ (at_other rfl _ (at_other rfl _ (s7_355)))))))))))))))), trivial⟩ (by kernel_rfl) (.pointer (some ⟨b303, 2, none⟩)) (by kernel_rfl) ?_)
              refine V.go_on 40 (by kernel_rfl) (((at_other rfl _ (at_other rfl _ (at_other rfl _ (at_same ((((((((((((hz349.put _ _).put _ _).put _ _).put _ _).put _ _).put _ _).put _ _).put _ _).put _ _).put _ _).put _ _).put _ _) rfl _))) : Act.eval _ _ = (.bool (decide (¬ ((at_ globR l (k : Int)).c) = ((at_ globR l (k : Int)).c)))))).trans (df hg383)) (V.ld ⟨b303, 2, none⟩ (.bool ((at_ globR l (k : Int)).neg)) (at_same (((((((((((((((hz349.put _ _).put _ _).put _ _).put _ _).put _ _).put _ _).put _ _).put _ _).put _ _).put _ _).put _ _).put _ _).put _ _).put _ _).put _ _) rfl _) (by kernel_rfl) (hB338.at 2 rfl) ?_)
              refine V.go_on 40 (by kernel_rfl) (((at_other rfl _ (at_other rfl _ (at_other rfl _ (at_other rfl _ (at_same ((((((((((((hz349.put _ _).put _ _).put _ _).put _ _).put _ _).put _ _).put _ _).put _ _).put _ _).put _ _).put _ _).put _ _) rfl _)))) : Act.eval _ _ = (.bool (decide (¬ ((at_ globR l (k : Int)).c) = ((at_ globR l (k : Int)).c)))))).trans (df hg383)) (V.pvw [(42, .bool ((at_ globR l (k : Int)).neg)), (44, .bool ((at_ globR l (k : Int)).neg))] ⟨(at_other rfl _ (at_other rfl _ (at_same ((((((((((((((hz349.put _ _).put _ _).put _ _).put _ _).put _ _).put _ _).put _ _).put _ _).put _ _).put _ _).put _ _).put _ _).put _ _).put _ _) rfl _))), (at_same ((((((((((((((((hz349.put _ _).put _ _).put _ _).put _ _).put _ _).put _ _).put _ _).put _ _).put _ _).put _ _).put _ _).put _ _).put _ _).put _ _).put _ _).put _ _) rfl _), trivial⟩ (by kernel_rfl) (.bool (!(((at_ globR l (k : Int)).neg) == ((at_ globR l (k : Int)).neg)))) (.bool (decide (¬ ((at_ globR l (k : Int)).neg) = ((at_ globR l (k : Int)).neg)))) (by kernel_rfl) V.t_bneq ?_)
              refine V.go (V.pk_f (((at_other rfl _ (at_other rfl _ (at_other rfl _ (at_other rfl _ (at_other rfl _ (at_same ((((((((((((hz349.put _ _).put _ _).put _ _).put _ _).put _ _).put _ _).put _ _).put _ _).put _ _).put _ _).put _ _).put _ _) rfl _))))) : Act.eval _ _ = (.bool (decide (¬ ((at_ globR l (k : Int)).c) = ((at_ globR l (k : Int)).c)))))).trans (df hg383)) (v := (.bool (decide (¬ ((at_ globR l (k : Int)).neg) = ((at_ globR l (k : Int)).neg))))) (at_same (((((((((((((((((hz349.put _ _).put _ _).put _ _).put _ _).put _ _).put _ _).put _ _).put _ _).put _ _).put _ _).put _ _).put _ _).put _ _).put _ _).put _ _).put _ _).put _ _) rfl _) ?_)
              refine V.go (V.mv (v := (.bool (decide (¬ ((at_ globR l (k : Int)).neg) = ((at_ globR l (k : Int)).neg))))) (at_same ((((((((((((((((((hz349.put _ _).put _ _).put _ _).put _ _).put _ _).put _ _).put _ _).put _ _).put _ _).put _ _).put _ _).put _ _).put _ _).put _ _).put _ _).put _ _).put _ _).put _ _) rfl _) ?_)
              by_cases hg406 : ¬ ((at_ globR l (k : Int)).neg) = ((at_ globR l (k : Int)).neg)
              ·
                refine V.go_off 47 (by kernel_rfl) (((at_same (((((((((((((((((((hz349.put _ _).put _ _).put _ _).put _ _).put _ _).put _ _).put _ _).put _ _).put _ _).put _ _).put _ _).put _ _).put _ _).put _ _).put _ _).put _ _).put _ _).put _ _).put _ _) rfl _ : Act.eval _ _ = (.bool (decide (¬ ((at_ globR l (k : Int)).neg) = ((at_ globR l (k : Int)).neg)))))).trans (dt hg406)) (by kernel_rfl) ?_
                refine V.go_off 47 (by kernel_rfl) (((at_other rfl _ (at_same (((((((((((((((((((hz349.put _ _).put _ _).put _ _).put _ _).put _ _).put _ _).put _ _).put _ _).put _ _).put _ _).put _ _).put _ _).put _ _).put _ _).put _ _).put _ _).put _ _).put _ _).put _ _) rfl _) : Act.eval _ _ = (.bool (decide (¬ ((at_ globR l (k : Int)).neg) = ((at_ globR l (k : Int)).neg)))))).trans (dt hg406)) (by kernel_rfl) ?_
                refine V.go_off 47 (by kernel_rfl) (((at_other rfl _ (at_other rfl _ (at_same (((((((((((((((((((hz349.put _ _).put _ _).put _ _).put _ _).put _ _).put _ _).put _ _).put _ _).put _ _).put _ _).put _ _).put _ _).put _ _).put _ _).put _ _).put _ _).put _ _).put _ _).put _ _) rfl _)) : Act.eval _ _ = (.bool (decide (¬ ((at_ globR l (k : Int)).neg) = ((at_ globR l (k : Int)).neg)))))).trans (dt hg406)) (by kernel_rfl) ?_
                refine V.go_off 47 (by kernel_rfl) (((at_other rfl _ (at_other rfl _ (at_other rfl _ (at_same (((((((((((((((((((hz349.put _ _).put _ _).put _ _).put _ _).put _ _).put _ _).put _ _).put _ _).put _ _).put _ _).put _ _).put _ _).put _ _).put _ _).put _ _).put _ _).put _ _).put _ _).put _ _) rfl _))) : Act.eval _ _ = (.bool (decide (¬ ((at_ globR l (k : Int)).neg) = ((at_ globR l (k : Int)).neg)))))).trans (dt hg406)) (by kernel_rfl) ?_
                refine V.go_off 47 (by kernel_rfl) (((at_other rfl _ (at_other rfl _ (at_other rfl _ (at_other rfl _ (at_same (((((((((((((((((((hz349.put _ _).put _ _).put _ _).put _ _).put _ _).put _ _).put _ _).put _ _).put _ _).put _ _).put _ _).put _ _).put _ _).put _ _).put _ _).put _ _).put _ _).put _ _).put _ _) rfl _)))) : Act.eval _ _ = (.bool (decide (¬ ((at_ globR l (k : Int)).neg) = ((at_ globR l (k : Int)).neg)))))).trans (dt hg406)) (by kernel_rfl) ?_
                refine V.flushL (((((((((((((((((((((((((hz349.put _ _).put _ _).put _ _).put _ _).put _ _).put _ _).put _ _).put _ _).put _ _).put _ _).put _ _).put _ _).put _ _).put _ _).put _ _).put _ _).put _ _).put _ _).put _ _).put _ _).put _ _).put _ _).put _ _).put _ _).put _ _) (fun a407 hz408 up409 => ?_)
                have s0_410 : a407.eval (.tmp 0) = (.slice A0 l.length c0) := up409 _ _ (at_other rfl _ (at_other rfl _ (at_other rfl _ (at_other rfl _ (at_other rfl _ (at_other rfl _ (at_other rfl _ (at_other rfl _ (at_other rfl _ (at_other rfl _ (at_other rfl _ (at_other rfl _ (at_other rfl _ (at_other rfl _ (at_other rfl _ (at_other rfl _ (at_other rfl _ (at_other rfl _ (at_other rfl _ (at_other rfl _ (at_other rfl _ (at_other rfl _ (at_other rfl _ (at_other rfl _ (at_other rfl _ (s0_351))))))))))))))))))))))))))
                have s1_411 : a407.eval (.tmp 1) = (.slice A1 l.length c1) := up409 _ _ (at_other rfl _ (at_other rfl _ (at_other rfl _ (at_other rfl _ (at_other rfl _ (at_other rfl _ (at_other rfl _ (at_other rfl _ (at_other rfl _ (at_other rfl _ (at_other rfl _ (at_other rfl _ (at_other rfl _ (at_other rfl _ (at_other rfl _ (at_other rfl _ (at_other rfl _ (at_other rfl _ (at_other rfl _ (at_other rfl _ (at_other rfl _ (at_other rfl _ (at_other rfl _ (at_other rfl _ (at_other rfl _ (s1_352))))))))))))))))))))))))))
                have s5_412 : a407.eval (.tmp 5) = (.int .i64 (k : Int)) := up409 _ _ (at_other rfl _ (at_other rfl _ (at_other rfl _ (at_other rfl _ (at_other rfl _ (at_other rfl _ (at_other rfl _ (at_other rfl _ (at_other rfl _ (at_other rfl _ (at_other rfl _ (at_other rfl _ (at_other rfl _ (at_other rfl _ (at_other rfl _ (at_other rfl _ (at_other rfl _ (at_other rfl _ (at_other rfl _ (at_other rfl _ (at_other rfl _ (at_other rfl _ (at_other rfl _ (at_other rfl _ (at_other rfl _ (s5_353))))))))))))))))))))))))))
                have s6_413 : a407.eval (.tmp 6) = (.pointer (some ⟨b314, 0, none⟩)) := up409 _ _ (at_other rfl _ (at_other rfl _ (at_other rfl _ (at_other rfl _ (at_other rfl _ (at_other rfl _ (at_other rfl _ (at_other rfl _ (at_other rfl _ (at_other rfl _ (at_other rfl _ (at_other rfl _ (at_other rfl _ (at_other rfl _ (at_other rfl _ (at_other rfl _ (at_other rfl _ (at_other rfl _ (at_other rfl _ (at_other rfl _ (at_other rfl _ (at_other rfl _ (at_other rfl _ (at_other rfl _ (at_other rfl _ (s6_354))))))))))))))))))))))))))
                have s7_414 : a407.eval (.tmp 7) = (.pointer (some ⟨b303, 0, none⟩)) := up409 _ _ (at_other rfl _ (at_other rfl _ (at_other rfl _ (at_other rfl _ (at_other rfl _ (at_other rfl _ (at_other rfl _ (at_other rfl _ (at_other rfl _ (at_other rfl _ (at_other rfl _ (at_other rfl _ (at_other rfl _ (at_other rfl _ (at_other rfl _ (at_other rfl _ (at_other rfl _ (at_other rfl _ (at_other rfl _ (at_other rfl _ (at_other rfl _ (at_other rfl _ (at_other rfl _ (at_other rfl _ (at_other rfl _ (s7_355))))))))))))))))))))))))))
                have s47_415 : a407.eval (.tmp 47) = (.bool (decide (¬ ((at_ globR l (k : Int)).neg) = ((at_ globR l (k : Int)).neg)))) := up409 _ _ (at_other rfl _ (at_other rfl _ (at_other rfl _ (at_other rfl _ (at_other rfl _ (at_same (((((((((((((((((((hz349.put _ _).put _ _).put _ _).put _ _).put _ _).put _ _).put _ _).put _ _).put _ _).put _ _).put _ _).put _ _).put _ _).put _ _).put _ _).put _ _).put _ _).put _ _).put _ _) rfl _))))))
                have s50_416 : a407.eval (.tmp 50) = (undef) := up409 _ _ (at_other rfl _ (at_other rfl _ (at_same ((((((((((((((((((((((hz349.put _ _).put _ _).put _ _).put _ _).put _ _).put _ _).put _ _).put _ _).put _ _).put _ _).put _ _).put _ _).put _ _).put _ _).put _ _).put _ _).put _ _).put _ _).put _ _).put _ _).put _ _).put _ _) rfl _)))
                have s52_417 : a407.eval (.tmp 52) = (undef) := up409 _ _ (at_same ((((((((((((((((((((((((hz349.put _ _).put _ _).put _ _).put _ _).put _ _).put _ _).put _ _).put _ _).put _ _).put _ _).put _ _).put _ _).put _ _).put _ _).put _ _).put _ _).put _ _).put _ _).put _ _).put _ _).put _ _).put _ _).put _ _).put _ _) rfl _)
                clear up409
                refine V.go_off 47 (by kernel_rfl) ((s47_415).trans (dt hg406)) (by kernel_rfl) ?_
                refine V.go_off 47 (by kernel_rfl) (((at_other rfl _ (s47_415) : Act.eval _ _ = (.bool (decide (¬ ((at_ globR l (k : Int)).neg) = ((at_ globR l (k : Int)).neg)))))).trans (dt hg406)) (by kernel_rfl) ?_
                refine V.go (V.pk_t (((at_other rfl _ (at_other rfl _ (s47_415)) : Act.eval _ _ = (.bool (decide (¬ ((at_ globR l (k : Int)).neg) = ((at_ globR l (k : Int)).neg)))))).trans (dt hg406)) (v := (.bool true)) evc ?_)
                refine V.nil ?_
                refine V.then_n (hK359 _ _ ?_)
                refine V.cond_t (at_same ((hz408.put _ _).put _ _) rfl _) ?_
                refine V.seq (fun K418 hK419 => ?_)
                refine V.region (by kernel_rfl) ?_
                refine V.go (V.asg (v := (.bool false)) evc ?_)
                refine V.nil ?_
                refine V.then_n (hK419 _ _ ?_)
                refine V.flushW ((((hz408.put _ _).put _ _).put _ _).put _ _) (fun a420 hz421 up422 => ?_)
                have s0_423 : a420.eval (.tmp 0) = (.slice A0 l.length c0) := up422 _ _ (at_other rfl _ (at_other rfl _ (at_other rfl _ (at_other rfl _ (s0_410)))))
                have s1_424 : a420.eval (.tmp 1) = (.slice A1 l.length c1) := up422 _ _ (at_other rfl _ (at_other rfl _ (at_other rfl _ (at_other rfl _ (s1_411)))))
                have s4_425 : a420.eval (.tmp 4) = (.bool false) := up422 _ _ (at_same (((hz408.put _ _).put _ _).put _ _) rfl _)
                have s5_426 : a420.eval (.tmp 5) = (.int .i64 (k : Int)) := up422 _ _ (at_other rfl _ (at_other rfl _ (at_other rfl _ (at_other rfl _ (s5_412)))))
                have s6_427 : a420.eval (.tmp 6) = (.pointer (some ⟨b314, 0, none⟩)) := up422 _ _ (at_other rfl _ (at_other rfl _ (at_other rfl _ (at_other rfl _ (s6_413)))))
                have s7_428 : a420.eval (.tmp 7) = (.pointer (some ⟨b303, 0, none⟩)) := up422 _ _ (at_other rfl _ (at_other rfl _ (at_other rfl _ (at_other rfl _ (s7_414)))))
                clear up422
                refine V.ret ?_
                refine V.then_r ?_
                refine V.blk_r ?_
                refine V.then_r ?_
                refine V.then_r ?_
                refine V.blk_r ?_
                refine V.then_r ?_
                refine V.ret1 hz421 rfl (s4_425) ?_
                exact absurd rfl hg406
              ·
                refine V.go_on 47 (by kernel_rfl) (((at_same (((((((((((((((((((hz349.put _ _).put _ _).put _ _).put _ _).put _ _).put _ _).put _ _).put _ _).put _ _).put _ _).put _ _).put _ _).put _ _).put _ _).put _ _).put _ _).put _ _).put _ _).put _ _) rfl _ : Act.eval _ _ = (.bool (decide (¬ ((at_ globR l (k : Int)).neg) = ((at_ globR l (k : Int)).neg)))))).trans (df hg406)) (V.pv [(6, .pointer (some ⟨b314, 0, none⟩))] ⟨(at_other rfl _ (at_other rfl _ (at_other rfl _ (at_other rfl _ (at_other rfl _ (at_other rfl _ (at_other rfl _ (at_other rfl _ (at_other rfl _ (at_other rfl _ (at_other rfl _ (at_other rfl _ (at_other rfl _ (at_other rfl _ (at_other rfl _ (at_other rfl _ (at_other rfl _ (at_other rfl _ (at_other rfl _ (at_other rfl _ (s6_354))))))))))))))))))))), trivial⟩ (by kernel_rfl) (.pointer (some ⟨b314, 3, none⟩)) (by kernel_rfl) ?_)
                refine V.go_on 47 (by kernel_rfl) (((at_other rfl _ (at_same (((((((((((((((((((hz349.put _ _).put _ _).put _ _).put _ _).put _ _).put _ _).put _ _).put _ _).put _ _).put _ _).put _ _).put _ _).put _ _).put _ _).put _ _).put _ _).put _ _).put _ _).put _ _) rfl _) : Act.eval _ _ = (.bool (decide (¬ ((at_ globR l (k : Int)).neg) = ((at_ globR l (k : Int)).neg)))))).trans (df hg406)) (V.ld ⟨b314, 3, none⟩ (.slice A57 ((at_ globR l (k : Int)).rs.length) c58) (at_same ((((((((((((((((((((hz349.put _ _).put _ _).put _ _).put _ _).put _ _).put _ _).put _ _).put _ _).put _ _).put _ _).put _ _).put _ _).put _ _).put _ _).put _ _).put _ _).put _ _).put _ _).put _ _).put _ _) rfl _) (by kernel_rfl) (hB327_347.at 3 rfl) ?_)
                refine V.go_on 47 (by kernel_rfl) (((at_other rfl _ (at_other rfl _ (at_same (((((((((((((((((((hz349.put _ _).put _ _).put _ _).put _ _).put _ _).put _ _).put _ _).put _ _).put _ _).put _ _).put _ _).put _ _).put _ _).put _ _).put _ _).put _ _).put _ _).put _ _).put _ _) rfl _)) : Act.eval _ _ = (.bool (decide (¬ ((at_ globR l (k : Int)).neg) = ((at_ globR l (k : Int)).neg)))))).trans (df hg406)) (V.pv [(49, .slice A57 ((at_ globR l (k : Int)).rs.length) c58)] ⟨(at_same (((((((((((((((((((((hz349.put _ _).put _ _).put _ _).put _ _).put _ _).put _ _).put _ _).put _ _).put _ _).put _ _).put _ _).put _ _).put _ _).put _ _).put _ _).put _ _).put _ _).put _ _).put _ _).put _ _).put _ _) rfl _), trivial⟩ (by kernel_rfl) (.int .i64 (((at_ globR l (k : Int)).rs.length : Nat) : Int)) (by kernel_rfl) ?_)
                refine V.go_on 47 (by kernel_rfl) (((at_other rfl _ (at_other rfl _ (at_other rfl _ (at_same (((((((((((((((((((hz349.put _ _).put _ _).put _ _).put _ _).put _ _).put _ _).put _ _).put _ _).put _ _).put _ _).put _ _).put _ _).put _ _).put _ _).put _ _).put _ _).put _ _).put _ _).put _ _) rfl _))) : Act.eval _ _ = (.bool (decide (¬ ((at_ globR l (k : Int)).neg) = ((at_ globR l (k : Int)).neg)))))).trans (df hg406)) (V.pv [(7, .pointer (some ⟨b303, 0, none⟩))] ⟨(at_other rfl _ (at_other rfl _ (at_other rfl _ (at_other rfl _ (at_other rfl _ (at_other rfl _ (at_other rfl _ (at_other rfl _ (at_other rfl _ (at_other rfl _ (at_other rfl _ (at_other rfl _ (at_other rfl _ (at_other rfl _ (at_other rfl _ (at_other rfl _ (at_other rfl _ (at_other rfl _ (at_other rfl _ (at_other rfl _ (at_other rfl _ (at_other rfl _ (at_other rfl _ (s7_355)))))))))))))))))))))))), trivial⟩ (by kernel_rfl) (.pointer (some ⟨b303, 3, none⟩)) (by kernel_rfl) ?_)
                refine V.go_on 47 (by kernel_rfl) (((at_other rfl _ (at_other rfl _ (at_other rfl _ (at_other rfl _ (at_same (((((((((((((((((((hz349.put _ _).put _ _).put _ _).put _ _).put _ _).put _ _).put _ _).put _ _).put _ _).put _ _).put _ _).put _ _).put _ _).put _ _).put _ _).put _ _).put _ _).put _ _).put _ _) rfl _)))) : Act.eval _ _ = (.bool (decide (¬ ((at_ globR l (k : Int)).neg) = ((at_ globR l (k : Int)).neg)))))).trans (df hg406)) (V.ld ⟨b303, 3, none⟩ (.slice A67 ((at_ globR l (k : Int)).rs.length) c68) (at_same (((((((((((((((((((((((hz349.put _ _).put _ _).put _ _).put _ _).put _ _).put _ _).put _ _).put _ _).put _ _).put _ _).put _ _).put _ _).put _ _).put _ _).put _ _).put _ _).put _ _).put _ _).put _ _).put _ _).put _ _).put _ _).put _ _) rfl _) (by kernel_rfl) (hB338.at 3 rfl) ?_)
                refine V.flushL (((((((((((((((((((((((((hz349.put _ _).put _ _).put _ _).put _ _).put _ _).put _ _).put _ _).put _ _).put _ _).put _ _).put _ _).put _ _).put _ _).put _ _).put _ _).put _ _).put _ _).put _ _).put _ _).put _ _).put _ _).put _ _).put _ _).put _ _).put _ _) (fun a429 hz430 up431 => ?_)
                have s0_432 : a429.eval (.tmp 0) = (.slice A0 l.length c0) := up431 _ _ (at_other rfl _ (at_other rfl _ (at_other rfl _ (at_other rfl _ (at_other rfl _ (at_other rfl _ (at_other rfl _ (at_other rfl _ (at_other rfl _ (at_other rfl _ (at_other rfl _ (at_other rfl _ (at_other rfl _ (at_other rfl _ (at_other rfl _ (at_other rfl _ (at_other rfl _ (at_other rfl _ (at_other rfl _ (at_other rfl _ (at_other rfl _ (at_other rfl _ (at_other rfl _ (at_other rfl _ (at_other rfl _ (s0_351))))))))))))))))))))))))))
                have s1_433 : a429.eval (.tmp 1) = (.slice A1 l.length c1) := up431 _ _ (at_other rfl _ (at_other rfl _ (at_other rfl _ (at_other rfl _ (at_other rfl _ (at_other rfl _ (at_other rfl _ (at_other rfl _ (at_other rfl _ (at_other rfl _ (at_other rfl _ (at_other rfl _ (at_other rfl _ (at_other rfl _ (at_other rfl _ (at_other rfl _ (at_other rfl _ (at_other rfl _ (at_other rfl _ (at_other rfl _ (at_other rfl _ (at_other rfl _ (at_other rfl _ (at_other rfl _ (at_other rfl _ (s1_352))))))))))))))))))))))))))
                have s5_434 : a429.eval (.tmp 5) = (.int .i64 (k : Int)) := up431 _ _ (at_other rfl _ (at_other rfl _ (at_other rfl _ (at_other rfl _ (at_other rfl _ (at_other rfl _ (at_other rfl _ (at_other rfl _ (at_other rfl _ (at_other rfl _ (at_other rfl _ (at_other rfl _ (at_other rfl _ (at_other rfl _ (at_other rfl _ (at_other rfl _ (at_other rfl _ (at_other rfl _ (at_other rfl _ (at_other rfl _ (at_other rfl _ (at_other rfl _ (at_other rfl _ (at_other rfl _ (at_other rfl _ (s5_353))))))))))))))))))))))))))
                have s6_435 : a429.eval (.tmp 6) = (.pointer (some ⟨b314, 0, none⟩)) := up431 _ _ (at_other rfl _ (at_other rfl _ (at_other rfl _ (at_other rfl _ (at_other rfl _ (at_other rfl _ (at_other rfl _ (at_other rfl _ (at_other rfl _ (at_other rfl _ (at_other rfl _ (at_other rfl _ (at_other rfl _ (at_other rfl _ (at_other rfl _ (at_other rfl _ (at_other rfl _ (at_other rfl _ (at_other rfl _ (at_other rfl _ (at_other rfl _ (at_other rfl _ (at_other rfl _ (at_other rfl _ (at_other rfl _ (s6_354))))))))))))))))))))))))))
                have s7_436 : a429.eval (.tmp 7) = (.pointer (some ⟨b303, 0, none⟩)) := up431 _ _ (at_other rfl _ (at_other rfl _ (at_other rfl _ (at_other rfl _ (at_other rfl _ (at_other rfl _ (at_other rfl _ (at_other rfl _ (at_other rfl _ (at_other rfl _ (at_other rfl _ (at_other rfl _ (at_other rfl _ (at_other rfl _ (at_other rfl _ (at_other rfl _ (at_other rfl _ (at_other rfl _ (at_other rfl _ (at_other rfl _ (at_other rfl _ (at_other rfl _ (at_other rfl _ (at_other rfl _ (at_other rfl _ (s7_355))))))))))))))))))))))))))
                have s47_437 : a429.eval (.tmp 47) = (.bool (decide (¬ ((at_ globR l (k : Int)).neg) = ((at_ globR l (k : Int)).neg)))) := up431 _ _ (at_other rfl _ (at_other rfl _ (at_other rfl _ (at_other rfl _ (at_other rfl _ (at_same (((((((((((((((((((hz349.put _ _).put _ _).put _ _).put _ _).put _ _).put _ _).put _ _).put _ _).put _ _).put _ _).put _ _).put _ _).put _ _).put _ _).put _ _).put _ _).put _ _).put _ _).put _ _) rfl _))))))
                have s50_438 : a429.eval (.tmp 50) = (.int .i64 (((at_ globR l (k : Int)).rs.length : Nat) : Int)) := up431 _ _ (at_other rfl _ (at_other rfl _ (at_same ((((((((((((((((((((((hz349.put _ _).put _ _).put _ _).put _ _).put _ _).put _ _).put _ _).put _ _).put _ _).put _ _).put _ _).put _ _).put _ _).put _ _).put _ _).put _ _).put _ _).put _ _).put _ _).put _ _).put _ _).put _ _) rfl _)))
                have s52_439 : a429.eval (.tmp 52) = (.slice A67 ((at_ globR l (k : Int)).rs.length) c68) := up431 _ _ (at_same ((((((((((((((((((((((((hz349.put _ _).put _ _).put _ _).put _ _).put _ _).put _ _).put _ _).put _ _).put _ _).put _ _).put _ _).put _ _).put _ _).put _ _).put _ _).put _ _).put _ _).put _ _).put _ _).put _ _).put _ _).put _ _).put _ _).put _ _) rfl _)
                clear up431
                refine V.go_on 47 (by kernel_rfl) ((s47_437).trans (df hg406)) (V.pv [(52, .slice A67 ((at_ globR l (k : Int)).rs.length) c68)] ⟨(s52_439), trivial⟩ (by kernel_rfl) (.int .i64 (((at_ globR l (k : Int)).rs.length : Nat) : Int)) (by kernel_rfl) ?_)
                refine V.go_on 47 (by kernel_rfl) (((at_other rfl _ (s47_437) : Act.eval _ _ = (.bool (decide (¬ ((at_ globR l (k : Int)).neg) = ((at_ globR l (k : Int)).neg)))))).trans (df hg406)) (V.pvw [(50, .int .i64 (((at_ globR l (k : Int)).rs.length : Nat) : Int)), (53, .int .i64 (((at_ globR l (k : Int)).rs.length : Nat) : Int))] ⟨(at_other rfl _ (s50_438)), (at_same hz430 rfl _), trivial⟩ (by kernel_rfl) (.bool ((((at_ globR l (k : Int)).rs.length : Nat) : Int) != (((at_ globR l (k : Int)).rs.length : Nat) : Int))) (.bool (decide (¬ (((at_ globR l (k : Int)).rs.length : Nat) : Int) = (((at_ globR l (k : Int)).rs.length : Nat) : Int)))) (by kernel_rfl) V.t_neq ?_)
                refine V.go (V.pk_f (((at_other rfl _ (at_other rfl _ (s47_437)) : Act.eval _ _ = (.bool (decide (¬ ((at_ globR l (k : Int)).neg) = ((at_ globR l (k : Int)).neg)))))).trans (df hg406)) (v := (.bool (decide (¬ (((at_ globR l (k : Int)).rs.length : Nat) : Int) = (((at_ globR l (k : Int)).rs.length : Nat) : Int))))) (at_same (hz430.put _ _) rfl _) ?_)
                refine V.nil ?_
                refine V.then_n (hK359 _ _ ?_)
                refine V.condP (p := ¬ (((at_ globR l (k : Int)).rs.length : Nat) : Int) = (((at_ globR l (k : Int)).rs.length : Nat) : Int)) (at_same ((hz430.put _ _).put _ _) rfl _) (fun ht440 => ?_) (fun ht440 => ?_)
                ·
                  refine V.seq (fun K441 hK442 => ?_)
                  refine V.region (by kernel_rfl) ?_
                  refine V.go (V.asg (v := (.bool false)) evc ?_)
                  refine V.nil ?_
                  refine V.then_n (hK442 _ _ ?_)
                  refine V.flushW ((((hz430.put _ _).put _ _).put _ _).put _ _) (fun a443 hz444 up445 => ?_)
                  have s0_446 : a443.eval (.tmp 0) = (.slice A0 l.length c0) := up445 _ _ (at_other rfl _ (at_other rfl _ (at_other rfl _ (at_other rfl _ (s0_432)))))
                  have s1_447 : a443.eval (.tmp 1) = (.slice A1 l.length c1) := up445 _ _ (at_other rfl _ (at_other rfl _ (at_other rfl _ (at_other rfl _ (s1_433)))))
                  have s4_448 : a443.eval (.tmp 4) = (.bool false) := up445 _ _ (at_same (((hz430.put _ _).put _ _).put _ _) rfl _)
                  have s5_449 : a443.eval (.tmp 5) = (.int .i64 (k : Int)) := up445 _ _ (at_other rfl _ (at_other rfl _ (at_other rfl _ (at_other rfl _ (s5_434)))))
                  have s6_450 : a443.eval (.tmp 6) = (.pointer (some ⟨b314, 0, none⟩)) := up445 _ _ (at_other rfl _ (at_other rfl _ (at_other rfl _ (at_other rfl _ (s6_435)))))
                  have s7_451 : a443.eval (.tmp 7) = (.pointer (some ⟨b303, 0, none⟩)) := up445 _ _ (at_other rfl _ (at_other rfl _ (at_other rfl _ (at_other rfl _ (s7_436)))))
                  clear up445
                  refine V.ret ?_
                  refine V.then_r ?_
                  refine V.blk_r ?_
                  refine V.then_r ?_
                  refine V.then_r ?_
                  refine V.blk_r ?_
                  refine V.then_r ?_
                  refine V.ret1 hz444 rfl (s4_448) ?_
                  exact absurd rfl ht440
                ·
                  refine V.skip ?_
                  refine V.then_n (hK357 _ _ ?_)
                  refine V.seq (fun K452 hK453 => ?_)
                  refine V.region (by kernel_rfl) ?_
                  refine V.go (V.asg (v := (.int .i64 0)) evc ?_)
                  refine V.nil ?_
                  refine V.then_n (hK453 _ _ ?_)
                  refine V.flushW ((((hz430.put _ _).put _ _).put _ _).put _ _) (fun a454 hz455 up456 => ?_)
                  have s0_457 : a454.eval (.tmp 0) = (.slice A0 l.length c0) := up456 _ _ (at_other rfl _ (at_other rfl _ (at_other rfl _ (at_other rfl _ (s0_432)))))
                  have s1_458 : a454.eval (.tmp 1) = (.slice A1 l.length c1) := up456 _ _ (at_other rfl _ (at_other rfl _ (at_other rfl _ (at_other rfl _ (s1_433)))))
                  have s5_459 : a454.eval (.tmp 5) = (.int .i64 (k : Int)) := up456 _ _ (at_other rfl _ (at_other rfl _ (at_other rfl _ (at_other rfl _ (s5_434)))))
                  have s6_460 : a454.eval (.tmp 6) = (.pointer (some ⟨b314, 0, none⟩)) := up456 _ _ (at_other rfl _ (at_other rfl _ (at_other rfl _ (at_other rfl _ (s6_435)))))
                  have s7_461 : a454.eval (.tmp 7) = (.pointer (some ⟨b303, 0, none⟩)) := up456 _ _ (at_other rfl _ (at_other rfl _ (at_other rfl _ (at_other rfl _ (s7_436)))))
                  have s8_462 : a454.eval (.tmp 8) = (.int .i64 0) := up456 _ _ (at_same (((hz430.put _ _).put _ _).put _ _) rfl _)
                  clear up456
                  refine V.block ?_
                  refine V.loop1 (fun (r : Nat) a_ w_ => Sz 74 a_ ∧ a_.eval (.tmp 0) = (.slice A0 l.length c0) ∧ a_.eval (.tmp 1) = (.slice A1 l.length c1) ∧ a_.eval (.tmp 5) = (.int .i64 (k : Int)) ∧ a_.eval (.tmp 6) = (.pointer (some ⟨b314, 0, none⟩)) ∧ a_.eval (.tmp 7) = (.pointer (some ⟨b303, 0, none⟩)) ∧ a_.eval (.tmp 8) = (.int .i64 (r : Int)) ∧ Fr [] w w_ ∧ SlR globR (fun b => b < w.heap.size) w_ (.slice A0 l.length c0) l ∧ SlR globR (fun b => b < w.heap.size) w_ (.slice A1 l.length c1) l ∧ SlR spanR (fun b => b < w.heap.size) w_ (.slice A57 ((at_ globR l (k : Int)).rs.length) c58) ((at_ globR l (k : Int)).rs) ∧ SlR spanR (fun b => b < w.heap.size) w_ (.slice A67 ((at_ globR l (k : Int)).rs.length) c68) ((at_ globR l (k : Int)).rs) ∧ Blk w_ b314 [.int .i64 ((at_ globR l (k : Int)).kind), .int .u8 ((at_ globR l (k : Int)).c), .bool ((at_ globR l (k : Int)).neg), .slice A57 ((at_ globR l (k : Int)).rs.length) c58] 42 ∧ Blk w_ b303 [.int .i64 ((at_ globR l (k : Int)).kind), .int .u8 ((at_ globR l (k : Int)).c), .bool ((at_ globR l (k : Int)).neg), .slice A67 ((at_ globR l (k : Int)).rs.length) c68] 42 ∧ (r ≤ (at_ globR l (k : Int)).rs.length)) (fun (r : Nat) => (at_ globR l (k : Int)).rs.length - r) 0 ?_ ?_
                  ·
                    refine ⟨hz455, ?_, ?_, ?_, ?_, ?_, ?_, hF_340, hS_341, hT_342, hS60_343, hS70_345, hB327_347, hB338, (by omega)⟩
                    · exact (s0_457)
                    · exact (s1_458)
                    · exact Eq.trans (s5_459) (V.int_eq (by omega))
                    · exact (s6_460)
                    · exact (s7_461)
                    · exact Eq.trans (s8_462) (V.int_eq (by omega))
                  ·
                    rintro r a463 w464 ⟨hz465, s0_466, s1_467, s5_468, s6_469, s7_470, s8_471, hF_472, hS_473, hT_474, hS60_475, hS70_476, hB327_477, hB338_478, hr⟩
                    have hfs479 := hF_472.size
                    have hlt480 := hB327_477.lt
                    have hlt481 := hB338_478.lt
                    have hlr := hS60_475.len_le
                    refine V.seq (fun K482 hK483 => ?_)
                    refine V.seq (fun K484 hK485 => ?_)
                    refine V.region (by kernel_rfl) ?_
                    refine V.go (V.mv (v := (.int .i64 (r : Int))) (s8_471) ?_)
                    refine V.go (V.pv [(6, .pointer (some ⟨b314, 0, none⟩))] ⟨(at_other rfl _ (s6_469)), trivial⟩ (by kernel_rfl) (.pointer (some ⟨b314, 3, none⟩)) (by kernel_rfl) ?_)
                    refine V.go (V.ld ⟨b314, 3, none⟩ (.slice A57 ((at_ globR l (k : Int)).rs.length) c58) (at_same (hz465.put _ _) rfl _) (by kernel_rfl) (hB327_477.at 3 rfl) ?_)
                    refine V.go (V.pv [(58, .slice A57 ((at_ globR l (k : Int)).rs.length) c58)] ⟨(at_same ((hz465.put _ _).put _ _) rfl _), trivial⟩ (by kernel_rfl) (.int .i64 (((at_ globR l (k : Int)).rs.length : Nat) : Int)) (by kernel_rfl) ?_)
                    refine V.go (V.pv [(56, .int .i64 (r : Int)), (59, .int .i64 (((at_ globR l (k : Int)).rs.length : Nat) : Int))] ⟨(at_other rfl _ (at_other rfl _ (at_other rfl _ (at_same hz465 rfl _)))), (at_same (((hz465.put _ _).put _ _).put _ _) rfl _), trivial⟩ (by kernel_rfl) (.bool (decide ((r : Int) < (((at_ globR l (k : Int)).rs.length : Nat) : Int)))) (by kernel_rfl) ?_)
                    refine V.nil ?_
                    refine V.then_n (hK485 _ _ ?_)
                    refine V.flushW (((((hz465.put _ _).put _ _).put _ _).put _ _).put _ _) (fun a486 hz487 up488 => ?_)
                    have s0_489 : a486.eval (.tmp 0) = (.slice A0 l.length c0) := up488 _ _ (at_other rfl _ (at_other rfl _ (at_other rfl _ (at_other rfl _ (at_other rfl _ (s0_466))))))
                    have s1_490 : a486.eval (.tmp 1) = (.slice A1 l.length c1) := up488 _ _ (at_other rfl _ (at_other rfl _ (at_other rfl _ (at_other rfl _ (at_other rfl _ (s1_467))))))
                    have s5_491 : a486.eval (.tmp 5) = (.int .i64 (k : Int)) := up488 _ _ (at_other rfl _ (at_other rfl _ (at_other rfl _ (at_other rfl _ (at_other rfl _ (s5_468))))))
                    have s6_492 : a486.eval (.tmp 6) = (.pointer (some ⟨b314, 0, none⟩)) := up488 _ _ (at_other rfl _ (at_other rfl _ (at_other rfl _ (at_other rfl _ (at_other rfl _ (s6_469))))))
                    have s7_493 : a486.eval (.tmp 7) = (.pointer (some ⟨b303, 0, none⟩)) := up488 _ _ (at_other rfl _ (at_other rfl _ (at_other rfl _ (at_other rfl _ (at_other rfl _ (s7_470))))))
                    have s8_494 : a486.eval (.tmp 8) = (.int .i64 (r : Int)) := up488 _ _ (at_other rfl _ (at_other rfl _ (at_other rfl _ (at_other rfl _ (at_other rfl _ (s8_471))))))
                    have s60_495 : a486.eval (.tmp 60) = (.bool (decide ((r : Int) < (((at_ globR l (k : Int)).rs.length : Nat) : Int)))) := up488 _ _ (at_same ((((hz465.put _ _).put _ _).put _ _).put _ _) rfl _)
                    clear up488
                    refine V.condP (p := (r : Int) < (((at_ globR l (k : Int)).rs.length : Nat) : Int)) (s60_495) (fun ht496 => ?_) (fun ht496 => ?_)
                    ·
                      refine V.skip ?_
                      refine V.then_n (hK483 _ _ ?_)
                      refine V.seq (fun K497 hK498 => ?_)
                      refine V.block ?_
                      refine V.seq (fun K499 hK500 => ?_)
                      refine V.plan [[], [0], [], [0, 1, 2], [0, 1, 2, 3], [], [5], [], [5, 6, 7], [5, 6, 7, 8], [0, 1, 2, 3, 4, 5, 6, 7, 8, 9]] [([0, 1, 2, 3, 4, 5, 6, 7, 8, 9], some (10, [])), ([], none)] (by kernel_rfl) (by kernel_rfl) (by exact fun _ _ _ _ h => h) ?_
                      simp only [Plan.wpSegs, Plan.pickAll, Plan.nth, V.L_eq]
                      obtain ⟨w501, hF502e⟩ : ∃ w1, w1 = w464.drew := ⟨_, rfl⟩
                      rw [← hF502e]
                      have hF502 : Fr [] w464 w501 := by rw [hF502e]; exact Fr.drew _ _
                      have hsw501 : w501.heap.size = w464.heap.size := by rw [hF502e]; rfl
                      clear hF502e
                      have hF_503 := hF_472.new hF502
                      have hS_504 := hS_473.fr0 hF502
                      have hT_505 := hT_474.fr0 hF502
                      have hS60_506 := hS60_475.fr0 hF502
                      have hS70_507 := hS70_476.fr0 hF502
                      have hB327_508 := hB327_477.fr0 hF502
                      have hB338_509 := hB338_478.fr0 hF502
                      refine V.go (V.pv [(6, .pointer (some ⟨b314, 0, none⟩))] ⟨(s6_492), trivial⟩ (by kernel_rfl) (.pointer (some ⟨b314, 3, none⟩)) (by kernel_rfl) ?_)
                      refine V.go (V.ld ⟨b314, 3, none⟩ (.slice A57 ((at_ globR l (k : Int)).rs.length) c58) (at_same hz487 rfl _) (by kernel_rfl) (hB327_508.at 3 rfl) ?_)
                      refine V.go (V.mv (v := (.int .i64 (r : Int))) (at_other rfl _ (at_other rfl _ (s8_494))) ?_)
                      obtain ⟨g510, o511, hA512, hA512l, hA512z⟩ := hS60_506.addr (by omega)
                      refine V.go (V.ixa g510 o511 ((at_ globR l (k : Int)).rs.length) c58 .i64 (r : Int) 2 ((at_other rfl _ (at_same (hz487.put _ _) rfl _)).trans (by rw [hA512])) (at_same ((hz487.put _ _).put _ _) rfl _) (by omega) (by omega) (by kernel_rfl) ?_)
                      obtain ⟨cs513, hok514, hE515⟩ := hS60_506.els hA512 (r : Int) (by omega) (by omega)
                      obtain rfl := span_open hok514
                      refine V.go (V.lds ⟨g510, o511 + (r : Int).toNat * 2, none⟩ [.int .u8 ((at_ spanR ((at_ globR l (k : Int)).rs) (r : Int)).lo), .int .u8 ((at_ spanR ((at_ globR l (k : Int)).rs) (r : Int)).hi)] (at_same (((hz487.put _ _).put _ _).put _ _) rfl _) (by kernel_rfl) (hE515.cells 0 _ rfl) ?_)
                      refine V.go (V.pv [(7, .pointer (some ⟨b303, 0, none⟩))] ⟨(at_other rfl _ (at_other rfl _ (at_other rfl _ (at_other rfl _ (at_other rfl _ (s7_493)))))), trivial⟩ (by kernel_rfl) (.pointer (some ⟨b303, 3, none⟩)) (by kernel_rfl) ?_)
                      refine V.go (V.ld ⟨b303, 3, none⟩ (.slice A67 ((at_ globR l (k : Int)).rs.length) c68) (at_same (((((hz487.put _ _).put _ _).put _ _).put _ _).put _ _) rfl _) (by kernel_rfl) (hB338_509.at 3 rfl) ?_)
                      refine V.go (V.mv (v := (.int .i64 (r : Int))) (at_other rfl _ (at_other rfl _ (at_other rfl _ (at_other rfl _ (at_other rfl _ (at_other rfl _ (at_other rfl _ (s8_494)))))))) ?_)
                      obtain ⟨g516, o517, hA518, hA518l, hA518z⟩ := hS70_507.addr (by omega)
                      refine V.go (V.ixa g516 o517 ((at_ globR l (k : Int)).rs.length) c68 .i64 (r : Int) 2 ((at_other rfl _ (at_same ((((((hz487.put _ _).put _ _).put _ _).put _ _).put _ _).put _ _) rfl _)).trans (by rw [hA518])) (at_same (((((((hz487.put _ _).put _ _).put _ _).put _ _).put _ _).put _ _).put _ _) rfl _) (by omega) (by omega) (by kernel_rfl) ?_)
                      obtain ⟨cs519, hok520, hE521⟩ := hS70_507.els hA518 (r : Int) (by omega) (by omega)
                      obtain rfl := span_open hok520
                      refine V.go (V.lds ⟨g516, o517 + (r : Int).toNat * 2, none⟩ [.int .u8 ((at_ spanR ((at_ globR l (k : Int)).rs) (r : Int)).lo), .int .u8 ((at_ spanR ((at_ globR l (k : Int)).rs) (r : Int)).hi)] (at_same ((((((((hz487.put _ _).put _ _).put _ _).put _ _).put _ _).put _ _).put _ _).put _ _) rfl _) (by kernel_rfl) (hE521.cells 0 _ rfl) ?_)
                      refine V.nil ?_
                      refine ⟨chk [] trivial (by kernel_rfl), ?_⟩
                      refine V.go (V.neqA .u8 [(at_ spanR ((at_ globR l (k : Int)).rs) (r : Int)).lo, (at_ spanR ((at_ globR l (k : Int)).rs) (r : Int)).hi] [(at_ spanR ((at_ globR l (k : Int)).rs) (r : Int)).lo, (at_ spanR ((at_ globR l (k : Int)).rs) (r : Int)).hi] (at_other rfl _ (at_other rfl _ (at_other rfl _ (at_other rfl _ (at_other rfl _ (at_same ((((hz487.put _ _).put _ _).put _ _).put _ _) rfl _)))))) (at_same (((((((((hz487.put _ _).put _ _).put _ _).put _ _).put _ _).put _ _).put _ _).put _ _).put _ _) rfl _) (by kernel_rfl) rfl ?_)
                      refine V.nil ?_
                      refine ⟨trivial, ?_⟩
                      refine V.nil ?_
                      refine ⟨chk [] trivial (by kernel_rfl), ?_⟩
                      refine V.then_n (hK500 _ _ ?_)
                      refine V.flushW (((((((((((hz487.put _ _).put _ _).put _ _).put _ _).put _ _).put _ _).put _ _).put _ _).put _ _).put _ _).put _ _) (fun a522 hz523 up524 => ?_)
                      have s0_525 : a522.eval (.tmp 0) = (.slice A0 l.length c0) := up524 _ _ (at_other rfl _ (at_other rfl _ (at_other rfl _ (at_other rfl _ (at_other rfl _ (at_other rfl _ (at_other rfl _ (at_other rfl _ (at_other rfl _ (at_other rfl _ (at_other rfl _ (s0_489))))))))))))
                      have s1_526 : a522.eval (.tmp 1) = (.slice A1 l.length c1) := up524 _ _ (at_other rfl _ (at_other rfl _ (at_other rfl _ (at_other rfl _ (at_other rfl _ (at_other rfl _ (at_other rfl _ (at_other rfl _ (at_other rfl _ (at_other rfl _ (at_other rfl _ (s1_490))))))))))))
                      have s5_527 : a522.eval (.tmp 5) = (.int .i64 (k : Int)) := up524 _ _ (at_other rfl _ (at_other rfl _ (at_other rfl _ (at_other rfl _ (at_other rfl _ (at_other rfl _ (at_other rfl _ (at_other rfl _ (at_other rfl _ (at_other rfl _ (at_other rfl _ (s5_491))))))))))))
                      have s6_528 : a522.eval (.tmp 6) = (.pointer (some ⟨b314, 0, none⟩)) := up524 _ _ (at_other rfl _ (at_other rfl _ (at_other rfl _ (at_other rfl _ (at_other rfl _ (at_other rfl _ (at_other rfl _ (at_other rfl _ (at_other rfl _ (at_other rfl _ (at_other rfl _ (s6_492))))))))))))
                      have s7_529 : a522.eval (.tmp 7) = (.pointer (some ⟨b303, 0, none⟩)) := up524 _ _ (at_other rfl _ (at_other rfl _ (at_other rfl _ (at_other rfl _ (at_other rfl _ (at_other rfl _ (at_other rfl _ (at_other rfl _ (at_other rfl _ (at_other rfl _ (at_other rfl _ (s7_493))))))))))))
                      have s8_530 : a522.eval (.tmp 8) = (.int .i64 (r : Int)) := up524 _ _ (at_other rfl _ (at_other rfl _ (at_other rfl _ (at_other rfl _ (at_other rfl _ (at_other rfl _ (at_other rfl _ (at_other rfl _ (at_other rfl _ (at_other rfl _ (at_other rfl _ (s8_494))))))))))))
                      have s73_531 : a522.eval (.tmp 73) = (.bool (decide (¬ [(at_ spanR ((at_ globR l (k : Int)).rs) (r : Int)).lo, (at_ spanR ((at_ globR l (k : Int)).rs) (r : Int)).hi] = [(at_ spanR ((at_ globR l (k : Int)).rs) (r : Int)).lo, (at_ spanR ((at_ globR l (k : Int)).rs) (r : Int)).hi]))) := up524 _ _ (at_same ((((((((((hz487.put _ _).put _ _).put _ _).put _ _).put _ _).put _ _).put _ _).put _ _).put _ _).put _ _) rfl _)
                      clear up524
                      refine V.condP (p := ¬ [(at_ spanR ((at_ globR l (k : Int)).rs) (r : Int)).lo, (at_ spanR ((at_ globR l (k : Int)).rs) (r : Int)).hi] = [(at_ spanR ((at_ globR l (k : Int)).rs) (r : Int)).lo, (at_ spanR ((at_ globR l (k : Int)).rs) (r : Int)).hi]) (s73_531) (fun ht532 => ?_) (fun ht532 => ?_)
                      ·
                        refine V.seq (fun K533 hK534 => ?_)
                        refine V.region (by kernel_rfl) ?_
                        refine V.go (V.asg (v := (.bool false)) evc ?_)
                        refine V.nil ?_
                        refine V.then_n (hK534 _ _ ?_)
                        refine V.ret ?_
                        refine V.blk_r ?_
                        refine V.then_r ?_
                        refine V.then_r ?_
                        refine V.blk_r ?_
                        refine V.blk_r ?_
                        refine V.then_r ?_
                        refine V.then_r ?_
                        refine V.blk_r ?_
                        refine V.then_r ?_
                        refine V.ret1 (hz523.put _ _) rfl (at_same hz523 rfl _) ?_
                        exact absurd rfl ht532
                      ·
                        refine V.skip ?_
                        refine V.blk_n ?_
                        refine V.then_n (hK498 _ _ ?_)
                        refine V.region (by kernel_rfl) ?_
                        refine V.go (V.mv (v := (.int .i64 (r : Int))) (s8_530) ?_)
                        refine V.go (V.pvw [(61, .int .i64 (r : Int))] ⟨(at_same hz523 rfl _), trivial⟩ (by kernel_rfl) (.int .i64 (IntKind.i64.wrap ((r : Int) + 1))) (.int .i64 ((r : Int) + 1)) (by kernel_rfl) (V.w_i64 (by omega) (by omega)) ?_)
                        refine V.go (V.asg (v := (.int .i64 ((r : Int) + 1))) (at_same (hz523.put _ _) rfl _) ?_)
                        refine V.nil ?_
                        refine V.then_n ?_
                        refine ⟨r + 1, by omega, ?_⟩
                        refine ⟨(((hz523.put _ _).put _ _).put _ _), ?_, ?_, ?_, ?_, ?_, ?_, hF_503, hS_504, hT_505, hS60_506, hS70_507, hB327_508, hB338_509, (by omega)⟩
                        · exact (at_other rfl _ (at_other rfl _ (at_other rfl _ (s0_525))))
                        · exact (at_other rfl _ (at_other rfl _ (at_other rfl _ (s1_526))))
                        · exact Eq.trans (at_other rfl _ (at_other rfl _ (at_other rfl _ (s5_527)))) (V.int_eq (by omega))
                        · exact (at_other rfl _ (at_other rfl _ (at_other rfl _ (s6_528))))
                        · exact (at_other rfl _ (at_other rfl _ (at_other rfl _ (s7_529))))
                        · exact Eq.trans (at_same ((hz523.put _ _).put _ _) rfl _) (V.int_eq (by omega))
                    ·
                      refine V.exit ?_
                      refine V.then_e ?_
                      refine V.then_e ?_
                      refine V.blk_hit ?_
                      refine V.blk_n ?_
                      refine V.then_n (hK43 _ _ ?_)
                      refine V.region (by kernel_rfl) ?_
                      refine V.go (V.mv (v := (.int .i64 (k : Int))) (s5_491) ?_)
                      refine V.go (V.pvw [(18, .int .i64 (k : Int))] ⟨(at_same hz487 rfl _), trivial⟩ (by kernel_rfl) (.int .i64 (IntKind.i64.wrap ((k : Int) + 1))) (.int .i64 ((k : Int) + 1)) (by kernel_rfl) (V.w_i64 (by omega) (by omega)) ?_)
                      refine V.go (V.asg (v := (.int .i64 ((k : Int) + 1))) (at_same (hz487.put _ _) rfl _) ?_)
                      refine V.nil ?_
                      refine V.then_n ?_
                      refine ⟨k + 1, by omega, ?_⟩
                      refine ⟨(((hz487.put _ _).put _ _).put _ _), ?_, ?_, ?_, hF_472, hS_473, hT_474, (by omega)⟩
                      · exact (at_other rfl _ (at_other rfl _ (at_other rfl _ (s0_489))))
                      · exact (at_other rfl _ (at_other rfl _ (at_other rfl _ (s1_490))))
                      · exact Eq.trans (at_same ((hz487.put _ _).put _ _) rfl _) (V.int_eq (by omega))
      ·
        refine V.exit ?_
        refine V.then_e ?_
        refine V.then_e ?_
        refine V.blk_hit ?_
        refine V.then_n (hK17 _ _ ?_)
        refine V.seq (fun K535 hK536 => ?_)
        refine V.region (by kernel_rfl) ?_
        refine V.go (V.asg (v := (.bool true)) evc ?_)
        refine V.nil ?_
        refine V.then_n (hK536 _ _ ?_)
        refine V.ret ?_
        refine V.ret1 (hz35.put _ _) rfl (at_same hz35 rfl _) ?_
        exact ⟨rfl, hF_26⟩
end Go.Proofs.Ytmlohijidjbbjaa
