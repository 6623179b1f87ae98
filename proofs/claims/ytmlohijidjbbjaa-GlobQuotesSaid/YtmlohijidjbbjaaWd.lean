/- Walks: the reference's Matches. -/
import Derived.Test.YtmlohijidjbbjaaProg
import Derived.Test.YtmlohijidjbbjaaWc
namespace Go.Proofs.Ytmlohijidjbbjaa
open Go.V Go.Base
attribute [local irreducible] Act.put Act.eval
set_option linter.unusedVariables false
set_option linter.unusedSimpArgs false
theorem info4 : (Try.prog.info? 4).map (fun i => (i.zero, i.size, i.bytes)) = some (some (.bool false), 1, 1) := by kernel_rfl
set_option maxHeartbeats 4000000 in
set_option maxRecDepth 20000 in
theorem rmatches_any (w : World) (l : List Glob) (A : Option Addr) (cap : Nat) (s : ByteArray) (fold : Bool) (hs : s.size ≤ 1099511627776) (hgood : ∀ i : Int, GoodG (at_ globR l i)) (hS : SlR globR (fun b => b < w.heap.size) w (.slice A l.length cap) l) : Calls Try.prog 28 #[.slice A l.length cap, .string s, .bool fold] w (fun e w' => e = .returned (.bool (dp fold l s l.length s.size)) ∧ Fr [] w w') := by
  have hF := Fr.refl [] w; have hlenl := hS.len_le
  refine V.enter 87 Try.func28 rfl rfl ?_
  intro a hz ha
  have s0 : a.eval (.tmp 0) = (.slice A l.length cap) := ha 0 _ rfl
  have s1 : a.eval (.tmp 1) = (.string s) := ha 1 _ rfl
  have s2 : a.eval (.tmp 2) = (.bool fold) := ha 2 _ rfl
  clear ha
  refine V.seq (fun K1 hK2 => ?_)
  refine V.region (by kernel_rfl) ?_
  refine V.go (V.asg (v := (.bool false)) evc ?_)
  refine V.nil ?_
  refine V.then_n (hK2 _ _ ?_)
  refine V.seq (fun K3 hK4 => ?_)
  refine V.region (by kernel_rfl) ?_
  refine V.go (V.mv (v := (.string s)) (at_other rfl _ (s1)) ?_)
  refine V.go (V.pv [(11, .string s)] ⟨(at_same (hz.put _ _) rfl _), trivial⟩ (by kernel_rfl) (.int .i64 (s.size : Int)) (by kernel_rfl) ?_)
  refine V.go (V.pvw [(12, .int .i64 (s.size : Int))] ⟨(at_same ((hz.put _ _).put _ _) rfl _), trivial⟩ (by kernel_rfl) (.int .i64 (IntKind.i64.wrap ((s.size : Int) + 1))) (.int .i64 ((s.size : Int) + 1)) (by kernel_rfl) (V.w_i64 (by omega) (by omega)) ?_)
  refine V.go (V.mks (enc := Value.bool) (s.size + 1) (.bool false) false 1 ((at_same (((hz.put _ _).put _ _).put _ _) rfl _).trans (V.int_eq (by omega))) ((at_same (((hz.put _ _).put _ _).put _ _) rfl _).trans (V.int_eq (by omega))) (by kernel_rfl) info4 rfl rfl (by omega) (by omega) ?_)
  intro w6 b5 heb5 hR7 hF8
  have hsb5 := hR7.lt
  have hF_9 := hF.new hF8
  have hS_10 := hS.fr0 hF8
  refine V.go (V.asg (v := (.slice (some ⟨b5, 0, none⟩) (s.size + 1) (s.size + 1))) (at_same ((((hz.put _ _).put _ _).put _ _).put _ _) rfl _) ?_)
  refine V.nil ?_
  refine V.then_n (hK4 _ _ ?_)
  refine V.flushW ((((((hz.put _ _).put _ _).put _ _).put _ _).put _ _).put _ _) (fun a11 hz12 up13 => ?_)
  have s0_14 : a11.eval (.tmp 0) = (.slice A l.length cap) := up13 _ _ (at_other rfl _ (at_other rfl _ (at_other rfl _ (at_other rfl _ (at_other rfl _ (at_other rfl _ (s0)))))))
  have s1_15 : a11.eval (.tmp 1) = (.string s) := up13 _ _ (at_other rfl _ (at_other rfl _ (at_other rfl _ (at_other rfl _ (at_other rfl _ (at_other rfl _ (s1)))))))
  have s2_16 : a11.eval (.tmp 2) = (.bool fold) := up13 _ _ (at_other rfl _ (at_other rfl _ (at_other rfl _ (at_other rfl _ (at_other rfl _ (at_other rfl _ (s2)))))))
  have s7_17 : a11.eval (.tmp 7) = (.slice (some ⟨b5, 0, none⟩) (s.size + 1) (s.size + 1)) := up13 _ _ (at_same (((((hz.put _ _).put _ _).put _ _).put _ _).put _ _) rfl _)
  clear up13
  refine V.seq (fun K18 hK19 => ?_)
  refine V.region (by kernel_rfl) ?_
  refine V.go (V.mv (v := (.slice (some ⟨b5, 0, none⟩) (s.size + 1) (s.size + 1))) (s7_17) ?_)
  refine V.go (V.ixa b5 0 (s.size + 1) (s.size + 1) .i64 0 1 (at_same hz12 rfl _) evc (by omega) (by omega) (by kernel_rfl) ?_)
  refine V.go (V.strow (enc := Value.bool) b5 ((0 : Int).toNat) true (at_same (hz12.put _ _) rfl _) evc rfl rfl (by kernel_rfl) hR7 (by first | omega | (simp only [List.length_set, List.length_replicate]; omega)) ?_)
  intro w20 hR21 hF22 hsw20
  have hF_23 := hF_9.own hF22 (by simp <;> omega)
  have hS_24 := hS_10.fr hF22 (by simp <;> omega)
  refine V.nil ?_
  refine V.then_n (hK19 _ _ ?_)
  refine V.seq (fun K25 hK26 => ?_)
  refine V.seq (fun K27 hK28 => ?_)
  refine V.region (by kernel_rfl) ?_
  refine V.go (V.asg (v := (.int .i64 0)) evc ?_)
  refine V.nil ?_
  refine V.then_n (hK28 _ _ ?_)
  refine V.block ?_
  refine V.loop3 (fun (i : Nat) (bs : List Bool) (b : Nat) a_ w_ => Sz 87 a_ ∧ a_.eval (.tmp 0) = (.slice A l.length cap) ∧ a_.eval (.tmp 1) = (.string s) ∧ a_.eval (.tmp 2) = (.bool fold) ∧ a_.eval (.tmp 7) = (.slice (some ⟨b, 0, none⟩) (s.size + 1) (s.size + 1)) ∧ a_.eval (.tmp 8) = (.int .i64 (i : Int)) ∧ Row Value.bool w_ b bs 4 ∧ Fr [] w w_ ∧ SlR globR (fun b => b < w.heap.size) w_ (.slice A l.length cap) l ∧ (i ≤ l.length) ∧ (bs.length = s.size + 1) ∧ (∀ j, j ≤ s.size → bs.getD j false = dp fold l s i j)) (fun (i : Nat) (bs : List Bool) (b : Nat) => l.length - i) 0 ((List.replicate (s.size + 1) false).set ((0 : Int).toNat) true) b5 ?_ ?_
  ·
    refine ⟨(((hz12.put _ _).put _ _).put _ _), ?_, ?_, ?_, ?_, ?_, hR21, hF_23, hS_24, (by omega), (by simp), (by intro j hj; rw [dp]; cases j with | zero => simp | succ j => simp [List.getElem?_set, List.getElem?_replicate]; (try split) <;> rfl)⟩
    · exact (at_other rfl _ (at_other rfl _ (at_other rfl _ (s0_14))))
    · exact (at_other rfl _ (at_other rfl _ (at_other rfl _ (s1_15))))
    · exact (at_other rfl _ (at_other rfl _ (at_other rfl _ (s2_16))))
    · exact Eq.trans (at_other rfl _ (at_other rfl _ (at_other rfl _ (s7_17)))) (V.sl_eq (by simp))
    · exact Eq.trans (at_same ((hz12.put _ _).put _ _) rfl _) (V.int_eq (by omega))
  ·
    rintro i bs b a29 w30 ⟨hz31, s0_32, s1_33, s2_34, s7_35, s8_36, hR_37, hF_38, hS_39, hi, hlen, hbs⟩
    have hlt40 := hR_37.lt
    have hfs41 := hF_38.size
    refine V.seq (fun K42 hK43 => ?_)
    refine V.seq (fun K44 hK45 => ?_)
    refine V.region (by kernel_rfl) ?_
    refine V.go (V.mv (v := (.int .i64 (i : Int))) (s8_36) ?_)
    refine V.go (V.mv (v := (.slice A l.length cap)) (at_other rfl _ (s0_32)) ?_)
    refine V.go (V.pv [(18, .slice A l.length cap)] ⟨(at_same (hz31.put _ _) rfl _), trivial⟩ (by kernel_rfl) (.int .i64 ((l.length : Nat) : Int)) (by kernel_rfl) ?_)
    refine V.go (V.pv [(17, .int .i64 (i : Int)), (19, .int .i64 ((l.length : Nat) : Int))] ⟨(at_other rfl _ (at_other rfl _ (at_same hz31 rfl _))), (at_same ((hz31.put _ _).put _ _) rfl _), trivial⟩ (by kernel_rfl) (.bool (decide ((i : Int) < ((l.length : Nat) : Int)))) (by kernel_rfl) ?_)
    refine V.nil ?_
    refine V.then_n (hK45 _ _ ?_)
    refine V.flushW ((((hz31.put _ _).put _ _).put _ _).put _ _) (fun a46 hz47 up48 => ?_)
    have s0_49 : a46.eval (.tmp 0) = (.slice A l.length cap) := up48 _ _ (at_other rfl _ (at_other rfl _ (at_other rfl _ (at_other rfl _ (s0_32)))))
    have s1_50 : a46.eval (.tmp 1) = (.string s) := up48 _ _ (at_other rfl _ (at_other rfl _ (at_other rfl _ (at_other rfl _ (s1_33)))))
    have s2_51 : a46.eval (.tmp 2) = (.bool fold) := up48 _ _ (at_other rfl _ (at_other rfl _ (at_other rfl _ (at_other rfl _ (s2_34)))))
    have s7_52 : a46.eval (.tmp 7) = (.slice (some ⟨b, 0, none⟩) (s.size + 1) (s.size + 1)) := up48 _ _ (at_other rfl _ (at_other rfl _ (at_other rfl _ (at_other rfl _ (s7_35)))))
    have s8_53 : a46.eval (.tmp 8) = (.int .i64 (i : Int)) := up48 _ _ (at_other rfl _ (at_other rfl _ (at_other rfl _ (at_other rfl _ (s8_36)))))
    have s20_54 : a46.eval (.tmp 20) = (.bool (decide ((i : Int) < ((l.length : Nat) : Int)))) := up48 _ _ (at_same (((hz31.put _ _).put _ _).put _ _) rfl _)
    clear up48
    refine V.condP (p := (i : Int) < ((l.length : Nat) : Int)) (s20_54) (fun ht55 => ?_) (fun ht55 => ?_)
    ·
      refine V.skip ?_
      refine V.then_n (hK43 _ _ ?_)
      refine V.seq (fun K56 hK57 => ?_)
      refine V.block ?_
      refine V.seq (fun K58 hK59 => ?_)
      refine V.region (by kernel_rfl) ?_
      refine V.go (V.mv (v := (.string s)) (s1_50) ?_)
      refine V.go (V.pv [(23, .string s)] ⟨(at_same hz47 rfl _), trivial⟩ (by kernel_rfl) (.int .i64 (s.size : Int)) (by kernel_rfl) ?_)
      refine V.go (V.pvw [(24, .int .i64 (s.size : Int))] ⟨(at_same (hz47.put _ _) rfl _), trivial⟩ (by kernel_rfl) (.int .i64 (IntKind.i64.wrap ((s.size : Int) + 1))) (.int .i64 ((s.size : Int) + 1)) (by kernel_rfl) (V.w_i64 (by omega) (by omega)) ?_)
      refine V.go (V.mks (enc := Value.bool) (s.size + 1) (.bool false) false 1 ((at_same ((hz47.put _ _).put _ _) rfl _).trans (V.int_eq (by omega))) ((at_same ((hz47.put _ _).put _ _) rfl _).trans (V.int_eq (by omega))) (by kernel_rfl) info4 rfl rfl (by omega) (by omega) ?_)
      intro w61 b60 heb60 hR62 hF63
      have hsb60 := hR62.lt
      have hR_64 := hR_37.fr0 hF63
      have hF_65 := hF_38.new hF63
      have hS_66 := hS_39.fr0 hF63
      refine V.go (V.asg (v := (.slice (some ⟨b60, 0, none⟩) (s.size + 1) (s.size + 1))) (at_same (((hz47.put _ _).put _ _).put _ _) rfl _) ?_)
      refine V.nil ?_
      refine V.then_n (hK59 _ _ ?_)
      refine V.flushW (((((hz47.put _ _).put _ _).put _ _).put _ _).put _ _) (fun a67 hz68 up69 => ?_)
      have s0_70 : a67.eval (.tmp 0) = (.slice A l.length cap) := up69 _ _ (at_other rfl _ (at_other rfl _ (at_other rfl _ (at_other rfl _ (at_other rfl _ (s0_49))))))
      have s1_71 : a67.eval (.tmp 1) = (.string s) := up69 _ _ (at_other rfl _ (at_other rfl _ (at_other rfl _ (at_other rfl _ (at_other rfl _ (s1_50))))))
      have s2_72 : a67.eval (.tmp 2) = (.bool fold) := up69 _ _ (at_other rfl _ (at_other rfl _ (at_other rfl _ (at_other rfl _ (at_other rfl _ (s2_51))))))
      have s7_73 : a67.eval (.tmp 7) = (.slice (some ⟨b, 0, none⟩) (s.size + 1) (s.size + 1)) := up69 _ _ (at_other rfl _ (at_other rfl _ (at_other rfl _ (at_other rfl _ (at_other rfl _ (s7_52))))))
      have s8_74 : a67.eval (.tmp 8) = (.int .i64 (i : Int)) := up69 _ _ (at_other rfl _ (at_other rfl _ (at_other rfl _ (at_other rfl _ (at_other rfl _ (s8_53))))))
      have s9_75 : a67.eval (.tmp 9) = (.slice (some ⟨b60, 0, none⟩) (s.size + 1) (s.size + 1)) := up69 _ _ (at_same ((((hz47.put _ _).put _ _).put _ _).put _ _) rfl _)
      clear up69
      refine V.seq (fun K76 hK77 => ?_)
      refine V.seq (fun K78 hK79 => ?_)
      refine V.region (by kernel_rfl) ?_
      refine V.go (V.asg (v := (.int .i64 0)) evc ?_)
      refine V.nil ?_
      refine V.then_n (hK79 _ _ ?_)
      refine V.block ?_
      refine V.loop2 (fun (k : Nat) (ns : List Bool) a_ w_ => Sz 87 a_ ∧ a_.eval (.tmp 0) = (.slice A l.length cap) ∧ a_.eval (.tmp 1) = (.string s) ∧ a_.eval (.tmp 2) = (.bool fold) ∧ a_.eval (.tmp 7) = (.slice (some ⟨b, 0, none⟩) (s.size + 1) (s.size + 1)) ∧ a_.eval (.tmp 8) = (.int .i64 (i : Int)) ∧ a_.eval (.tmp 9) = (.slice (some ⟨b60, 0, none⟩) (s.size + 1) (s.size + 1)) ∧ a_.eval (.tmp 10) = (.int .i64 (k : Int)) ∧ Row Value.bool w_ b60 ns 4 ∧ Row Value.bool w_ b bs 4 ∧ Fr [] w w_ ∧ SlR globR (fun b => b < w.heap.size) w_ (.slice A l.length cap) l ∧ (k ≤ s.size + 1) ∧ (ns.length = s.size + 1) ∧ (∀ j, j < k → ns.getD j false = dp fold l s (i + 1) j)) (fun (k : Nat) (ns : List Bool) => s.size + 1 - k) 0 (List.replicate (s.size + 1) false) ?_ ?_
      ·
        refine ⟨(hz68.put _ _), ?_, ?_, ?_, ?_, ?_, ?_, ?_, hR62, hR_64, hF_65, hS_66, (by omega), (by simp), (by intro j hj; omega)⟩
        · exact (at_other rfl _ (s0_70))
        · exact (at_other rfl _ (s1_71))
        · exact (at_other rfl _ (s2_72))
        · exact (at_other rfl _ (s7_73))
        · exact Eq.trans (at_other rfl _ (s8_74)) (V.int_eq (by omega))
        · exact (at_other rfl _ (s9_75))
        · exact Eq.trans (at_same hz68 rfl _) (V.int_eq (by omega))
      ·
        rintro k ns a80 w81 ⟨hz82, s0_83, s1_84, s2_85, s7_86, s8_87, s9_88, s10_89, hN_90, hR_91, hF_92, hS_93, hk, hlen2, hns⟩
        have hlt94 := hN_90.lt
        have hlt95 := hR_91.lt
        have hfs96 := hF_92.size
        refine V.seq (fun K97 hK98 => ?_)
        refine V.seq (fun K99 hK100 => ?_)
        refine V.region (by kernel_rfl) ?_
        refine V.go (V.mv (v := (.int .i64 (k : Int))) (s10_89) ?_)
        refine V.go (V.mv (v := (.string s)) (at_other rfl _ (s1_84)) ?_)
        refine V.go (V.pv [(28, .string s)] ⟨(at_same (hz82.put _ _) rfl _), trivial⟩ (by kernel_rfl) (.int .i64 (s.size : Int)) (by kernel_rfl) ?_)
        refine V.go (V.pv [(27, .int .i64 (k : Int)), (29, .int .i64 (s.size : Int))] ⟨(at_other rfl _ (at_other rfl _ (at_same hz82 rfl _))), (at_same ((hz82.put _ _).put _ _) rfl _), trivial⟩ (by kernel_rfl) (.bool (decide ((k : Int) ≤ (s.size : Int)))) (by kernel_rfl) ?_)
        refine V.nil ?_
        refine V.then_n (hK100 _ _ ?_)
        refine V.flushW ((((hz82.put _ _).put _ _).put _ _).put _ _) (fun a101 hz102 up103 => ?_)
        have s0_104 : a101.eval (.tmp 0) = (.slice A l.length cap) := up103 _ _ (at_other rfl _ (at_other rfl _ (at_other rfl _ (at_other rfl _ (s0_83)))))
        have s1_105 : a101.eval (.tmp 1) = (.string s) := up103 _ _ (at_other rfl _ (at_other rfl _ (at_other rfl _ (at_other rfl _ (s1_84)))))
        have s2_106 : a101.eval (.tmp 2) = (.bool fold) := up103 _ _ (at_other rfl _ (at_other rfl _ (at_other rfl _ (at_other rfl _ (s2_85)))))
        have s7_107 : a101.eval (.tmp 7) = (.slice (some ⟨b, 0, none⟩) (s.size + 1) (s.size + 1)) := up103 _ _ (at_other rfl _ (at_other rfl _ (at_other rfl _ (at_other rfl _ (s7_86)))))
        have s8_108 : a101.eval (.tmp 8) = (.int .i64 (i : Int)) := up103 _ _ (at_other rfl _ (at_other rfl _ (at_other rfl _ (at_other rfl _ (s8_87)))))
        have s9_109 : a101.eval (.tmp 9) = (.slice (some ⟨b60, 0, none⟩) (s.size + 1) (s.size + 1)) := up103 _ _ (at_other rfl _ (at_other rfl _ (at_other rfl _ (at_other rfl _ (s9_88)))))
        have s10_110 : a101.eval (.tmp 10) = (.int .i64 (k : Int)) := up103 _ _ (at_other rfl _ (at_other rfl _ (at_other rfl _ (at_other rfl _ (s10_89)))))
        have s30_111 : a101.eval (.tmp 30) = (.bool (decide ((k : Int) ≤ (s.size : Int)))) := up103 _ _ (at_same (((hz82.put _ _).put _ _).put _ _) rfl _)
        clear up103
        refine V.condP (p := (k : Int) ≤ (s.size : Int)) (s30_111) (fun ht112 => ?_) (fun ht112 => ?_)
        ·
          refine V.skip ?_
          refine V.then_n (hK98 _ _ ?_)
          refine V.seq (fun K113 hK114 => ?_)
          refine V.block ?_
          refine V.seq (fun K115 hK116 => ?_)
          refine V.region (by kernel_rfl) ?_
          refine V.go (V.mv (v := (.slice A l.length cap)) (s0_104) ?_)
          refine V.go (V.mv (v := (.int .i64 (i : Int))) (at_other rfl _ (s8_108)) ?_)
          obtain ⟨g117, o118, hA119, hA119l, hA119z⟩ := hS_93.addr (by omega)
          refine V.go (V.ixa g117 o118 l.length cap .i64 (i : Int) 4 ((at_other rfl _ (at_same hz102 rfl _)).trans (by rw [hA119])) (at_same (hz102.put _ _) rfl _) (by omega) (by omega) (by kernel_rfl) ?_)
          refine V.go (V.fa (at_same ((hz102.put _ _).put _ _) rfl _) 0 (fun _ _ => by kernel_rfl) ?_)
          obtain ⟨cs120, hok121, hE122⟩ := hS_93.els hA119 (i : Int) (by omega) (by omega)
          obtain ⟨A123, c124, rfl, hcap125, hS126⟩ := glob_open hok121
          refine V.go (V.ld ⟨g117, o118 + (i : Int).toNat * 4, none⟩ (.int .i64 ((at_ globR l (i : Int)).kind)) (at_same (((hz102.put _ _).put _ _).put _ _) rfl _) (by kernel_rfl) (hE122.at 0 rfl) ?_)
          refine V.go (V.pvw [(37, .int .i64 ((at_ globR l (i : Int)).kind))] ⟨(at_same ((((hz102.put _ _).put _ _).put _ _).put _ _) rfl _), trivial⟩ (by kernel_rfl) (.bool (((at_ globR l (i : Int)).kind) == 1)) (.bool (decide (((at_ globR l (i : Int)).kind) = 1))) (by kernel_rfl) V.t_eql ?_)
          refine V.nil ?_
          refine V.then_n (hK116 _ _ ?_)
          refine V.flushW ((((((hz102.put _ _).put _ _).put _ _).put _ _).put _ _).put _ _) (fun a127 hz128 up129 => ?_)
          have s0_130 : a127.eval (.tmp 0) = (.slice A l.length cap) := up129 _ _ (at_other rfl _ (at_other rfl _ (at_other rfl _ (at_other rfl _ (at_other rfl _ (at_other rfl _ (s0_104)))))))
          have s1_131 : a127.eval (.tmp 1) = (.string s) := up129 _ _ (at_other rfl _ (at_other rfl _ (at_other rfl _ (at_other rfl _ (at_other rfl _ (at_other rfl _ (s1_105)))))))
          have s2_132 : a127.eval (.tmp 2) = (.bool fold) := up129 _ _ (at_other rfl _ (at_other rfl _ (at_other rfl _ (at_other rfl _ (at_other rfl _ (at_other rfl _ (s2_106)))))))
          have s7_133 : a127.eval (.tmp 7) = (.slice (some ⟨b, 0, none⟩) (s.size + 1) (s.size + 1)) := up129 _ _ (at_other rfl _ (at_other rfl _ (at_other rfl _ (at_other rfl _ (at_other rfl _ (at_other rfl _ (s7_107)))))))
          have s8_134 : a127.eval (.tmp 8) = (.int .i64 (i : Int)) := up129 _ _ (at_other rfl _ (at_other rfl _ (at_other rfl _ (at_other rfl _ (at_other rfl _ (at_other rfl _ (s8_108)))))))
          have s9_135 : a127.eval (.tmp 9) = (.slice (some ⟨b60, 0, none⟩) (s.size + 1) (s.size + 1)) := up129 _ _ (at_other rfl _ (at_other rfl _ (at_other rfl _ (at_other rfl _ (at_other rfl _ (at_other rfl _ (s9_109)))))))
          have s10_136 : a127.eval (.tmp 10) = (.int .i64 (k : Int)) := up129 _ _ (at_other rfl _ (at_other rfl _ (at_other rfl _ (at_other rfl _ (at_other rfl _ (at_other rfl _ (s10_110)))))))
          have s38_137 : a127.eval (.tmp 38) = (.bool (decide (((at_ globR l (i : Int)).kind) = 1))) := up129 _ _ (at_same (((((hz102.put _ _).put _ _).put _ _).put _ _).put _ _) rfl _)
          clear up129
          refine V.condP (p := ((at_ globR l (i : Int)).kind) = 1) (s38_137) (fun ht138 => ?_) (fun ht138 => ?_)
          ·
            refine V.region (by kernel_rfl) ?_
            refine V.go (V.mv (v := (.slice (some ⟨b60, 0, none⟩) (s.size + 1) (s.size + 1))) (s9_135) ?_)
            refine V.go (V.mv (v := (.int .i64 (k : Int))) (at_other rfl _ (s10_136)) ?_)
            refine V.go (V.mv (v := (.slice (some ⟨b, 0, none⟩) (s.size + 1) (s.size + 1))) (at_other rfl _ (at_other rfl _ (s7_133))) ?_)
            refine V.go (V.mv (v := (.int .i64 (k : Int))) (at_other rfl _ (at_other rfl _ (at_other rfl _ (s10_136)))) ?_)
            refine V.go (V.ixa b 0 (s.size + 1) (s.size + 1) .i64 (k : Int) 1 (at_other rfl _ (at_same ((hz128.put _ _).put _ _) rfl _)) (at_same (((hz128.put _ _).put _ _).put _ _) rfl _) (by omega) (by omega) (by kernel_rfl) ?_)
            refine V.go (V.ld ⟨b, 0 + (k : Int).toNat * 1, none⟩ (.bool (bs.getD ((k : Int).toNat) false)) (at_same ((((hz128.put _ _).put _ _).put _ _).put _ _) rfl _) (by kernel_rfl) (hR_91.at ((k : Int).toNat) false (by first | omega | (simp only [List.length_set, List.length_replicate]; omega))) ?_)
            refine V.go (V.mv (v := (.bool (bs.getD ((k : Int).toNat) false))) (at_same (((((hz128.put _ _).put _ _).put _ _).put _ _).put _ _) rfl _) ?_)
            by_cases hg139 : (bs.getD ((k : Int).toNat) false) = true
            ·
              refine V.go_off 45 (by kernel_rfl) (((at_same ((((((hz128.put _ _).put _ _).put _ _).put _ _).put _ _).put _ _) rfl _ : Act.eval _ _ = (.bool (bs.getD ((k : Int).toNat) false)))).trans (bt hg139)) (by kernel_rfl) ?_
              refine V.go_off 45 (by kernel_rfl) (((at_other rfl _ (at_same ((((((hz128.put _ _).put _ _).put _ _).put _ _).put _ _).put _ _) rfl _) : Act.eval _ _ = (.bool (bs.getD ((k : Int).toNat) false)))).trans (bt hg139)) (by kernel_rfl) ?_
              refine V.go_off 45 (by kernel_rfl) (((at_other rfl _ (at_other rfl _ (at_same ((((((hz128.put _ _).put _ _).put _ _).put _ _).put _ _).put _ _) rfl _)) : Act.eval _ _ = (.bool (bs.getD ((k : Int).toNat) false)))).trans (bt hg139)) (by kernel_rfl) ?_
              refine V.go_none 48 (by kernel_rfl) (at_same (((((((((hz128.put _ _).put _ _).put _ _).put _ _).put _ _).put _ _).put _ _).put _ _).put _ _) rfl _) ?_
              refine V.go_none 48 (by kernel_rfl) (at_other rfl _ (at_same (((((((((hz128.put _ _).put _ _).put _ _).put _ _).put _ _).put _ _).put _ _).put _ _).put _ _) rfl _)) ?_
              refine V.go_none 48 (by kernel_rfl) (at_other rfl _ (at_other rfl _ (at_same (((((((((hz128.put _ _).put _ _).put _ _).put _ _).put _ _).put _ _).put _ _).put _ _).put _ _) rfl _))) ?_
              refine V.go_none 48 (by kernel_rfl) (at_other rfl _ (at_other rfl _ (at_other rfl _ (at_same (((((((((hz128.put _ _).put _ _).put _ _).put _ _).put _ _).put _ _).put _ _).put _ _).put _ _) rfl _)))) ?_
              refine V.go_none 48 (by kernel_rfl) (at_other rfl _ (at_other rfl _ (at_other rfl _ (at_other rfl _ (at_same (((((((((hz128.put _ _).put _ _).put _ _).put _ _).put _ _).put _ _).put _ _).put _ _).put _ _) rfl _))))) ?_
              refine V.go_off 45 (by kernel_rfl) (((at_other rfl _ (at_other rfl _ (at_other rfl _ (at_other rfl _ (at_other rfl _ (at_other rfl _ (at_other rfl _ (at_other rfl _ (at_same ((((((hz128.put _ _).put _ _).put _ _).put _ _).put _ _).put _ _) rfl _)))))))) : Act.eval _ _ = (.bool (bs.getD ((k : Int).toNat) false)))).trans (bt hg139)) (by kernel_rfl) ?_
              refine V.go (V.pk_t (((at_other rfl _ (at_other rfl _ (at_other rfl _ (at_other rfl _ (at_other rfl _ (at_other rfl _ (at_other rfl _ (at_other rfl _ (at_other rfl _ (at_same ((((((hz128.put _ _).put _ _).put _ _).put _ _).put _ _).put _ _) rfl _))))))))) : Act.eval _ _ = (.bool (bs.getD ((k : Int).toNat) false)))).trans (bt hg139)) (v := (.bool true)) evc ?_)
              refine V.go (V.ixa b60 0 (s.size + 1) (s.size + 1) .i64 (k : Int) 1 (at_other rfl _ (at_other rfl _ (at_other rfl _ (at_other rfl _ (at_other rfl _ (at_other rfl _ (at_other rfl _ (at_other rfl _ (at_other rfl _ (at_other rfl _ (at_other rfl _ (at_other rfl _ (at_other rfl _ (at_other rfl _ (at_other rfl _ (at_other rfl _ (at_same hz128 rfl _))))))))))))))))) (at_other rfl _ (at_other rfl _ (at_other rfl _ (at_other rfl _ (at_other rfl _ (at_other rfl _ (at_other rfl _ (at_other rfl _ (at_other rfl _ (at_other rfl _ (at_other rfl _ (at_other rfl _ (at_other rfl _ (at_other rfl _ (at_other rfl _ (at_same (hz128.put _ _) rfl _)))))))))))))))) (by omega) (by omega) (by kernel_rfl) ?_)
              refine V.go (V.strow (enc := Value.bool) b60 ((k : Int).toNat) true (at_same (((((((((((((((((hz128.put _ _).put _ _).put _ _).put _ _).put _ _).put _ _).put _ _).put _ _).put _ _).put _ _).put _ _).put _ _).put _ _).put _ _).put _ _).put _ _).put _ _) rfl _) (at_other rfl _ (at_same ((((((((((((((((hz128.put _ _).put _ _).put _ _).put _ _).put _ _).put _ _).put _ _).put _ _).put _ _).put _ _).put _ _).put _ _).put _ _).put _ _).put _ _).put _ _) rfl _)) rfl rfl (by kernel_rfl) hN_90 (by first | omega | (simp only [List.length_set, List.length_replicate]; omega)) ?_)
              intro w140 hR141 hF142 hsw140
              have hR_143 := hR_91.fr1 hF142 (by omega)
              have hF_144 := hF_92.own hF142 (by simp <;> omega)
              have hS_145 := hS_93.fr hF142 (by simp <;> omega)
              have hS126_146 := hS126.fr hF142 (by simp <;> omega)
              have hE122_147 := hE122.fr hF142 (by simp <;> omega)
              refine V.nil ?_
              refine V.blk_n ?_
              refine V.then_n (hK114 _ _ ?_)
              refine V.flushW ((((((((((((((((((hz128.put _ _).put _ _).put _ _).put _ _).put _ _).put _ _).put _ _).put _ _).put _ _).put _ _).put _ _).put _ _).put _ _).put _ _).put _ _).put _ _).put _ _).put _ _) (fun a148 hz149 up150 => ?_)
              have s0_151 : a148.eval (.tmp 0) = (.slice A l.length cap) := up150 _ _ (at_other rfl _ (at_other rfl _ (at_other rfl _ (at_other rfl _ (at_other rfl _ (at_other rfl _ (at_other rfl _ (at_other rfl _ (at_other rfl _ (at_other rfl _ (at_other rfl _ (at_other rfl _ (at_other rfl _ (at_other rfl _ (at_other rfl _ (at_other rfl _ (at_other rfl _ (at_other rfl _ (s0_130)))))))))))))))))))
              have s1_152 : a148.eval (.tmp 1) = (.string s) := up150 _ _ (at_other rfl _ (at_other rfl _ (at_other rfl _ (at_other rfl _ (at_other rfl _ (at_other rfl _ (at_other rfl _ (at_other rfl _ (at_other rfl _ (at_other rfl _ (at_other rfl _ (at_other rfl _ (at_other rfl _ (at_other rfl _ (at_other rfl _ (at_other rfl _ (at_other rfl _ (at_other rfl _ (s1_131)))))))))))))))))))
              have s2_153 : a148.eval (.tmp 2) = (.bool fold) := up150 _ _ (at_other rfl _ (at_other rfl _ (at_other rfl _ (at_other rfl _ (at_other rfl _ (at_other rfl _ (at_other rfl _ (at_other rfl _ (at_other rfl _ (at_other rfl _ (at_other rfl _ (at_other rfl _ (at_other rfl _ (at_other rfl _ (at_other rfl _ (at_other rfl _ (at_other rfl _ (at_other rfl _ (s2_132)))))))))))))))))))
              have s7_154 : a148.eval (.tmp 7) = (.slice (some ⟨b, 0, none⟩) (s.size + 1) (s.size + 1)) := up150 _ _ (at_other rfl _ (at_other rfl _ (at_other rfl _ (at_other rfl _ (at_other rfl _ (at_other rfl _ (at_other rfl _ (at_other rfl _ (at_other rfl _ (at_other rfl _ (at_other rfl _ (at_other rfl _ (at_other rfl _ (at_other rfl _ (at_other rfl _ (at_other rfl _ (at_other rfl _ (at_other rfl _ (s7_133)))))))))))))))))))
              have s8_155 : a148.eval (.tmp 8) = (.int .i64 (i : Int)) := up150 _ _ (at_other rfl _ (at_other rfl _ (at_other rfl _ (at_other rfl _ (at_other rfl _ (at_other rfl _ (at_other rfl _ (at_other rfl _ (at_other rfl _ (at_other rfl _ (at_other rfl _ (at_other rfl _ (at_other rfl _ (at_other rfl _ (at_other rfl _ (at_other rfl _ (at_other rfl _ (at_other rfl _ (s8_134)))))))))))))))))))
              have s9_156 : a148.eval (.tmp 9) = (.slice (some ⟨b60, 0, none⟩) (s.size + 1) (s.size + 1)) := up150 _ _ (at_other rfl _ (at_other rfl _ (at_other rfl _ (at_other rfl _ (at_other rfl _ (at_other rfl _ (at_other rfl _ (at_other rfl _ (at_other rfl _ (at_other rfl _ (at_other rfl _ (at_other rfl _ (at_other rfl _ (at_other rfl _ (at_other rfl _ (at_other rfl _ (at_other rfl _ (at_other rfl _ (s9_135)))))))))))))))))))
              have s10_157 : a148.eval (.tmp 10) = (.int .i64 (k : Int)) := up150 _ _ (at_other rfl _ (at_other rfl _ (at_other rfl _ (at_other rfl _ (at_other rfl _ (at_other rfl _ (at_other rfl _ (at_other rfl _ (at_other rfl _ (at_other rfl _ (at_other rfl _ (at_other rfl _ (at_other rfl _ (at_other rfl _ (at_other rfl _ (at_other rfl _ (at_other rfl _ (at_other rfl _ (s10_136)))))))))))))))))))
              clear up150
              refine V.region (by kernel_rfl) ?_
              refine V.go (V.mv (v := (.int .i64 (k : Int))) (s10_157) ?_)
              refine V.go (V.pvw [(31, .int .i64 (k : Int))] ⟨(at_same hz149 rfl _), trivial⟩ (by kernel_rfl) (.int .i64 (IntKind.i64.wrap ((k : Int) + 1))) (.int .i64 ((k : Int) + 1)) (by kernel_rfl) (V.w_i64 (by omega) (by omega)) ?_)
              refine V.go (V.asg (v := (.int .i64 ((k : Int) + 1))) (at_same (hz149.put _ _) rfl _) ?_)
              refine V.nil ?_
              refine V.then_n ?_
              have hv : true = dp fold l s (i + 1) k := by
                rw [dp_step]
                rw [if_pos ht138, ← hbs k (by omega)]
                rw [show bs.getD k false = true from hg139]; rfl
              refine ⟨k + 1, ns.set ((k : Int).toNat) true, by omega, ?_⟩
              refine ⟨(((hz149.put _ _).put _ _).put _ _), ?_, ?_, ?_, ?_, ?_, ?_, ?_, hR141, hR_143, hF_144, hS_145, (by omega), (by simp only [List.length_set]; exact hlen2), (row_step hns (by omega) hv)⟩
              · exact (at_other rfl _ (at_other rfl _ (at_other rfl _ (s0_151))))
              · exact (at_other rfl _ (at_other rfl _ (at_other rfl _ (s1_152))))
              · exact (at_other rfl _ (at_other rfl _ (at_other rfl _ (s2_153))))
              · exact (at_other rfl _ (at_other rfl _ (at_other rfl _ (s7_154))))
              · exact Eq.trans (at_other rfl _ (at_other rfl _ (at_other rfl _ (s8_155)))) (V.int_eq (by omega))
              · exact (at_other rfl _ (at_other rfl _ (at_other rfl _ (s9_156))))
              · exact Eq.trans (at_same ((hz149.put _ _).put _ _) rfl _) (V.int_eq (by omega))
            ·
              refine V.go_on 45 (by kernel_rfl) (((at_same ((((((hz128.put _ _).put _ _).put _ _).put _ _).put _ _).put _ _) rfl _ : Act.eval _ _ = (.bool (bs.getD ((k : Int).toNat) false)))).trans (bf hg139)) (V.mv (v := (.int .i64 (k : Int))) (at_other rfl _ (at_other rfl _ (at_other rfl _ (at_other rfl _ (at_other rfl _ (at_other rfl _ (at_other rfl _ (s10_136)))))))) ?_)
              refine V.go_on 45 (by kernel_rfl) (((at_other rfl _ (at_same ((((((hz128.put _ _).put _ _).put _ _).put _ _).put _ _).put _ _) rfl _) : Act.eval _ _ = (.bool (bs.getD ((k : Int).toNat) false)))).trans (bf hg139)) (V.pv [(46, .int .i64 (k : Int))] ⟨(at_same (((((((hz128.put _ _).put _ _).put _ _).put _ _).put _ _).put _ _).put _ _) rfl _), trivial⟩ (by kernel_rfl) (.bool (decide ((k : Int) > 0))) (by kernel_rfl) ?_)
              refine V.go_on 45 (by kernel_rfl) (((at_other rfl _ (at_other rfl _ (at_same ((((((hz128.put _ _).put _ _).put _ _).put _ _).put _ _).put _ _) rfl _)) : Act.eval _ _ = (.bool (bs.getD ((k : Int).toNat) false)))).trans (bf hg139)) (V.mv (v := (.bool (decide ((k : Int) > 0)))) (at_same ((((((((hz128.put _ _).put _ _).put _ _).put _ _).put _ _).put _ _).put _ _).put _ _) rfl _) ?_)
              by_cases hg158 : (k : Int) > 0
              ·
                refine V.go_on 48 (by kernel_rfl) (((at_same (((((((((hz128.put _ _).put _ _).put _ _).put _ _).put _ _).put _ _).put _ _).put _ _).put _ _) rfl _ : Act.eval _ _ = (.bool (decide ((k : Int) > 0))))).trans (dt hg158)) (V.mv (v := (.slice (some ⟨b60, 0, none⟩) (s.size + 1) (s.size + 1))) (at_other rfl _ (at_other rfl _ (at_other rfl _ (at_other rfl _ (at_other rfl _ (at_other rfl _ (at_other rfl _ (at_other rfl _ (at_other rfl _ (at_other rfl _ (s9_135))))))))))) ?_)
                refine V.go_on 48 (by kernel_rfl) (((at_other rfl _ (at_same (((((((((hz128.put _ _).put _ _).put _ _).put _ _).put _ _).put _ _).put _ _).put _ _).put _ _) rfl _) : Act.eval _ _ = (.bool (decide ((k : Int) > 0))))).trans (dt hg158)) (V.mv (v := (.int .i64 (k : Int))) (at_other rfl _ (at_other rfl _ (at_other rfl _ (at_other rfl _ (at_other rfl _ (at_other rfl _ (at_other rfl _ (at_other rfl _ (at_other rfl _ (at_other rfl _ (at_other rfl _ (s10_136)))))))))))) ?_)
                refine V.go_on 48 (by kernel_rfl) (((at_other rfl _ (at_other rfl _ (at_same (((((((((hz128.put _ _).put _ _).put _ _).put _ _).put _ _).put _ _).put _ _).put _ _).put _ _) rfl _)) : Act.eval _ _ = (.bool (decide ((k : Int) > 0))))).trans (dt hg158)) (V.pvw [(50, .int .i64 (k : Int))] ⟨(at_same (((((((((((hz128.put _ _).put _ _).put _ _).put _ _).put _ _).put _ _).put _ _).put _ _).put _ _).put _ _).put _ _) rfl _), trivial⟩ (by kernel_rfl) (.int .i64 (IntKind.i64.wrap ((k : Int) - 1))) (.int .i64 ((k : Int) - 1)) (by kernel_rfl) (V.w_i64 (by omega) (by omega)) ?_)
                refine V.go_on 48 (by kernel_rfl) (((at_other rfl _ (at_other rfl _ (at_other rfl _ (at_same (((((((((hz128.put _ _).put _ _).put _ _).put _ _).put _ _).put _ _).put _ _).put _ _).put _ _) rfl _))) : Act.eval _ _ = (.bool (decide ((k : Int) > 0))))).trans (dt hg158)) (V.ixa b60 0 (s.size + 1) (s.size + 1) .i64 ((k : Int) - 1) 1 (at_other rfl _ (at_other rfl _ (at_same ((((((((((hz128.put _ _).put _ _).put _ _).put _ _).put _ _).put _ _).put _ _).put _ _).put _ _).put _ _) rfl _))) (at_same ((((((((((((hz128.put _ _).put _ _).put _ _).put _ _).put _ _).put _ _).put _ _).put _ _).put _ _).put _ _).put _ _).put _ _) rfl _) (by omega) (by omega) (by kernel_rfl) ?_)
                refine V.go_on 48 (by kernel_rfl) (((at_other rfl _ (at_other rfl _ (at_other rfl _ (at_other rfl _ (at_same (((((((((hz128.put _ _).put _ _).put _ _).put _ _).put _ _).put _ _).put _ _).put _ _).put _ _) rfl _)))) : Act.eval _ _ = (.bool (decide ((k : Int) > 0))))).trans (dt hg158)) (V.ld ⟨b60, 0 + ((k : Int) - 1).toNat * 1, none⟩ (.bool (ns.getD (((k : Int) - 1).toNat) false)) (at_same (((((((((((((hz128.put _ _).put _ _).put _ _).put _ _).put _ _).put _ _).put _ _).put _ _).put _ _).put _ _).put _ _).put _ _).put _ _) rfl _) (by kernel_rfl) (hN_90.at (((k : Int) - 1).toNat) false (by first | omega | (simp only [List.length_set, List.length_replicate]; omega))) ?_)
                refine V.go_on 45 (by kernel_rfl) (((at_other rfl _ (at_other rfl _ (at_other rfl _ (at_other rfl _ (at_other rfl _ (at_other rfl _ (at_other rfl _ (at_other rfl _ (at_same ((((((hz128.put _ _).put _ _).put _ _).put _ _).put _ _).put _ _) rfl _)))))))) : Act.eval _ _ = (.bool (bs.getD ((k : Int).toNat) false)))).trans (bf hg139)) (V.pk_t (((at_other rfl _ (at_other rfl _ (at_other rfl _ (at_other rfl _ (at_other rfl _ (at_same (((((((((hz128.put _ _).put _ _).put _ _).put _ _).put _ _).put _ _).put _ _).put _ _).put _ _) rfl _))))) : Act.eval _ _ = (.bool (decide ((k : Int) > 0))))).trans (dt hg158)) (v := (.bool (ns.getD (((k : Int) - 1).toNat) false))) (at_same ((((((((((((((hz128.put _ _).put _ _).put _ _).put _ _).put _ _).put _ _).put _ _).put _ _).put _ _).put _ _).put _ _).put _ _).put _ _).put _ _) rfl _) ?_)
                refine V.go (V.pk_f (((at_other rfl _ (at_other rfl _ (at_other rfl _ (at_other rfl _ (at_other rfl _ (at_other rfl _ (at_other rfl _ (at_other rfl _ (at_other rfl _ (at_same ((((((hz128.put _ _).put _ _).put _ _).put _ _).put _ _).put _ _) rfl _))))))))) : Act.eval _ _ = (.bool (bs.getD ((k : Int).toNat) false)))).trans (bf hg139)) (v := (.bool (ns.getD (((k : Int) - 1).toNat) false))) (at_same (((((((((((((((hz128.put _ _).put _ _).put _ _).put _ _).put _ _).put _ _).put _ _).put _ _).put _ _).put _ _).put _ _).put _ _).put _ _).put _ _).put _ _) rfl _) ?_)
                refine V.go (V.ixa b60 0 (s.size + 1) (s.size + 1) .i64 (k : Int) 1 (at_other rfl _ (at_other rfl _ (at_other rfl _ (at_other rfl _ (at_other rfl _ (at_other rfl _ (at_other rfl _ (at_other rfl _ (at_other rfl _ (at_other rfl _ (at_other rfl _ (at_other rfl _ (at_other rfl _ (at_other rfl _ (at_other rfl _ (at_other rfl _ (at_same hz128 rfl _))))))))))))))))) (at_other rfl _ (at_other rfl _ (at_other rfl _ (at_other rfl _ (at_other rfl _ (at_other rfl _ (at_other rfl _ (at_other rfl _ (at_other rfl _ (at_other rfl _ (at_other rfl _ (at_other rfl _ (at_other rfl _ (at_other rfl _ (at_other rfl _ (at_same (hz128.put _ _) rfl _)))))))))))))))) (by omega) (by omega) (by kernel_rfl) ?_)
                refine V.go (V.strow (enc := Value.bool) b60 ((k : Int).toNat) (ns.getD (((k : Int) - 1).toNat) false) (at_same (((((((((((((((((hz128.put _ _).put _ _).put _ _).put _ _).put _ _).put _ _).put _ _).put _ _).put _ _).put _ _).put _ _).put _ _).put _ _).put _ _).put _ _).put _ _).put _ _) rfl _) (at_other rfl _ (at_same ((((((((((((((((hz128.put _ _).put _ _).put _ _).put _ _).put _ _).put _ _).put _ _).put _ _).put _ _).put _ _).put _ _).put _ _).put _ _).put _ _).put _ _).put _ _) rfl _)) rfl rfl (by kernel_rfl) hN_90 (by first | omega | (simp only [List.length_set, List.length_replicate]; omega)) ?_)
                intro w159 hR160 hF161 hsw159
                have hR_162 := hR_91.fr1 hF161 (by omega)
                have hF_163 := hF_92.own hF161 (by simp <;> omega)
                have hS_164 := hS_93.fr hF161 (by simp <;> omega)
                have hS126_165 := hS126.fr hF161 (by simp <;> omega)
                have hE122_166 := hE122.fr hF161 (by simp <;> omega)
                refine V.nil ?_
                refine V.blk_n ?_
                refine V.then_n (hK114 _ _ ?_)
                refine V.flushW ((((((((((((((((((hz128.put _ _).put _ _).put _ _).put _ _).put _ _).put _ _).put _ _).put _ _).put _ _).put _ _).put _ _).put _ _).put _ _).put _ _).put _ _).put _ _).put _ _).put _ _) (fun a167 hz168 up169 => ?_)
                have s0_170 : a167.eval (.tmp 0) = (.slice A l.length cap) := up169 _ _ (at_other rfl _ (at_other rfl _ (at_other rfl _ (at_other rfl _ (at_other rfl _ (at_other rfl _ (at_other rfl _ (at_other rfl _ (at_other rfl _ (at_other rfl _ (at_other rfl _ (at_other rfl _ (at_other rfl _ (at_other rfl _ (at_other rfl _ (at_other rfl _ (at_other rfl _ (at_other rfl _ (s0_130)))))))))))))))))))
                have s1_171 : a167.eval (.tmp 1) = (.string s) := up169 _ _ (at_other rfl _ (at_other rfl _ (at_other rfl _ (at_other rfl _ (at_other rfl _ (at_other rfl _ (at_other rfl _ (at_other rfl _ (at_other rfl _ (at_other rfl _ (at_other rfl _ (at_other rfl _ (at_other rfl _ (at_other rfl _ (at_other rfl _ (at_other rfl _ (at_other rfl _ (at_other rfl _ (s1_131)))))))))))))))))))
                have s2_172 : a167.eval (.tmp 2) = (.bool fold) := up169 _ _ (at_other rfl _ (at_other rfl _ (at_other rfl _ (at_other rfl _ (at_other rfl _ (at_other rfl _ (at_other rfl _ (at_other rfl _ (at_other rfl _ (at_other rfl _ (at_other rfl _ (at_other rfl _ (at_other rfl _ (at_other rfl _ (at_other rfl _ (at_other rfl _ (at_other rfl _ (at_other rfl _ (s2_132)))))))))))))))))))
                have s7_173 : a167.eval (.tmp 7) = (.slice (some ⟨b, 0, none⟩) (s.size + 1) (s.size + 1)) := up169 _ _ (at_other rfl _ (at_other rfl _ (at_other rfl _ (at_other rfl _ (at_other rfl _ (at_other rfl _ (at_other rfl _ (at_other rfl _ (at_other rfl _ (at_other rfl _ (at_other rfl _ (at_other rfl _ (at_other rfl _ (at_other rfl _ (at_other rfl _ (at_other rfl _ (at_other rfl _ (at_other rfl _ (s7_133)))))))))))))))))))
                have s8_174 : a167.eval (.tmp 8) = (.int .i64 (i : Int)) := up169 _ _ (at_other rfl _ (at_other rfl _ (at_other rfl _ (at_other rfl _ (at_other rfl _ (at_other rfl _ (at_other rfl _ (at_other rfl _ (at_other rfl _ (at_other rfl _ (at_other rfl _ (at_other rfl _ (at_other rfl _ (at_other rfl _ (at_other rfl _ (at_other rfl _ (at_other rfl _ (at_other rfl _ (s8_134)))))))))))))))))))
                have s9_175 : a167.eval (.tmp 9) = (.slice (some ⟨b60, 0, none⟩) (s.size + 1) (s.size + 1)) := up169 _ _ (at_other rfl _ (at_other rfl _ (at_other rfl _ (at_other rfl _ (at_other rfl _ (at_other rfl _ (at_other rfl _ (at_other rfl _ (at_other rfl _ (at_other rfl _ (at_other rfl _ (at_other rfl _ (at_other rfl _ (at_other rfl _ (at_other rfl _ (at_other rfl _ (at_other rfl _ (at_other rfl _ (s9_135)))))))))))))))))))
                have s10_176 : a167.eval (.tmp 10) = (.int .i64 (k : Int)) := up169 _ _ (at_other rfl _ (at_other rfl _ (at_other rfl _ (at_other rfl _ (at_other rfl _ (at_other rfl _ (at_other rfl _ (at_other rfl _ (at_other rfl _ (at_other rfl _ (at_other rfl _ (at_other rfl _ (at_other rfl _ (at_other rfl _ (at_other rfl _ (at_other rfl _ (at_other rfl _ (at_other rfl _ (s10_136)))))))))))))))))))
                clear up169
                refine V.region (by kernel_rfl) ?_
                refine V.go (V.mv (v := (.int .i64 (k : Int))) (s10_176) ?_)
                refine V.go (V.pvw [(31, .int .i64 (k : Int))] ⟨(at_same hz168 rfl _), trivial⟩ (by kernel_rfl) (.int .i64 (IntKind.i64.wrap ((k : Int) + 1))) (.int .i64 ((k : Int) + 1)) (by kernel_rfl) (V.w_i64 (by omega) (by omega)) ?_)
                refine V.go (V.asg (v := (.int .i64 ((k : Int) + 1))) (at_same (hz168.put _ _) rfl _) ?_)
                refine V.nil ?_
                refine V.then_n ?_
                have hv : (ns.getD (((k : Int) - 1).toNat) false) = dp fold l s (i + 1) k := by
                  rw [dp_step]
                  rw [if_pos ht138, ← hbs k (by omega)]
                  rw [show bs.getD k false = false from Bool.not_eq_true _ ▸ hg139]
                  rw [decide_eq_true (show 0 < k by omega)]; rw [← hns _ (by omega)]; rfl
                refine ⟨k + 1, ns.set ((k : Int).toNat) (ns.getD (((k : Int) - 1).toNat) false), by omega, ?_⟩
                refine ⟨(((hz168.put _ _).put _ _).put _ _), ?_, ?_, ?_, ?_, ?_, ?_, ?_, hR160, hR_162, hF_163, hS_164, (by omega), (by simp only [List.length_set]; exact hlen2), (row_step hns (by omega) hv)⟩
                · exact (at_other rfl _ (at_other rfl _ (at_other rfl _ (s0_170))))
                · exact (at_other rfl _ (at_other rfl _ (at_other rfl _ (s1_171))))
                · exact (at_other rfl _ (at_other rfl _ (at_other rfl _ (s2_172))))
                · exact (at_other rfl _ (at_other rfl _ (at_other rfl _ (s7_173))))
                · exact Eq.trans (at_other rfl _ (at_other rfl _ (at_other rfl _ (s8_174)))) (V.int_eq (by omega))
                · exact (at_other rfl _ (at_other rfl _ (at_other rfl _ (s9_175))))
                · exact Eq.trans (at_same ((hz168.put _ _).put _ _) rfl _) (V.int_eq (by omega))
              ·
                refine V.go_off 48 (by kernel_rfl) (((at_same (((((((((hz128.put _ _).put _ _).put _ _).put _ _).put _ _).put _ _).put _ _).put _ _).put _ _) rfl _ : Act.eval _ _ = (.bool (decide ((k : Int) > 0))))).trans (df hg158)) (by kernel_rfl) ?_
                refine V.go_off 48 (by kernel_rfl) (((at_other rfl _ (at_same (((((((((hz128.put _ _).put _ _).put _ _).put _ _).put _ _).put _ _).put _ _).put _ _).put _ _) rfl _) : Act.eval _ _ = (.bool (decide ((k : Int) > 0))))).trans (df hg158)) (by kernel_rfl) ?_
                refine V.go_off 48 (by kernel_rfl) (((at_other rfl _ (at_other rfl _ (at_same (((((((((hz128.put _ _).put _ _).put _ _).put _ _).put _ _).put _ _).put _ _).put _ _).put _ _) rfl _)) : Act.eval _ _ = (.bool (decide ((k : Int) > 0))))).trans (df hg158)) (by kernel_rfl) ?_
                refine V.go_off 48 (by kernel_rfl) (((at_other rfl _ (at_other rfl _ (at_other rfl _ (at_same (((((((((hz128.put _ _).put _ _).put _ _).put _ _).put _ _).put _ _).put _ _).put _ _).put _ _) rfl _))) : Act.eval _ _ = (.bool (decide ((k : Int) > 0))))).trans (df hg158)) (by kernel_rfl) ?_
                refine V.go_off 48 (by kernel_rfl) (((at_other rfl _ (at_other rfl _ (at_other rfl _ (at_other rfl _ (at_same (((((((((hz128.put _ _).put _ _).put _ _).put _ _).put _ _).put _ _).put _ _).put _ _).put _ _) rfl _)))) : Act.eval _ _ = (.bool (decide ((k : Int) > 0))))).trans (df hg158)) (by kernel_rfl) ?_
                refine V.go_on 45 (by kernel_rfl) (((at_other rfl _ (at_other rfl _ (at_other rfl _ (at_other rfl _ (at_other rfl _ (at_other rfl _ (at_other rfl _ (at_other rfl _ (at_same ((((((hz128.put _ _).put _ _).put _ _).put _ _).put _ _).put _ _) rfl _)))))))) : Act.eval _ _ = (.bool (bs.getD ((k : Int).toNat) false)))).trans (bf hg139)) (V.pk_f (((at_other rfl _ (at_other rfl _ (at_other rfl _ (at_other rfl _ (at_other rfl _ (at_same (((((((((hz128.put _ _).put _ _).put _ _).put _ _).put _ _).put _ _).put _ _).put _ _).put _ _) rfl _))))) : Act.eval _ _ = (.bool (decide ((k : Int) > 0))))).trans (df hg158)) (v := (.bool false)) evc ?_)
                refine V.go (V.pk_f (((at_other rfl _ (at_other rfl _ (at_other rfl _ (at_other rfl _ (at_other rfl _ (at_other rfl _ (at_other rfl _ (at_other rfl _ (at_other rfl _ (at_same ((((((hz128.put _ _).put _ _).put _ _).put _ _).put _ _).put _ _) rfl _))))))))) : Act.eval _ _ = (.bool (bs.getD ((k : Int).toNat) false)))).trans (bf hg139)) (v := (.bool false)) (at_same (((((((((((((((hz128.put _ _).put _ _).put _ _).put _ _).put _ _).put _ _).put _ _).put _ _).put _ _).put _ _).put _ _).put _ _).put _ _).put _ _).put _ _) rfl _) ?_)
                refine V.go (V.ixa b60 0 (s.size + 1) (s.size + 1) .i64 (k : Int) 1 (at_other rfl _ (at_other rfl _ (at_other rfl _ (at_other rfl _ (at_other rfl _ (at_other rfl _ (at_other rfl _ (at_other rfl _ (at_other rfl _ (at_other rfl _ (at_other rfl _ (at_other rfl _ (at_other rfl _ (at_other rfl _ (at_other rfl _ (at_other rfl _ (at_same hz128 rfl _))))))))))))))))) (at_other rfl _ (at_other rfl _ (at_other rfl _ (at_other rfl _ (at_other rfl _ (at_other rfl _ (at_other rfl _ (at_other rfl _ (at_other rfl _ (at_other rfl _ (at_other rfl _ (at_other rfl _ (at_other rfl _ (at_other rfl _ (at_other rfl _ (at_same (hz128.put _ _) rfl _)))))))))))))))) (by omega) (by omega) (by kernel_rfl) ?_)
                refine V.go (V.strow (enc := Value.bool) b60 ((k : Int).toNat) false (at_same (((((((((((((((((hz128.put _ _).put _ _).put _ _).put _ _).put _ _).put _ _).put _ _).put _ _).put _ _).put _ _).put _ _).put _ _).put _ _).put _ _).put _ _).put _ _).put _ _) rfl _) (at_other rfl _ (at_same ((((((((((((((((hz128.put _ _).put _ _).put _ _).put _ _).put _ _).put _ _).put _ _).put _ _).put _ _).put _ _).put _ _).put _ _).put _ _).put _ _).put _ _).put _ _) rfl _)) rfl rfl (by kernel_rfl) hN_90 (by first | omega | (simp only [List.length_set, List.length_replicate]; omega)) ?_)
                intro w177 hR178 hF179 hsw177
                have hR_180 := hR_91.fr1 hF179 (by omega)
                have hF_181 := hF_92.own hF179 (by simp <;> omega)
                have hS_182 := hS_93.fr hF179 (by simp <;> omega)
                have hS126_183 := hS126.fr hF179 (by simp <;> omega)
                have hE122_184 := hE122.fr hF179 (by simp <;> omega)
                refine V.nil ?_
                refine V.blk_n ?_
                refine V.then_n (hK114 _ _ ?_)
                refine V.flushW ((((((((((((((((((hz128.put _ _).put _ _).put _ _).put _ _).put _ _).put _ _).put _ _).put _ _).put _ _).put _ _).put _ _).put _ _).put _ _).put _ _).put _ _).put _ _).put _ _).put _ _) (fun a185 hz186 up187 => ?_)
                have s0_188 : a185.eval (.tmp 0) = (.slice A l.length cap) := up187 _ _ (at_other rfl _ (at_other rfl _ (at_other rfl _ (at_other rfl _ (at_other rfl _ (at_other rfl _ (at_other rfl _ (at_other rfl _ (at_other rfl _ (at_other rfl _ (at_other rfl _ (at_other rfl _ (at_other rfl _ (at_other rfl _ (at_other rfl _ (at_other rfl _ (at_other rfl _ (at_other rfl _ (s0_130)))))))))))))))))))
                have s1_189 : a185.eval (.tmp 1) = (.string s) := up187 _ _ (at_other rfl _ (at_other rfl _ (at_other rfl _ (at_other rfl _ (at_other rfl _ (at_other rfl _ (at_other rfl _ (at_other rfl _ (at_other rfl _ (at_other rfl _ (at_other rfl _ (at_other rfl _ (at_other rfl _ (at_other rfl _ (at_other rfl _ (at_other rfl _ (at_other rfl _ (at_other rfl _ (s1_131)))))))))))))))))))
                have s2_190 : a185.eval (.tmp 2) = (.bool fold) := up187 _ _ (at_other rfl _ (at_other rfl _ (at_other rfl _ (at_other rfl _ (at_other rfl _ (at_other rfl _ (at_other rfl _ (at_other rfl _ (at_other rfl _ (at_other rfl _ (at_other rfl _ (at_other rfl _ (at_other rfl _ (at_other rfl _ (at_other rfl _ (at_other rfl _ (at_other rfl _ (at_other rfl _ (s2_132)))))))))))))))))))
                have s7_191 : a185.eval (.tmp 7) = (.slice (some ⟨b, 0, none⟩) (s.size + 1) (s.size + 1)) := up187 _ _ (at_other rfl _ (at_other rfl _ (at_other rfl _ (at_other rfl _ (at_other rfl _ (at_other rfl _ (at_other rfl _ (at_other rfl _ (at_other rfl _ (at_other rfl _ (at_other rfl _ (at_other rfl _ (at_other rfl _ (at_other rfl _ (at_other rfl _ (at_other rfl _ (at_other rfl _ (at_other rfl _ (s7_133)))))))))))))))))))
                have s8_192 : a185.eval (.tmp 8) = (.int .i64 (i : Int)) := up187 _ _ (at_other rfl _ (at_other rfl _ (at_other rfl _ (at_other rfl _ (at_other rfl _ (at_other rfl _ (at_other rfl _ (at_other rfl _ (at_other rfl _ (at_other rfl _ (at_other rfl _ (at_other rfl _ (at_other rfl _ (at_other rfl _ (at_other rfl _ (at_other rfl _ (at_other rfl _ (at_other rfl _ (s8_134)))))))))))))))))))
                have s9_193 : a185.eval (.tmp 9) = (.slice (some ⟨b60, 0, none⟩) (s.size + 1) (s.size + 1)) := up187 _ _ (at_other rfl _ (at_other rfl _ (at_other rfl _ (at_other rfl _ (at_other rfl _ (at_other rfl _ (at_other rfl _ (at_other rfl _ (at_other rfl _ (at_other rfl _ (at_other rfl _ (at_other rfl _ (at_other rfl _ (at_other rfl _ (at_other rfl _ (at_other rfl _ (at_other rfl _ (at_other rfl _ (s9_135)))))))))))))))))))
                have s10_194 : a185.eval (.tmp 10) = (.int .i64 (k : Int)) := up187 _ _ (at_other rfl _ (at_other rfl _ (at_other rfl _ (at_other rfl _ (at_other rfl _ (at_other rfl _ (at_other rfl _ (at_other rfl _ (at_other rfl _ (at_other rfl _ (at_other rfl _ (at_other rfl _ (at_other rfl _ (at_other rfl _ (at_other rfl _ (at_other rfl _ (at_other rfl _ (at_other rfl _ (s10_136)))))))))))))))))))
                clear up187
                refine V.region (by kernel_rfl) ?_
                refine V.go (V.mv (v := (.int .i64 (k : Int))) (s10_194) ?_)
                refine V.go (V.pvw [(31, .int .i64 (k : Int))] ⟨(at_same hz186 rfl _), trivial⟩ (by kernel_rfl) (.int .i64 (IntKind.i64.wrap ((k : Int) + 1))) (.int .i64 ((k : Int) + 1)) (by kernel_rfl) (V.w_i64 (by omega) (by omega)) ?_)
                refine V.go (V.asg (v := (.int .i64 ((k : Int) + 1))) (at_same (hz186.put _ _) rfl _) ?_)
                refine V.nil ?_
                refine V.then_n ?_
                have hv : false = dp fold l s (i + 1) k := by
                  rw [dp_step]
                  rw [if_pos ht138, ← hbs k (by omega)]
                  rw [show bs.getD k false = false from Bool.not_eq_true _ ▸ hg139]
                  rw [decide_eq_false (show ¬ 0 < k by omega)]; rfl
                refine ⟨k + 1, ns.set ((k : Int).toNat) false, by omega, ?_⟩
                refine ⟨(((hz186.put _ _).put _ _).put _ _), ?_, ?_, ?_, ?_, ?_, ?_, ?_, hR178, hR_180, hF_181, hS_182, (by omega), (by simp only [List.length_set]; exact hlen2), (row_step hns (by omega) hv)⟩
                · exact (at_other rfl _ (at_other rfl _ (at_other rfl _ (s0_188))))
                · exact (at_other rfl _ (at_other rfl _ (at_other rfl _ (s1_189))))
                · exact (at_other rfl _ (at_other rfl _ (at_other rfl _ (s2_190))))
                · exact (at_other rfl _ (at_other rfl _ (at_other rfl _ (s7_191))))
                · exact Eq.trans (at_other rfl _ (at_other rfl _ (at_other rfl _ (s8_192)))) (V.int_eq (by omega))
                · exact (at_other rfl _ (at_other rfl _ (at_other rfl _ (s9_193))))
                · exact Eq.trans (at_same ((hz186.put _ _).put _ _) rfl _) (V.int_eq (by omega))
          ·
            refine V.plan [[], [], [], [2], [2, 3], [2, 3, 4], [2, 3, 4], [2, 3, 4, 6], [2, 3, 4, 5, 6, 7], [2, 3, 4, 5, 6, 7, 8], [2, 3, 4, 5, 6, 7, 8, 9], [2, 3, 4, 5, 6, 7, 8, 9, 10], [2, 3, 4, 5, 6, 7, 8, 9, 10, 11], [2, 3, 4, 5, 6, 7, 8, 9, 10, 11], [2, 3, 4, 5, 6, 7, 8, 9, 10, 11, 12, 13], [2, 3, 4, 5, 6, 7, 8, 9, 10, 11, 12, 13, 14], [2, 3, 4, 5, 6, 7, 8, 9, 10, 11], [2, 3, 4, 5, 6, 7, 8, 9, 10, 11], [2, 3, 4, 5, 6, 7, 8, 9, 10, 11, 17], [2, 3, 4, 5, 6, 7, 8, 9, 10, 11, 16, 17, 18], [2, 3, 4, 5, 6, 7, 8, 9, 10, 11], [2, 3, 4, 5, 6, 7, 8, 9, 10, 11, 12, 13, 14, 15, 16, 17, 18, 19, 20], [2, 3, 4, 5, 6, 7, 8, 9, 10, 11, 12, 13, 14, 15, 16, 17, 18, 19, 20, 21], [0, 1, 2, 3, 4, 5, 6, 7, 8, 9, 10, 11, 12, 13, 14, 15, 16, 17, 18, 19, 20, 21, 22], [0, 1, 2, 3, 4, 5, 6, 7, 8, 9, 10, 11, 12, 13, 14, 15, 16, 17, 18, 19, 20, 21, 22, 23]] [([0, 1, 2, 3, 4, 5, 6, 7, 8, 9, 10, 11, 12, 13, 14, 15, 16, 17, 18, 19, 20], some (21, [])), ([22, 23], some (24, [])), ([], none)] (by kernel_rfl) (by kernel_rfl) (by exact fun _ _ _ _ h => h) ?_
            simp only [Plan.wpSegs, Plan.pickAll, Plan.nth, V.L_eq]
            obtain ⟨w195, hF196e⟩ : ∃ w1, w1 = w81.drew := ⟨_, rfl⟩
            rw [← hF196e]
            have hF196 : Fr [] w81 w195 := by rw [hF196e]; exact Fr.drew _ _
            have hsw195 : w195.heap.size = w81.heap.size := by rw [hF196e]; rfl
            clear hF196e
            have hN_197 := hN_90.fr0 hF196
            have hR_198 := hR_91.fr0 hF196
            have hF_199 := hF_92.new hF196
            have hS_200 := hS_93.fr0 hF196
            have hS126_201 := hS126.fr0 hF196
            have hE122_202 := hE122.fr0 hF196
            refine V.go (V.mv (v := (.slice (some ⟨b60, 0, none⟩) (s.size + 1) (s.size + 1))) (s9_135) ?_)
            refine V.go (V.mv (v := (.int .i64 (k : Int))) (at_other rfl _ (s10_136)) ?_)
            refine V.go (V.mv (v := (.int .i64 (k : Int))) (at_other rfl _ (at_other rfl _ (s10_136))) ?_)
            refine V.go (V.pv [(59, .int .i64 (k : Int))] ⟨(at_same ((hz128.put _ _).put _ _) rfl _), trivial⟩ (by kernel_rfl) (.bool (decide ((k : Int) > 0))) (by kernel_rfl) ?_)
            refine V.go (V.mv (v := (.bool (decide ((k : Int) > 0)))) (at_same (((hz128.put _ _).put _ _).put _ _) rfl _) ?_)
            by_cases hg203 : (k : Int) > 0
            ·
              refine V.go_on 61 (by kernel_rfl) (((at_same ((((hz128.put _ _).put _ _).put _ _).put _ _) rfl _ : Act.eval _ _ = (.bool (decide ((k : Int) > 0))))).trans (dt hg203)) (V.mv (v := (.slice (some ⟨b, 0, none⟩) (s.size + 1) (s.size + 1))) (at_other rfl _ (at_other rfl _ (at_other rfl _ (at_other rfl _ (at_other rfl _ (s7_133)))))) ?_)
              refine V.go_on 61 (by kernel_rfl) (((at_other rfl _ (at_same ((((hz128.put _ _).put _ _).put _ _).put _ _) rfl _) : Act.eval _ _ = (.bool (decide ((k : Int) > 0))))).trans (dt hg203)) (V.mv (v := (.int .i64 (k : Int))) (at_other rfl _ (at_other rfl _ (at_other rfl _ (at_other rfl _ (at_other rfl _ (at_other rfl _ (s10_136))))))) ?_)
              refine V.go_on 61 (by kernel_rfl) (((at_other rfl _ (at_other rfl _ (at_same ((((hz128.put _ _).put _ _).put _ _).put _ _) rfl _)) : Act.eval _ _ = (.bool (decide ((k : Int) > 0))))).trans (dt hg203)) (V.pvw [(63, .int .i64 (k : Int))] ⟨(at_same ((((((hz128.put _ _).put _ _).put _ _).put _ _).put _ _).put _ _) rfl _), trivial⟩ (by kernel_rfl) (.int .i64 (IntKind.i64.wrap ((k : Int) - 1))) (.int .i64 ((k : Int) - 1)) (by kernel_rfl) (V.w_i64 (by omega) (by omega)) ?_)
              refine V.go_on 61 (by kernel_rfl) (((at_other rfl _ (at_other rfl _ (at_other rfl _ (at_same ((((hz128.put _ _).put _ _).put _ _).put _ _) rfl _))) : Act.eval _ _ = (.bool (decide ((k : Int) > 0))))).trans (dt hg203)) (V.ixa b 0 (s.size + 1) (s.size + 1) .i64 ((k : Int) - 1) 1 (at_other rfl _ (at_other rfl _ (at_same (((((hz128.put _ _).put _ _).put _ _).put _ _).put _ _) rfl _))) (at_same (((((((hz128.put _ _).put _ _).put _ _).put _ _).put _ _).put _ _).put _ _) rfl _) (by omega) (by omega) (by kernel_rfl) ?_)
              refine V.go_on 61 (by kernel_rfl) (((at_other rfl _ (at_other rfl _ (at_other rfl _ (at_other rfl _ (at_same ((((hz128.put _ _).put _ _).put _ _).put _ _) rfl _)))) : Act.eval _ _ = (.bool (decide ((k : Int) > 0))))).trans (dt hg203)) (V.ld ⟨b, 0 + ((k : Int) - 1).toNat * 1, none⟩ (.bool (bs.getD (((k : Int) - 1).toNat) false)) (at_same ((((((((hz128.put _ _).put _ _).put _ _).put _ _).put _ _).put _ _).put _ _).put _ _) rfl _) (by kernel_rfl) (hR_198.at (((k : Int) - 1).toNat) false (by first | omega | (simp only [List.length_set, List.length_replicate]; omega))) ?_)
              refine V.go (V.pk_t (((at_other rfl _ (at_other rfl _ (at_other rfl _ (at_other rfl _ (at_other rfl _ (at_same ((((hz128.put _ _).put _ _).put _ _).put _ _) rfl _))))) : Act.eval _ _ = (.bool (decide ((k : Int) > 0))))).trans (dt hg203)) (v := (.bool (bs.getD (((k : Int) - 1).toNat) false))) (at_same (((((((((hz128.put _ _).put _ _).put _ _).put _ _).put _ _).put _ _).put _ _).put _ _).put _ _) rfl _) ?_)
              refine V.go (V.mv (v := (.bool (bs.getD (((k : Int) - 1).toNat) false))) (at_same ((((((((((hz128.put _ _).put _ _).put _ _).put _ _).put _ _).put _ _).put _ _).put _ _).put _ _).put _ _) rfl _) ?_)
              by_cases hg204 : (bs.getD (((k : Int) - 1).toNat) false) = true
              ·
                refine V.go_on 68 (by kernel_rfl) (((at_same (((((((((((hz128.put _ _).put _ _).put _ _).put _ _).put _ _).put _ _).put _ _).put _ _).put _ _).put _ _).put _ _) rfl _ : Act.eval _ _ = (.bool (bs.getD (((k : Int) - 1).toNat) false)))).trans (bt hg204)) (V.mv (v := (.slice A l.length cap)) (at_other rfl _ (at_other rfl _ (at_other rfl _ (at_other rfl _ (at_other rfl _ (at_other rfl _ (at_other rfl _ (at_other rfl _ (at_other rfl _ (at_other rfl _ (at_other rfl _ (at_other rfl _ (s0_130))))))))))))) ?_)
                refine V.go_on 68 (by kernel_rfl) (((at_other rfl _ (at_same (((((((((((hz128.put _ _).put _ _).put _ _).put _ _).put _ _).put _ _).put _ _).put _ _).put _ _).put _ _).put _ _) rfl _) : Act.eval _ _ = (.bool (bs.getD (((k : Int) - 1).toNat) false)))).trans (bt hg204)) (V.mv (v := (.int .i64 (i : Int))) (at_other rfl _ (at_other rfl _ (at_other rfl _ (at_other rfl _ (at_other rfl _ (at_other rfl _ (at_other rfl _ (at_other rfl _ (at_other rfl _ (at_other rfl _ (at_other rfl _ (at_other rfl _ (at_other rfl _ (s8_134)))))))))))))) ?_)
                refine V.go_on 68 (by kernel_rfl) (((at_other rfl _ (at_other rfl _ (at_same (((((((((((hz128.put _ _).put _ _).put _ _).put _ _).put _ _).put _ _).put _ _).put _ _).put _ _).put _ _).put _ _) rfl _)) : Act.eval _ _ = (.bool (bs.getD (((k : Int) - 1).toNat) false)))).trans (bt hg204)) (V.ixa g117 o118 l.length cap .i64 (i : Int) 4 ((at_other rfl _ (at_same ((((((((((((hz128.put _ _).put _ _).put _ _).put _ _).put _ _).put _ _).put _ _).put _ _).put _ _).put _ _).put _ _).put _ _) rfl _)).trans (by rw [hA119])) (at_same (((((((((((((hz128.put _ _).put _ _).put _ _).put _ _).put _ _).put _ _).put _ _).put _ _).put _ _).put _ _).put _ _).put _ _).put _ _) rfl _) (by omega) (by omega) (by kernel_rfl) ?_)
                refine V.go_on 68 (by kernel_rfl) (((at_other rfl _ (at_other rfl _ (at_other rfl _ (at_same (((((((((((hz128.put _ _).put _ _).put _ _).put _ _).put _ _).put _ _).put _ _).put _ _).put _ _).put _ _).put _ _) rfl _))) : Act.eval _ _ = (.bool (bs.getD (((k : Int) - 1).toNat) false)))).trans (bt hg204)) (V.lds ⟨g117, o118 + (i : Int).toNat * 4, none⟩ [.int .i64 ((at_ globR l (i : Int)).kind), .int .u8 ((at_ globR l (i : Int)).c), .bool ((at_ globR l (i : Int)).neg), .slice A123 ((at_ globR l (i : Int)).rs.length) c124] (at_same ((((((((((((((hz128.put _ _).put _ _).put _ _).put _ _).put _ _).put _ _).put _ _).put _ _).put _ _).put _ _).put _ _).put _ _).put _ _).put _ _) rfl _) (by kernel_rfl) (hE122_202.cells 0 _ rfl) ?_)
                refine V.go_on 68 (by kernel_rfl) (((at_other rfl _ (at_other rfl _ (at_other rfl _ (at_other rfl _ (at_same (((((((((((hz128.put _ _).put _ _).put _ _).put _ _).put _ _).put _ _).put _ _).put _ _).put _ _).put _ _).put _ _) rfl _)))) : Act.eval _ _ = (.bool (bs.getD (((k : Int) - 1).toNat) false)))).trans (bt hg204)) (V.mv (v := (.string s)) (at_other rfl _ (at_other rfl _ (at_other rfl _ (at_other rfl _ (at_other rfl _ (at_other rfl _ (at_other rfl _ (at_other rfl _ (at_other rfl _ (at_other rfl _ (at_other rfl _ (at_other rfl _ (at_other rfl _ (at_other rfl _ (at_other rfl _ (at_other rfl _ (s1_131))))))))))))))))) ?_)
                refine V.go_on 68 (by kernel_rfl) (((at_other rfl _ (at_other rfl _ (at_other rfl _ (at_other rfl _ (at_other rfl _ (at_same (((((((((((hz128.put _ _).put _ _).put _ _).put _ _).put _ _).put _ _).put _ _).put _ _).put _ _).put _ _).put _ _) rfl _))))) : Act.eval _ _ = (.bool (bs.getD (((k : Int) - 1).toNat) false)))).trans (bt hg204)) (V.mv (v := (.int .i64 (k : Int))) (at_other rfl _ (at_other rfl _ (at_other rfl _ (at_other rfl _ (at_other rfl _ (at_other rfl _ (at_other rfl _ (at_other rfl _ (at_other rfl _ (at_other rfl _ (at_other rfl _ (at_other rfl _ (at_other rfl _ (at_other rfl _ (at_other rfl _ (at_other rfl _ (at_other rfl _ (s10_136)))))))))))))))))) ?_)
                refine V.go_on 68 (by kernel_rfl) (((at_other rfl _ (at_other rfl _ (at_other rfl _ (at_other rfl _ (at_other rfl _ (at_other rfl _ (at_same (((((((((((hz128.put _ _).put _ _).put _ _).put _ _).put _ _).put _ _).put _ _).put _ _).put _ _).put _ _).put _ _) rfl _)))))) : Act.eval _ _ = (.bool (bs.getD (((k : Int) - 1).toNat) false)))).trans (bt hg204)) (V.pvw [(74, .int .i64 (k : Int))] ⟨(at_same (((((((((((((((((hz128.put _ _).put _ _).put _ _).put _ _).put _ _).put _ _).put _ _).put _ _).put _ _).put _ _).put _ _).put _ _).put _ _).put _ _).put _ _).put _ _).put _ _) rfl _), trivial⟩ (by kernel_rfl) (.int .i64 (IntKind.i64.wrap ((k : Int) - 1))) (.int .i64 ((k : Int) - 1)) (by kernel_rfl) (V.w_i64 (by omega) (by omega)) ?_)
                refine V.go_on 68 (by kernel_rfl) (((at_other rfl _ (at_other rfl _ (at_other rfl _ (at_other rfl _ (at_other rfl _ (at_other rfl _ (at_other rfl _ (at_same (((((((((((hz128.put _ _).put _ _).put _ _).put _ _).put _ _).put _ _).put _ _).put _ _).put _ _).put _ _).put _ _) rfl _))))))) : Act.eval _ _ = (.bool (bs.getD (((k : Int) - 1).toNat) false)))).trans (bt hg204)) (V.ixs s .i64 ((k : Int) - 1) (at_other rfl _ (at_other rfl _ (at_same ((((((((((((((((hz128.put _ _).put _ _).put _ _).put _ _).put _ _).put _ _).put _ _).put _ _).put _ _).put _ _).put _ _).put _ _).put _ _).put _ _).put _ _).put _ _) rfl _))) (at_same ((((((((((((((((((hz128.put _ _).put _ _).put _ _).put _ _).put _ _).put _ _).put _ _).put _ _).put _ _).put _ _).put _ _).put _ _).put _ _).put _ _).put _ _).put _ _).put _ _).put _ _) rfl _) (by omega) (by omega) (by kernel_rfl) ?_)
                have hb205 := byt_lt s ((k : Int) - 1)
                refine V.go_on 68 (by kernel_rfl) (((at_other rfl _ (at_other rfl _ (at_other rfl _ (at_other rfl _ (at_other rfl _ (at_other rfl _ (at_other rfl _ (at_other rfl _ (at_same (((((((((((hz128.put _ _).put _ _).put _ _).put _ _).put _ _).put _ _).put _ _).put _ _).put _ _).put _ _).put _ _) rfl _)))))))) : Act.eval _ _ = (.bool (bs.getD (((k : Int) - 1).toNat) false)))).trans (bt hg204)) (V.mv (v := (.bool fold)) (at_other rfl _ (at_other rfl _ (at_other rfl _ (at_other rfl _ (at_other rfl _ (at_other rfl _ (at_other rfl _ (at_other rfl _ (at_other rfl _ (at_other rfl _ (at_other rfl _ (at_other rfl _ (at_other rfl _ (at_other rfl _ (at_other rfl _ (at_other rfl _ (at_other rfl _ (at_other rfl _ (at_other rfl _ (at_other rfl _ (s2_132))))))))))))))))))))) ?_)
                refine V.nil ?_
                refine ⟨chk [(59, .int .i64 (k : Int)), (63, .int .i64 (k : Int)), (74, .int .i64 (k : Int)), (61, .bool true), (68, .bool true)] ⟨(at_other rfl _ (at_other rfl _ (at_other rfl _ (at_other rfl _ (at_other rfl _ (at_other rfl _ (at_other rfl _ (at_other rfl _ (at_other rfl _ (at_other rfl _ (at_other rfl _ (at_other rfl _ (at_other rfl _ (at_other rfl _ (at_other rfl _ (at_other rfl _ (at_other rfl _ (at_other rfl _ (at_same ((hz128.put _ _).put _ _) rfl _))))))))))))))))))), (at_other rfl _ (at_other rfl _ (at_other rfl _ (at_other rfl _ (at_other rfl _ (at_other rfl _ (at_other rfl _ (at_other rfl _ (at_other rfl _ (at_other rfl _ (at_other rfl _ (at_other rfl _ (at_other rfl _ (at_other rfl _ (at_same ((((((hz128.put _ _).put _ _).put _ _).put _ _).put _ _).put _ _) rfl _))))))))))))))), (at_other rfl _ (at_other rfl _ (at_other rfl _ (at_same (((((((((((((((((hz128.put _ _).put _ _).put _ _).put _ _).put _ _).put _ _).put _ _).put _ _).put _ _).put _ _).put _ _).put _ _).put _ _).put _ _).put _ _).put _ _).put _ _) rfl _)))), (((at_other rfl _ (at_other rfl _ (at_other rfl _ (at_other rfl _ (at_other rfl _ (at_other rfl _ (at_other rfl _ (at_other rfl _ (at_other rfl _ (at_other rfl _ (at_other rfl _ (at_other rfl _ (at_other rfl _ (at_other rfl _ (at_other rfl _ (at_other rfl _ (at_same ((((hz128.put _ _).put _ _).put _ _).put _ _) rfl _)))))))))))))))) : Act.eval _ _ = (.bool (decide ((k : Int) > 0))))).trans (dt hg203)), (((at_other rfl _ (at_other rfl _ (at_other rfl _ (at_other rfl _ (at_other rfl _ (at_other rfl _ (at_other rfl _ (at_other rfl _ (at_other rfl _ (at_same (((((((((((hz128.put _ _).put _ _).put _ _).put _ _).put _ _).put _ _).put _ _).put _ _).put _ _).put _ _).put _ _) rfl _))))))))) : Act.eval _ _ = (.bool (bs.getD (((k : Int) - 1).toNat) false)))).trans (bt hg204)), trivial⟩ (by kernel_rfl), ?_⟩
                refine V.go_on 68 (by kernel_rfl) (((at_other rfl _ (at_other rfl _ (at_other rfl _ (at_other rfl _ (at_other rfl _ (at_other rfl _ (at_other rfl _ (at_other rfl _ (at_other rfl _ (at_same (((((((((((hz128.put _ _).put _ _).put _ _).put _ _).put _ _).put _ _).put _ _).put _ _).put _ _).put _ _).put _ _) rfl _))))))))) : Act.eval _ _ = (.bool (bs.getD (((k : Int) - 1).toNat) false)))).trans (bt hg204)) (V.call 37 #[] #[.agg #[.int .i64 ((at_ globR l (i : Int)).kind), .int .u8 ((at_ globR l (i : Int)).c), .bool ((at_ globR l (i : Int)).neg), .slice A123 ((at_ globR l (i : Int)).rs.length) c124], .int .u8 (bi s ((k : Int) - 1)), .bool fold] evf (args3 (at_other rfl _ (at_other rfl _ (at_other rfl _ (at_other rfl _ (at_other rfl _ (at_same (((((((((((((((hz128.put _ _).put _ _).put _ _).put _ _).put _ _).put _ _).put _ _).put _ _).put _ _).put _ _).put _ _).put _ _).put _ _).put _ _).put _ _) rfl _)))))) (at_other rfl _ (at_same (((((((((((((((((((hz128.put _ _).put _ _).put _ _).put _ _).put _ _).put _ _).put _ _).put _ _).put _ _).put _ _).put _ _).put _ _).put _ _).put _ _).put _ _).put _ _).put _ _).put _ _).put _ _) rfl _)) (at_same ((((((((((((((((((((hz128.put _ _).put _ _).put _ _).put _ _).put _ _).put _ _).put _ _).put _ _).put _ _).put _ _).put _ _).put _ _).put _ _).put _ _).put _ _).put _ _).put _ _).put _ _).put _ _).put _ _) rfl _)) (Go.Proofs.enters_of Try.func37 (by kernel_rfl) rfl) (rone_any w195 (at_ globR l (i : Int)) A123 c124 (bi s ((k : Int) - 1)) fold _ (by omega) (by omega) (hgood (i : Int)).1 (hgood (i : Int)).2.1 (fun j => (hgood (i : Int)).at j) hS126_201) ?_)
                rintro _ w207 ⟨rfl, hF206⟩
                refine ⟨_, rfl, ?_⟩
                have hsw207 := hF206.size
                have hN_208 := hN_197.fr0 hF206
                have hR_209 := hR_198.fr0 hF206
                have hF_210 := hF_199.new hF206
                have hS_211 := hS_200.fr0 hF206
                have hS126_212 := hS126_201.fr0 hF206
                have hE122_213 := hE122_202.fr0 hF206
                refine V.nil ?_
                refine ⟨trivial, ?_⟩
                refine V.go (V.pk_t (((at_other rfl _ (at_other rfl _ (at_other rfl _ (at_other rfl _ (at_other rfl _ (at_other rfl _ (at_other rfl _ (at_other rfl _ (at_other rfl _ (at_other rfl _ (at_same (((((((((((hz128.put _ _).put _ _).put _ _).put _ _).put _ _).put _ _).put _ _).put _ _).put _ _).put _ _).put _ _) rfl _)))))))))) : Act.eval _ _ = (.bool (bs.getD (((k : Int) - 1).toNat) false)))).trans (bt hg204)) (v := (.bool (oneB (at_ globR l (i : Int)) (bi s ((k : Int) - 1)) fold))) (at_same (((((((((((((((((((((hz128.put _ _).put _ _).put _ _).put _ _).put _ _).put _ _).put _ _).put _ _).put _ _).put _ _).put _ _).put _ _).put _ _).put _ _).put _ _).put _ _).put _ _).put _ _).put _ _).put _ _).put _ _) rfl _) ?_)
                refine V.go (V.ixa b60 0 (s.size + 1) (s.size + 1) .i64 (k : Int) 1 (at_other rfl _ (at_other rfl _ (at_other rfl _ (at_other rfl _ (at_other rfl _ (at_other rfl _ (at_other rfl _ (at_other rfl _ (at_other rfl _ (at_other rfl _ (at_other rfl _ (at_other rfl _ (at_other rfl _ (at_other rfl _ (at_other rfl _ (at_other rfl _ (at_other rfl _ (at_other rfl _ (at_other rfl _ (at_other rfl _ (at_other rfl _ (at_other rfl _ (at_same hz128 rfl _))))))))))))))))))))))) (at_other rfl _ (at_other rfl _ (at_other rfl _ (at_other rfl _ (at_other rfl _ (at_other rfl _ (at_other rfl _ (at_other rfl _ (at_other rfl _ (at_other rfl _ (at_other rfl _ (at_other rfl _ (at_other rfl _ (at_other rfl _ (at_other rfl _ (at_other rfl _ (at_other rfl _ (at_other rfl _ (at_other rfl _ (at_other rfl _ (at_other rfl _ (at_same (hz128.put _ _) rfl _)))))))))))))))))))))) (by omega) (by omega) (by kernel_rfl) ?_)
                refine V.nil ?_
                refine ⟨chk [] trivial (by kernel_rfl), ?_⟩
                refine V.go (V.strow (enc := Value.bool) b60 ((k : Int).toNat) (oneB (at_ globR l (i : Int)) (bi s ((k : Int) - 1)) fold) (at_same (((((((((((((((((((((((hz128.put _ _).put _ _).put _ _).put _ _).put _ _).put _ _).put _ _).put _ _).put _ _).put _ _).put _ _).put _ _).put _ _).put _ _).put _ _).put _ _).put _ _).put _ _).put _ _).put _ _).put _ _).put _ _).put _ _) rfl _) (at_other rfl _ (at_same ((((((((((((((((((((((hz128.put _ _).put _ _).put _ _).put _ _).put _ _).put _ _).put _ _).put _ _).put _ _).put _ _).put _ _).put _ _).put _ _).put _ _).put _ _).put _ _).put _ _).put _ _).put _ _).put _ _).put _ _).put _ _) rfl _)) rfl rfl (by kernel_rfl) hN_208 (by first | omega | (simp only [List.length_set, List.length_replicate]; omega)) ?_)
                intro w214 hR215 hF216 hsw214
                have hR_217 := hR_209.fr1 hF216 (by omega)
                have hF_218 := hF_210.own hF216 (by simp <;> omega)
                have hS_219 := hS_211.fr hF216 (by simp <;> omega)
                have hS126_220 := hS126_212.fr hF216 (by simp <;> omega)
                have hE122_221 := hE122_213.fr hF216 (by simp <;> omega)
                refine V.nil ?_
                refine ⟨trivial, ?_⟩
                refine V.nil ?_
                refine ⟨chk [] trivial (by kernel_rfl), ?_⟩
                refine V.blk_n ?_
                refine V.then_n (hK114 _ _ ?_)
                refine V.flushW ((((((((((((((((((((((((hz128.put _ _).put _ _).put _ _).put _ _).put _ _).put _ _).put _ _).put _ _).put _ _).put _ _).put _ _).put _ _).put _ _).put _ _).put _ _).put _ _).put _ _).put _ _).put _ _).put _ _).put _ _).put _ _).put _ _).put _ _) (fun a222 hz223 up224 => ?_)
                have s0_225 : a222.eval (.tmp 0) = (.slice A l.length cap) := up224 _ _ (at_other rfl _ (at_other rfl _ (at_other rfl _ (at_other rfl _ (at_other rfl _ (at_other rfl _ (at_other rfl _ (at_other rfl _ (at_other rfl _ (at_other rfl _ (at_other rfl _ (at_other rfl _ (at_other rfl _ (at_other rfl _ (at_other rfl _ (at_other rfl _ (at_other rfl _ (at_other rfl _ (at_other rfl _ (at_other rfl _ (at_other rfl _ (at_other rfl _ (at_other rfl _ (at_other rfl _ (s0_130)))))))))))))))))))))))))
                have s1_226 : a222.eval (.tmp 1) = (.string s) := up224 _ _ (at_other rfl _ (at_other rfl _ (at_other rfl _ (at_other rfl _ (at_other rfl _ (at_other rfl _ (at_other rfl _ (at_other rfl _ (at_other rfl _ (at_other rfl _ (at_other rfl _ (at_other rfl _ (at_other rfl _ (at_other rfl _ (at_other rfl _ (at_other rfl _ (at_other rfl _ (at_other rfl _ (at_other rfl _ (at_other rfl _ (at_other rfl _ (at_other rfl _ (at_other rfl _ (at_other rfl _ (s1_131)))))))))))))))))))))))))
                have s2_227 : a222.eval (.tmp 2) = (.bool fold) := up224 _ _ (at_other rfl _ (at_other rfl _ (at_other rfl _ (at_other rfl _ (at_other rfl _ (at_other rfl _ (at_other rfl _ (at_other rfl _ (at_other rfl _ (at_other rfl _ (at_other rfl _ (at_other rfl _ (at_other rfl _ (at_other rfl _ (at_other rfl _ (at_other rfl _ (at_other rfl _ (at_other rfl _ (at_other rfl _ (at_other rfl _ (at_other rfl _ (at_other rfl _ (at_other rfl _ (at_other rfl _ (s2_132)))))))))))))))))))))))))
                have s7_228 : a222.eval (.tmp 7) = (.slice (some ⟨b, 0, none⟩) (s.size + 1) (s.size + 1)) := up224 _ _ (at_other rfl _ (at_other rfl _ (at_other rfl _ (at_other rfl _ (at_other rfl _ (at_other rfl _ (at_other rfl _ (at_other rfl _ (at_other rfl _ (at_other rfl _ (at_other rfl _ (at_other rfl _ (at_other rfl _ (at_other rfl _ (at_other rfl _ (at_other rfl _ (at_other rfl _ (at_other rfl _ (at_other rfl _ (at_other rfl _ (at_other rfl _ (at_other rfl _ (at_other rfl _ (at_other rfl _ (s7_133)))))))))))))))))))))))))
                have s8_229 : a222.eval (.tmp 8) = (.int .i64 (i : Int)) := up224 _ _ (at_other rfl _ (at_other rfl _ (at_other rfl _ (at_other rfl _ (at_other rfl _ (at_other rfl _ (at_other rfl _ (at_other rfl _ (at_other rfl _ (at_other rfl _ (at_other rfl _ (at_other rfl _ (at_other rfl _ (at_other rfl _ (at_other rfl _ (at_other rfl _ (at_other rfl _ (at_other rfl _ (at_other rfl _ (at_other rfl _ (at_other rfl _ (at_other rfl _ (at_other rfl _ (at_other rfl _ (s8_134)))))))))))))))))))))))))
                have s9_230 : a222.eval (.tmp 9) = (.slice (some ⟨b60, 0, none⟩) (s.size + 1) (s.size + 1)) := up224 _ _ (at_other rfl _ (at_other rfl _ (at_other rfl _ (at_other rfl _ (at_other rfl _ (at_other rfl _ (at_other rfl _ (at_other rfl _ (at_other rfl _ (at_other rfl _ (at_other rfl _ (at_other rfl _ (at_other rfl _ (at_other rfl _ (at_other rfl _ (at_other rfl _ (at_other rfl _ (at_other rfl _ (at_other rfl _ (at_other rfl _ (at_other rfl _ (at_other rfl _ (at_other rfl _ (at_other rfl _ (s9_135)))))))))))))))))))))))))
                have s10_231 : a222.eval (.tmp 10) = (.int .i64 (k : Int)) := up224 _ _ (at_other rfl _ (at_other rfl _ (at_other rfl _ (at_other rfl _ (at_other rfl _ (at_other rfl _ (at_other rfl _ (at_other rfl _ (at_other rfl _ (at_other rfl _ (at_other rfl _ (at_other rfl _ (at_other rfl _ (at_other rfl _ (at_other rfl _ (at_other rfl _ (at_other rfl _ (at_other rfl _ (at_other rfl _ (at_other rfl _ (at_other rfl _ (at_other rfl _ (at_other rfl _ (at_other rfl _ (s10_136)))))))))))))))))))))))))
                clear up224
                refine V.region (by kernel_rfl) ?_
                refine V.go (V.mv (v := (.int .i64 (k : Int))) (s10_231) ?_)
                refine V.go (V.pvw [(31, .int .i64 (k : Int))] ⟨(at_same hz223 rfl _), trivial⟩ (by kernel_rfl) (.int .i64 (IntKind.i64.wrap ((k : Int) + 1))) (.int .i64 ((k : Int) + 1)) (by kernel_rfl) (V.w_i64 (by omega) (by omega)) ?_)
                refine V.go (V.asg (v := (.int .i64 ((k : Int) + 1))) (at_same (hz223.put _ _) rfl _) ?_)
                refine V.nil ?_
                refine V.then_n ?_
                have hv : (oneB (at_ globR l (i : Int)) (bi s ((k : Int) - 1)) fold) = dp fold l s (i + 1) k := by
                  rw [dp_step]
                  rw [if_neg ht138]
                  rw [decide_eq_true (show 0 < k by omega)]; rw [← hbs _ (by omega), show bs.getD ((k : Int) - 1).toNat false = true from hg204]; rfl
                refine ⟨k + 1, ns.set ((k : Int).toNat) (oneB (at_ globR l (i : Int)) (bi s ((k : Int) - 1)) fold), by omega, ?_⟩
                refine ⟨(((hz223.put _ _).put _ _).put _ _), ?_, ?_, ?_, ?_, ?_, ?_, ?_, hR215, hR_217, hF_218, hS_219, (by omega), (by simp only [List.length_set]; exact hlen2), (row_step hns (by omega) hv)⟩
                · exact (at_other rfl _ (at_other rfl _ (at_other rfl _ (s0_225))))
                · exact (at_other rfl _ (at_other rfl _ (at_other rfl _ (s1_226))))
                · exact (at_other rfl _ (at_other rfl _ (at_other rfl _ (s2_227))))
                · exact (at_other rfl _ (at_other rfl _ (at_other rfl _ (s7_228))))
                · exact Eq.trans (at_other rfl _ (at_other rfl _ (at_other rfl _ (s8_229)))) (V.int_eq (by omega))
                · exact (at_other rfl _ (at_other rfl _ (at_other rfl _ (s9_230))))
                · exact Eq.trans (at_same ((hz223.put _ _).put _ _) rfl _) (V.int_eq (by omega))
              ·
                refine V.go_off 68 (by kernel_rfl) (((at_same (((((((((((hz128.put _ _).put _ _).put _ _).put _ _).put _ _).put _ _).put _ _).put _ _).put _ _).put _ _).put _ _) rfl _ : Act.eval _ _ = (.bool (bs.getD (((k : Int) - 1).toNat) false)))).trans (bf hg204)) (by kernel_rfl) ?_
                refine V.go_off 68 (by kernel_rfl) (((at_other rfl _ (at_same (((((((((((hz128.put _ _).put _ _).put _ _).put _ _).put _ _).put _ _).put _ _).put _ _).put _ _).put _ _).put _ _) rfl _) : Act.eval _ _ = (.bool (bs.getD (((k : Int) - 1).toNat) false)))).trans (bf hg204)) (by kernel_rfl) ?_
                refine V.go_off 68 (by kernel_rfl) (((at_other rfl _ (at_other rfl _ (at_same (((((((((((hz128.put _ _).put _ _).put _ _).put _ _).put _ _).put _ _).put _ _).put _ _).put _ _).put _ _).put _ _) rfl _)) : Act.eval _ _ = (.bool (bs.getD (((k : Int) - 1).toNat) false)))).trans (bf hg204)) (by kernel_rfl) ?_
                refine V.go_off 68 (by kernel_rfl) (((at_other rfl _ (at_other rfl _ (at_other rfl _ (at_same (((((((((((hz128.put _ _).put _ _).put _ _).put _ _).put _ _).put _ _).put _ _).put _ _).put _ _).put _ _).put _ _) rfl _))) : Act.eval _ _ = (.bool (bs.getD (((k : Int) - 1).toNat) false)))).trans (bf hg204)) (by kernel_rfl) ?_
                refine V.go_off 68 (by kernel_rfl) (((at_other rfl _ (at_other rfl _ (at_other rfl _ (at_other rfl _ (at_same (((((((((((hz128.put _ _).put _ _).put _ _).put _ _).put _ _).put _ _).put _ _).put _ _).put _ _).put _ _).put _ _) rfl _)))) : Act.eval _ _ = (.bool (bs.getD (((k : Int) - 1).toNat) false)))).trans (bf hg204)) (by kernel_rfl) ?_
                refine V.go_off 68 (by kernel_rfl) (((at_other rfl _ (at_other rfl _ (at_other rfl _ (at_other rfl _ (at_other rfl _ (at_same (((((((((((hz128.put _ _).put _ _).put _ _).put _ _).put _ _).put _ _).put _ _).put _ _).put _ _).put _ _).put _ _) rfl _))))) : Act.eval _ _ = (.bool (bs.getD (((k : Int) - 1).toNat) false)))).trans (bf hg204)) (by kernel_rfl) ?_
                refine V.go_off 68 (by kernel_rfl) (((at_other rfl _ (at_other rfl _ (at_other rfl _ (at_other rfl _ (at_other rfl _ (at_other rfl _ (at_same (((((((((((hz128.put _ _).put _ _).put _ _).put _ _).put _ _).put _ _).put _ _).put _ _).put _ _).put _ _).put _ _) rfl _)))))) : Act.eval _ _ = (.bool (bs.getD (((k : Int) - 1).toNat) false)))).trans (bf hg204)) (by kernel_rfl) ?_
                refine V.go_off 68 (by kernel_rfl) (((at_other rfl _ (at_other rfl _ (at_other rfl _ (at_other rfl _ (at_other rfl _ (at_other rfl _ (at_other rfl _ (at_same (((((((((((hz128.put _ _).put _ _).put _ _).put _ _).put _ _).put _ _).put _ _).put _ _).put _ _).put _ _).put _ _) rfl _))))))) : Act.eval _ _ = (.bool (bs.getD (((k : Int) - 1).toNat) false)))).trans (bf hg204)) (by kernel_rfl) ?_
                refine V.go_off 68 (by kernel_rfl) (((at_other rfl _ (at_other rfl _ (at_other rfl _ (at_other rfl _ (at_other rfl _ (at_other rfl _ (at_other rfl _ (at_other rfl _ (at_same (((((((((((hz128.put _ _).put _ _).put _ _).put _ _).put _ _).put _ _).put _ _).put _ _).put _ _).put _ _).put _ _) rfl _)))))))) : Act.eval _ _ = (.bool (bs.getD (((k : Int) - 1).toNat) false)))).trans (bf hg204)) (by kernel_rfl) ?_
                refine V.nil ?_
                refine ⟨chk [(59, .int .i64 (k : Int)), (63, .int .i64 (k : Int)), (74, undef), (61, .bool true), (68, .bool false)] ⟨(at_other rfl _ (at_other rfl _ (at_other rfl _ (at_other rfl _ (at_other rfl _ (at_other rfl _ (at_other rfl _ (at_other rfl _ (at_other rfl _ (at_other rfl _ (at_other rfl _ (at_other rfl _ (at_other rfl _ (at_other rfl _ (at_other rfl _ (at_other rfl _ (at_other rfl _ (at_other rfl _ (at_same ((hz128.put _ _).put _ _) rfl _))))))))))))))))))), (at_other rfl _ (at_other rfl _ (at_other rfl _ (at_other rfl _ (at_other rfl _ (at_other rfl _ (at_other rfl _ (at_other rfl _ (at_other rfl _ (at_other rfl _ (at_other rfl _ (at_other rfl _ (at_other rfl _ (at_other rfl _ (at_same ((((((hz128.put _ _).put _ _).put _ _).put _ _).put _ _).put _ _) rfl _))))))))))))))), (at_other rfl _ (at_other rfl _ (at_other rfl _ (at_same (((((((((((((((((hz128.put _ _).put _ _).put _ _).put _ _).put _ _).put _ _).put _ _).put _ _).put _ _).put _ _).put _ _).put _ _).put _ _).put _ _).put _ _).put _ _).put _ _) rfl _)))), (((at_other rfl _ (at_other rfl _ (at_other rfl _ (at_other rfl _ (at_other rfl _ (at_other rfl _ (at_other rfl _ (at_other rfl _ (at_other rfl _ (at_other rfl _ (at_other rfl _ (at_other rfl _ (at_other rfl _ (at_other rfl _ (at_other rfl _ (at_other rfl _ (at_same ((((hz128.put _ _).put _ _).put _ _).put _ _) rfl _)))))))))))))))) : Act.eval _ _ = (.bool (decide ((k : Int) > 0))))).trans (dt hg203)), (((at_other rfl _ (at_other rfl _ (at_other rfl _ (at_other rfl _ (at_other rfl _ (at_other rfl _ (at_other rfl _ (at_other rfl _ (at_other rfl _ (at_same (((((((((((hz128.put _ _).put _ _).put _ _).put _ _).put _ _).put _ _).put _ _).put _ _).put _ _).put _ _).put _ _) rfl _))))))))) : Act.eval _ _ = (.bool (bs.getD (((k : Int) - 1).toNat) false)))).trans (bf hg204)), trivial⟩ (by kernel_rfl), ?_⟩
                refine V.go_off 68 (by kernel_rfl) (((at_other rfl _ (at_other rfl _ (at_other rfl _ (at_other rfl _ (at_other rfl _ (at_other rfl _ (at_other rfl _ (at_other rfl _ (at_other rfl _ (at_same (((((((((((hz128.put _ _).put _ _).put _ _).put _ _).put _ _).put _ _).put _ _).put _ _).put _ _).put _ _).put _ _) rfl _))))))))) : Act.eval _ _ = (.bool (bs.getD (((k : Int) - 1).toNat) false)))).trans (bf hg204)) (by kernel_rfl) ?_
                refine V.nil ?_
                refine ⟨trivial, ?_⟩
                refine V.go (V.pk_f (((at_other rfl _ (at_other rfl _ (at_other rfl _ (at_other rfl _ (at_other rfl _ (at_other rfl _ (at_other rfl _ (at_other rfl _ (at_other rfl _ (at_other rfl _ (at_same (((((((((((hz128.put _ _).put _ _).put _ _).put _ _).put _ _).put _ _).put _ _).put _ _).put _ _).put _ _).put _ _) rfl _)))))))))) : Act.eval _ _ = (.bool (bs.getD (((k : Int) - 1).toNat) false)))).trans (bf hg204)) (v := (.bool false)) evc ?_)
                refine V.go (V.ixa b60 0 (s.size + 1) (s.size + 1) .i64 (k : Int) 1 (at_other rfl _ (at_other rfl _ (at_other rfl _ (at_other rfl _ (at_other rfl _ (at_other rfl _ (at_other rfl _ (at_other rfl _ (at_other rfl _ (at_other rfl _ (at_other rfl _ (at_other rfl _ (at_other rfl _ (at_other rfl _ (at_other rfl _ (at_other rfl _ (at_other rfl _ (at_other rfl _ (at_other rfl _ (at_other rfl _ (at_other rfl _ (at_other rfl _ (at_same hz128 rfl _))))))))))))))))))))))) (at_other rfl _ (at_other rfl _ (at_other rfl _ (at_other rfl _ (at_other rfl _ (at_other rfl _ (at_other rfl _ (at_other rfl _ (at_other rfl _ (at_other rfl _ (at_other rfl _ (at_other rfl _ (at_other rfl _ (at_other rfl _ (at_other rfl _ (at_other rfl _ (at_other rfl _ (at_other rfl _ (at_other rfl _ (at_other rfl _ (at_other rfl _ (at_same (hz128.put _ _) rfl _)))))))))))))))))))))) (by omega) (by omega) (by kernel_rfl) ?_)
                refine V.nil ?_
                refine ⟨chk [] trivial (by kernel_rfl), ?_⟩
                refine V.go (V.strow (enc := Value.bool) b60 ((k : Int).toNat) false (at_same (((((((((((((((((((((((hz128.put _ _).put _ _).put _ _).put _ _).put _ _).put _ _).put _ _).put _ _).put _ _).put _ _).put _ _).put _ _).put _ _).put _ _).put _ _).put _ _).put _ _).put _ _).put _ _).put _ _).put _ _).put _ _).put _ _) rfl _) (at_other rfl _ (at_same ((((((((((((((((((((((hz128.put _ _).put _ _).put _ _).put _ _).put _ _).put _ _).put _ _).put _ _).put _ _).put _ _).put _ _).put _ _).put _ _).put _ _).put _ _).put _ _).put _ _).put _ _).put _ _).put _ _).put _ _).put _ _) rfl _)) rfl rfl (by kernel_rfl) hN_197 (by first | omega | (simp only [List.length_set, List.length_replicate]; omega)) ?_)
                intro w232 hR233 hF234 hsw232
                have hR_235 := hR_198.fr1 hF234 (by omega)
                have hF_236 := hF_199.own hF234 (by simp <;> omega)
                have hS_237 := hS_200.fr hF234 (by simp <;> omega)
                have hS126_238 := hS126_201.fr hF234 (by simp <;> omega)
                have hE122_239 := hE122_202.fr hF234 (by simp <;> omega)
                refine V.nil ?_
                refine ⟨trivial, ?_⟩
                refine V.nil ?_
                refine ⟨chk [] trivial (by kernel_rfl), ?_⟩
                refine V.blk_n ?_
                refine V.then_n (hK114 _ _ ?_)
                refine V.flushW ((((((((((((((((((((((((hz128.put _ _).put _ _).put _ _).put _ _).put _ _).put _ _).put _ _).put _ _).put _ _).put _ _).put _ _).put _ _).put _ _).put _ _).put _ _).put _ _).put _ _).put _ _).put _ _).put _ _).put _ _).put _ _).put _ _).put _ _) (fun a240 hz241 up242 => ?_)
                have s0_243 : a240.eval (.tmp 0) = (.slice A l.length cap) := up242 _ _ (at_other rfl _ (at_other rfl _ (at_other rfl _ (at_other rfl _ (at_other rfl _ (at_other rfl _ (at_other rfl _ (at_other rfl _ (at_other rfl _ (at_other rfl _ (at_other rfl _ (at_other rfl _ (at_other rfl _ (at_other rfl _ (at_other rfl _ (at_other rfl _ (at_other rfl _ (at_other rfl _ (at_other rfl _ (at_other rfl _ (at_other rfl _ (at_other rfl _ (at_other rfl _ (at_other rfl _ (s0_130)))))))))))))))))))))))))
                have s1_244 : a240.eval (.tmp 1) = (.string s) := up242 _ _ (at_other rfl _ (at_other rfl _ (at_other rfl _ (at_other rfl _ (at_other rfl _ (at_other rfl _ (at_other rfl _ (at_other rfl _ (at_other rfl _ (at_other rfl _ (at_other rfl _ (at_other rfl _ (at_other rfl _ (at_other rfl _ (at_other rfl _ (at_other rfl _ (at_other rfl _ (at_other rfl _ (at_other rfl _ (at_other rfl _ (at_other rfl _ (at_other rfl _ (at_other rfl _ (at_other rfl _ (s1_131)))))))))))))))))))))))))
                have s2_245 : a240.eval (.tmp 2) = (.bool fold) := up242 _ _ (at_other rfl _ (at_other rfl _ (at_other rfl _ (at_other rfl _ (at_other rfl _ (at_other rfl _ (at_other rfl _ (at_other rfl _ (at_other rfl _ (at_other rfl _ (at_other rfl _ (at_other rfl _ (at_other rfl _ (at_other rfl _ (at_other rfl _ (at_other rfl _ (at_other rfl _ (at_other rfl _ (at_other rfl _ (at_other rfl _ (at_other rfl _ (at_other rfl _ (at_other rfl _ (at_other rfl _ (s2_132)))))))))))))))))))))))))
                have s7_246 : a240.eval (.tmp 7) = (.slice (some ⟨b, 0, none⟩) (s.size + 1) (s.size + 1)) := up242 _ _ (at_other rfl _ (at_other rfl _ (at_other rfl _ (at_other rfl _ (at_other rfl _ (at_other rfl _ (at_other rfl _ (at_other rfl _ (at_other rfl _ (at_other rfl _ (at_other rfl _ (at_other rfl _ (at_other rfl _ (at_other rfl _ (at_other rfl _ (at_other rfl _ (at_other rfl _ (at_other rfl _ (at_other rfl _ (at_other rfl _ (at_other rfl _ (at_other rfl _ (at_other rfl _ (at_other rfl _ (s7_133)))))))))))))))))))))))))
                have s8_247 : a240.eval (.tmp 8) = (.int .i64 (i : Int)) := up242 _ _ (at_other rfl _ (at_other rfl _ (at_other rfl _ (at_other rfl _ (at_other rfl _ (at_other rfl _ (at_other rfl _ (at_other rfl _ (at_other rfl _ (at_other rfl _ (at_other rfl _ (at_other rfl _ (at_other rfl _ (at_other rfl _ (at_other rfl _ (at_other rfl _ (at_other rfl _ (at_other rfl _ (at_other rfl _ (at_other rfl _ (at_other rfl _ (at_other rfl _ (at_other rfl _ (at_other rfl _ (s8_134)))))))))))))))))))))))))
                have s9_248 : a240.eval (.tmp 9) = (.slice (some ⟨b60, 0, none⟩) (s.size + 1) (s.size + 1)) := up242 _ _ (at_other rfl _ (at_other rfl _ (at_other rfl _ (at_other rfl _ (at_other rfl _ (at_other rfl _ (at_other rfl _ (at_other rfl _ (at_other rfl _ (at_other rfl _ (at_other rfl _ (at_other rfl _ (at_other rfl _ (at_other rfl _ (at_other rfl _ (at_other rfl _ (at_other rfl _ (at_other rfl _ (at_other rfl _ (at_other rfl _ (at_other rfl _ (at_other rfl _ (at_other rfl _ (at_other rfl _ (s9_135)))))))))))))))))))))))))
                have s10_249 : a240.eval (.tmp 10) = (.int .i64 (k : Int)) := up242 _ _ (at_other rfl _ (at_other rfl _ (at_other rfl _ (at_other rfl _ (at_other rfl _ (at_other rfl _ (at_other rfl _ (at_other rfl _ (at_other rfl _ (at_other rfl _ (at_other rfl _ (at_other rfl _ (at_other rfl _ (at_other rfl _ (at_other rfl _ (at_other rfl _ (at_other rfl _ (at_other rfl _ (at_other rfl _ (at_other rfl _ (at_other rfl _ (at_other rfl _ (at_other rfl _ (at_other rfl _ (s10_136)))))))))))))))))))))))))
                clear up242
                refine V.region (by kernel_rfl) ?_
                refine V.go (V.mv (v := (.int .i64 (k : Int))) (s10_249) ?_)
                refine V.go (V.pvw [(31, .int .i64 (k : Int))] ⟨(at_same hz241 rfl _), trivial⟩ (by kernel_rfl) (.int .i64 (IntKind.i64.wrap ((k : Int) + 1))) (.int .i64 ((k : Int) + 1)) (by kernel_rfl) (V.w_i64 (by omega) (by omega)) ?_)
                refine V.go (V.asg (v := (.int .i64 ((k : Int) + 1))) (at_same (hz241.put _ _) rfl _) ?_)
                refine V.nil ?_
                refine V.then_n ?_
                have hv : false = dp fold l s (i + 1) k := by
                  rw [dp_step]
                  rw [if_neg ht138]
                  rw [decide_eq_true (show 0 < k by omega)]; rw [← hbs _ (by omega), show bs.getD ((k : Int) - 1).toNat false = false from Bool.not_eq_true _ ▸ hg204]; rfl
                refine ⟨k + 1, ns.set ((k : Int).toNat) false, by omega, ?_⟩
                refine ⟨(((hz241.put _ _).put _ _).put _ _), ?_, ?_, ?_, ?_, ?_, ?_, ?_, hR233, hR_235, hF_236, hS_237, (by omega), (by simp only [List.length_set]; exact hlen2), (row_step hns (by omega) hv)⟩
                · exact (at_other rfl _ (at_other rfl _ (at_other rfl _ (s0_243))))
                · exact (at_other rfl _ (at_other rfl _ (at_other rfl _ (s1_244))))
                · exact (at_other rfl _ (at_other rfl _ (at_other rfl _ (s2_245))))
                · exact (at_other rfl _ (at_other rfl _ (at_other rfl _ (s7_246))))
                · exact Eq.trans (at_other rfl _ (at_other rfl _ (at_other rfl _ (s8_247)))) (V.int_eq (by omega))
                · exact (at_other rfl _ (at_other rfl _ (at_other rfl _ (s9_248))))
                · exact Eq.trans (at_same ((hz241.put _ _).put _ _) rfl _) (V.int_eq (by omega))
            ·
              refine V.go_off 61 (by kernel_rfl) (((at_same ((((hz128.put _ _).put _ _).put _ _).put _ _) rfl _ : Act.eval _ _ = (.bool (decide ((k : Int) > 0))))).trans (df hg203)) (by kernel_rfl) ?_
              refine V.go_off 61 (by kernel_rfl) (((at_other rfl _ (at_same ((((hz128.put _ _).put _ _).put _ _).put _ _) rfl _) : Act.eval _ _ = (.bool (decide ((k : Int) > 0))))).trans (df hg203)) (by kernel_rfl) ?_
              refine V.go_off 61 (by kernel_rfl) (((at_other rfl _ (at_other rfl _ (at_same ((((hz128.put _ _).put _ _).put _ _).put _ _) rfl _)) : Act.eval _ _ = (.bool (decide ((k : Int) > 0))))).trans (df hg203)) (by kernel_rfl) ?_
              refine V.go_off 61 (by kernel_rfl) (((at_other rfl _ (at_other rfl _ (at_other rfl _ (at_same ((((hz128.put _ _).put _ _).put _ _).put _ _) rfl _))) : Act.eval _ _ = (.bool (decide ((k : Int) > 0))))).trans (df hg203)) (by kernel_rfl) ?_
              refine V.go_off 61 (by kernel_rfl) (((at_other rfl _ (at_other rfl _ (at_other rfl _ (at_other rfl _ (at_same ((((hz128.put _ _).put _ _).put _ _).put _ _) rfl _)))) : Act.eval _ _ = (.bool (decide ((k : Int) > 0))))).trans (df hg203)) (by kernel_rfl) ?_
              refine V.go (V.pk_f (((at_other rfl _ (at_other rfl _ (at_other rfl _ (at_other rfl _ (at_other rfl _ (at_same ((((hz128.put _ _).put _ _).put _ _).put _ _) rfl _))))) : Act.eval _ _ = (.bool (decide ((k : Int) > 0))))).trans (df hg203)) (v := (.bool false)) evc ?_)
              refine V.go (V.mv (v := (.bool false)) (at_same ((((((((((hz128.put _ _).put _ _).put _ _).put _ _).put _ _).put _ _).put _ _).put _ _).put _ _).put _ _) rfl _) ?_)
              refine V.go_off 68 (by kernel_rfl) (at_same (((((((((((hz128.put _ _).put _ _).put _ _).put _ _).put _ _).put _ _).put _ _).put _ _).put _ _).put _ _).put _ _) rfl _) (by kernel_rfl) ?_
              refine V.go_off 68 (by kernel_rfl) (at_other rfl _ (at_same (((((((((((hz128.put _ _).put _ _).put _ _).put _ _).put _ _).put _ _).put _ _).put _ _).put _ _).put _ _).put _ _) rfl _)) (by kernel_rfl) ?_
              refine V.go_off 68 (by kernel_rfl) (at_other rfl _ (at_other rfl _ (at_same (((((((((((hz128.put _ _).put _ _).put _ _).put _ _).put _ _).put _ _).put _ _).put _ _).put _ _).put _ _).put _ _) rfl _))) (by kernel_rfl) ?_
              refine V.go_off 68 (by kernel_rfl) (at_other rfl _ (at_other rfl _ (at_other rfl _ (at_same (((((((((((hz128.put _ _).put _ _).put _ _).put _ _).put _ _).put _ _).put _ _).put _ _).put _ _).put _ _).put _ _) rfl _)))) (by kernel_rfl) ?_
              refine V.go_off 68 (by kernel_rfl) (at_other rfl _ (at_other rfl _ (at_other rfl _ (at_other rfl _ (at_same (((((((((((hz128.put _ _).put _ _).put _ _).put _ _).put _ _).put _ _).put _ _).put _ _).put _ _).put _ _).put _ _) rfl _))))) (by kernel_rfl) ?_
              refine V.go_off 68 (by kernel_rfl) (at_other rfl _ (at_other rfl _ (at_other rfl _ (at_other rfl _ (at_other rfl _ (at_same (((((((((((hz128.put _ _).put _ _).put _ _).put _ _).put _ _).put _ _).put _ _).put _ _).put _ _).put _ _).put _ _) rfl _)))))) (by kernel_rfl) ?_
              refine V.go_off 68 (by kernel_rfl) (at_other rfl _ (at_other rfl _ (at_other rfl _ (at_other rfl _ (at_other rfl _ (at_other rfl _ (at_same (((((((((((hz128.put _ _).put _ _).put _ _).put _ _).put _ _).put _ _).put _ _).put _ _).put _ _).put _ _).put _ _) rfl _))))))) (by kernel_rfl) ?_
              refine V.go_off 68 (by kernel_rfl) (at_other rfl _ (at_other rfl _ (at_other rfl _ (at_other rfl _ (at_other rfl _ (at_other rfl _ (at_other rfl _ (at_same (((((((((((hz128.put _ _).put _ _).put _ _).put _ _).put _ _).put _ _).put _ _).put _ _).put _ _).put _ _).put _ _) rfl _)))))))) (by kernel_rfl) ?_
              refine V.go_off 68 (by kernel_rfl) (at_other rfl _ (at_other rfl _ (at_other rfl _ (at_other rfl _ (at_other rfl _ (at_other rfl _ (at_other rfl _ (at_other rfl _ (at_same (((((((((((hz128.put _ _).put _ _).put _ _).put _ _).put _ _).put _ _).put _ _).put _ _).put _ _).put _ _).put _ _) rfl _))))))))) (by kernel_rfl) ?_
              refine V.nil ?_
              refine ⟨chk [(59, .int .i64 (k : Int)), (63, undef), (74, undef), (61, .bool false), (68, .bool false)] ⟨(at_other rfl _ (at_other rfl _ (at_other rfl _ (at_other rfl _ (at_other rfl _ (at_other rfl _ (at_other rfl _ (at_other rfl _ (at_other rfl _ (at_other rfl _ (at_other rfl _ (at_other rfl _ (at_other rfl _ (at_other rfl _ (at_other rfl _ (at_other rfl _ (at_other rfl _ (at_other rfl _ (at_same ((hz128.put _ _).put _ _) rfl _))))))))))))))))))), (at_other rfl _ (at_other rfl _ (at_other rfl _ (at_other rfl _ (at_other rfl _ (at_other rfl _ (at_other rfl _ (at_other rfl _ (at_other rfl _ (at_other rfl _ (at_other rfl _ (at_other rfl _ (at_other rfl _ (at_other rfl _ (at_same ((((((hz128.put _ _).put _ _).put _ _).put _ _).put _ _).put _ _) rfl _))))))))))))))), (at_other rfl _ (at_other rfl _ (at_other rfl _ (at_same (((((((((((((((((hz128.put _ _).put _ _).put _ _).put _ _).put _ _).put _ _).put _ _).put _ _).put _ _).put _ _).put _ _).put _ _).put _ _).put _ _).put _ _).put _ _).put _ _) rfl _)))), (((at_other rfl _ (at_other rfl _ (at_other rfl _ (at_other rfl _ (at_other rfl _ (at_other rfl _ (at_other rfl _ (at_other rfl _ (at_other rfl _ (at_other rfl _ (at_other rfl _ (at_other rfl _ (at_other rfl _ (at_other rfl _ (at_other rfl _ (at_other rfl _ (at_same ((((hz128.put _ _).put _ _).put _ _).put _ _) rfl _)))))))))))))))) : Act.eval _ _ = (.bool (decide ((k : Int) > 0))))).trans (df hg203)), (at_other rfl _ (at_other rfl _ (at_other rfl _ (at_other rfl _ (at_other rfl _ (at_other rfl _ (at_other rfl _ (at_other rfl _ (at_other rfl _ (at_same (((((((((((hz128.put _ _).put _ _).put _ _).put _ _).put _ _).put _ _).put _ _).put _ _).put _ _).put _ _).put _ _) rfl _)))))))))), trivial⟩ (by kernel_rfl), ?_⟩
              refine V.go_off 68 (by kernel_rfl) (at_other rfl _ (at_other rfl _ (at_other rfl _ (at_other rfl _ (at_other rfl _ (at_other rfl _ (at_other rfl _ (at_other rfl _ (at_other rfl _ (at_same (((((((((((hz128.put _ _).put _ _).put _ _).put _ _).put _ _).put _ _).put _ _).put _ _).put _ _).put _ _).put _ _) rfl _)))))))))) (by kernel_rfl) ?_
              refine V.nil ?_
              refine ⟨trivial, ?_⟩
              refine V.go (V.pk_f (at_other rfl _ (at_other rfl _ (at_other rfl _ (at_other rfl _ (at_other rfl _ (at_other rfl _ (at_other rfl _ (at_other rfl _ (at_other rfl _ (at_other rfl _ (at_same (((((((((((hz128.put _ _).put _ _).put _ _).put _ _).put _ _).put _ _).put _ _).put _ _).put _ _).put _ _).put _ _) rfl _))))))))))) (v := (.bool false)) evc ?_)
              refine V.go (V.ixa b60 0 (s.size + 1) (s.size + 1) .i64 (k : Int) 1 (at_other rfl _ (at_other rfl _ (at_other rfl _ (at_other rfl _ (at_other rfl _ (at_other rfl _ (at_other rfl _ (at_other rfl _ (at_other rfl _ (at_other rfl _ (at_other rfl _ (at_other rfl _ (at_other rfl _ (at_other rfl _ (at_other rfl _ (at_other rfl _ (at_other rfl _ (at_other rfl _ (at_other rfl _ (at_other rfl _ (at_other rfl _ (at_other rfl _ (at_same hz128 rfl _))))))))))))))))))))))) (at_other rfl _ (at_other rfl _ (at_other rfl _ (at_other rfl _ (at_other rfl _ (at_other rfl _ (at_other rfl _ (at_other rfl _ (at_other rfl _ (at_other rfl _ (at_other rfl _ (at_other rfl _ (at_other rfl _ (at_other rfl _ (at_other rfl _ (at_other rfl _ (at_other rfl _ (at_other rfl _ (at_other rfl _ (at_other rfl _ (at_other rfl _ (at_same (hz128.put _ _) rfl _)))))))))))))))))))))) (by omega) (by omega) (by kernel_rfl) ?_)
              refine V.nil ?_
              refine ⟨chk [] trivial (by kernel_rfl), ?_⟩
              refine V.go (V.strow (enc := Value.bool) b60 ((k : Int).toNat) false (at_same (((((((((((((((((((((((hz128.put _ _).put _ _).put _ _).put _ _).put _ _).put _ _).put _ _).put _ _).put _ _).put _ _).put _ _).put _ _).put _ _).put _ _).put _ _).put _ _).put _ _).put _ _).put _ _).put _ _).put _ _).put _ _).put _ _) rfl _) (at_other rfl _ (at_same ((((((((((((((((((((((hz128.put _ _).put _ _).put _ _).put _ _).put _ _).put _ _).put _ _).put _ _).put _ _).put _ _).put _ _).put _ _).put _ _).put _ _).put _ _).put _ _).put _ _).put _ _).put _ _).put _ _).put _ _).put _ _) rfl _)) rfl rfl (by kernel_rfl) hN_197 (by first | omega | (simp only [List.length_set, List.length_replicate]; omega)) ?_)
              intro w250 hR251 hF252 hsw250
              have hR_253 := hR_198.fr1 hF252 (by omega)
              have hF_254 := hF_199.own hF252 (by simp <;> omega)
              have hS_255 := hS_200.fr hF252 (by simp <;> omega)
              have hS126_256 := hS126_201.fr hF252 (by simp <;> omega)
              have hE122_257 := hE122_202.fr hF252 (by simp <;> omega)
              refine V.nil ?_
              refine ⟨trivial, ?_⟩
              refine V.nil ?_
              refine ⟨chk [] trivial (by kernel_rfl), ?_⟩
              refine V.blk_n ?_
              refine V.then_n (hK114 _ _ ?_)
              refine V.flushW ((((((((((((((((((((((((hz128.put _ _).put _ _).put _ _).put _ _).put _ _).put _ _).put _ _).put _ _).put _ _).put _ _).put _ _).put _ _).put _ _).put _ _).put _ _).put _ _).put _ _).put _ _).put _ _).put _ _).put _ _).put _ _).put _ _).put _ _) (fun a258 hz259 up260 => ?_)
              have s0_261 : a258.eval (.tmp 0) = (.slice A l.length cap) := up260 _ _ (at_other rfl _ (at_other rfl _ (at_other rfl _ (at_other rfl _ (at_other rfl _ (at_other rfl _ (at_other rfl _ (at_other rfl _ (at_other rfl _ (at_other rfl _ (at_other rfl _ (at_other rfl _ (at_other rfl _ (at_other rfl _ (at_other rfl _ (at_other rfl _ (at_other rfl _ (at_other rfl _ (at_other rfl _ (at_other rfl _ (at_other rfl _ (at_other rfl _ (at_other rfl _ (at_other rfl _ (s0_130)))))))))))))))))))))))))
              have s1_262 : a258.eval (.tmp 1) = (.string s) := up260 _ _ (at_other rfl _ (at_other rfl _ (at_other rfl _ (at_other rfl _ (at_other rfl _ (at_other rfl _ (at_other rfl _ (at_other rfl _ (at_other rfl _ (at_other rfl _ (at_other rfl _ (at_other rfl _ (at_other rfl _ (at_other rfl _ (at_other rfl _ (at_other rfl _ (at_other rfl _ (at_other rfl _ (at_other rfl _ (at_other rfl _ (at_other rfl _ (at_other rfl _ (at_other rfl _ (at_other rfl _ (s1_131)))))))))))))))))))))))))
              have s2_263 : a258.eval (.tmp 2) = (.bool fold) := up260 _ _ (at_other rfl _ (at_other rfl _ (at_other rfl _ (at_other rfl _ (at_other rfl _ (at_other rfl _ (at_other rfl _ (at_other rfl _ (at_other rfl _ (at_other rfl _ (at_other rfl _ (at_other rfl _ (at_other rfl _ (at_other rfl _ (at_other rfl _ (at_other rfl _ (at_other rfl _ (at_other rfl _ (at_other rfl _ (at_other rfl _ (at_other rfl _ (at_other rfl _ (at_other rfl _ (at_other rfl _ (s2_132)))))))))))))))))))))))))
              have s7_264 : a258.eval (.tmp 7) = (.slice (some ⟨b, 0, none⟩) (s.size + 1) (s.size + 1)) := up260 _ _ (at_other rfl _ (at_other rfl _ (at_other rfl _ (at_other rfl _ (at_other rfl _ (at_other rfl _ (at_other rfl _ (at_other rfl _ (at_other rfl _ (at_other rfl _ (at_other rfl _ (at_other rfl _ (at_other rfl _ (at_other rfl _ (at_other rfl _ (at_other rfl _ (at_other rfl _ (at_other rfl _ (at_other rfl _ (at_other rfl _ (at_other rfl _ (at_other rfl _ (at_other rfl _ (at_other rfl _ (s7_133)))))))))))))))))))))))))
              have s8_265 : a258.eval (.tmp 8) = (.int .i64 (i : Int)) := up260 _ _ (at_other rfl _ (at_other rfl _ (at_other rfl _ (at_other rfl _ (at_other rfl _ (at_other rfl _ (at_other rfl _ (at_other rfl _ (at_other rfl _ (at_other rfl _ (at_other rfl _ (at_other rfl _ (at_other rfl _ (at_other rfl _ (at_other rfl _ (at_other rfl _ (at_other rfl _ (at_other rfl _ (at_other rfl _ (at_other rfl _ (at_other rfl _ (at_other rfl _ (at_other rfl _ (at_other rfl _ (s8_134)))))))))))))))))))))))))
              have s9_266 : a258.eval (.tmp 9) = (.slice (some ⟨b60, 0, none⟩) (s.size + 1) (s.size + 1)) := up260 _ _ (at_other rfl _ (at_other rfl _ (at_other rfl _ (at_other rfl _ (at_other rfl _ (at_other rfl _ (at_other rfl _ (at_other rfl _ (at_other rfl _ (at_other rfl _ (at_other rfl _ (at_other rfl _ (at_other rfl _ (at_other rfl _ (at_other rfl _ (at_other rfl _ (at_other rfl _ (at_other rfl _ (at_other rfl _ (at_other rfl _ (at_other rfl _ (at_other rfl _ (at_other rfl _ (at_other rfl _ (s9_135)))))))))))))))))))))))))
              have s10_267 : a258.eval (.tmp 10) = (.int .i64 (k : Int)) := up260 _ _ (at_other rfl _ (at_other rfl _ (at_other rfl _ (at_other rfl _ (at_other rfl _ (at_other rfl _ (at_other rfl _ (at_other rfl _ (at_other rfl _ (at_other rfl _ (at_other rfl _ (at_other rfl _ (at_other rfl _ (at_other rfl _ (at_other rfl _ (at_other rfl _ (at_other rfl _ (at_other rfl _ (at_other rfl _ (at_other rfl _ (at_other rfl _ (at_other rfl _ (at_other rfl _ (at_other rfl _ (s10_136)))))))))))))))))))))))))
              clear up260
              refine V.region (by kernel_rfl) ?_
              refine V.go (V.mv (v := (.int .i64 (k : Int))) (s10_267) ?_)
              refine V.go (V.pvw [(31, .int .i64 (k : Int))] ⟨(at_same hz259 rfl _), trivial⟩ (by kernel_rfl) (.int .i64 (IntKind.i64.wrap ((k : Int) + 1))) (.int .i64 ((k : Int) + 1)) (by kernel_rfl) (V.w_i64 (by omega) (by omega)) ?_)
              refine V.go (V.asg (v := (.int .i64 ((k : Int) + 1))) (at_same (hz259.put _ _) rfl _) ?_)
              refine V.nil ?_
              refine V.then_n ?_
              have hv : false = dp fold l s (i + 1) k := by
                rw [dp_step]
                rw [if_neg ht138]
                rw [decide_eq_false (show ¬ 0 < k by omega)]; rfl
              refine ⟨k + 1, ns.set ((k : Int).toNat) false, by omega, ?_⟩
              refine ⟨(((hz259.put _ _).put _ _).put _ _), ?_, ?_, ?_, ?_, ?_, ?_, ?_, hR251, hR_253, hF_254, hS_255, (by omega), (by simp only [List.length_set]; exact hlen2), (row_step hns (by omega) hv)⟩
              · exact (at_other rfl _ (at_other rfl _ (at_other rfl _ (s0_261))))
              · exact (at_other rfl _ (at_other rfl _ (at_other rfl _ (s1_262))))
              · exact (at_other rfl _ (at_other rfl _ (at_other rfl _ (s2_263))))
              · exact (at_other rfl _ (at_other rfl _ (at_other rfl _ (s7_264))))
              · exact Eq.trans (at_other rfl _ (at_other rfl _ (at_other rfl _ (s8_265)))) (V.int_eq (by omega))
              · exact (at_other rfl _ (at_other rfl _ (at_other rfl _ (s9_266))))
              · exact Eq.trans (at_same ((hz259.put _ _).put _ _) rfl _) (V.int_eq (by omega))
        ·
          refine V.exit ?_
          refine V.then_e ?_
          refine V.then_e ?_
          refine V.blk_hit ?_
          refine V.then_n (hK77 _ _ ?_)
          refine V.region (by kernel_rfl) ?_
          refine V.go (V.mv (v := (.slice (some ⟨b60, 0, none⟩) (s.size + 1) (s.size + 1))) (s9_109) ?_)
          refine V.go (V.asg (v := (.slice (some ⟨b60, 0, none⟩) (s.size + 1) (s.size + 1))) (at_same hz102 rfl _) ?_)
          refine V.nil ?_
          refine V.blk_n ?_
          refine V.then_n (hK57 _ _ ?_)
          refine V.region (by kernel_rfl) ?_
          refine V.go (V.mv (v := (.int .i64 (i : Int))) (at_other rfl _ (at_other rfl _ (s8_108))) ?_)
          refine V.go (V.pvw [(21, .int .i64 (i : Int))] ⟨(at_same ((hz102.put _ _).put _ _) rfl _), trivial⟩ (by kernel_rfl) (.int .i64 (IntKind.i64.wrap ((i : Int) + 1))) (.int .i64 ((i : Int) + 1)) (by kernel_rfl) (V.w_i64 (by omega) (by omega)) ?_)
          refine V.go (V.asg (v := (.int .i64 ((i : Int) + 1))) (at_same (((hz102.put _ _).put _ _).put _ _) rfl _) ?_)
          refine V.nil ?_
          refine V.then_n ?_
          refine ⟨i + 1, ns, b60, by omega, ?_⟩
          refine ⟨(((((hz102.put _ _).put _ _).put _ _).put _ _).put _ _), ?_, ?_, ?_, ?_, ?_, hN_90, hF_92, hS_93, (by omega), hlen2, (fun j hj => hns j (by omega))⟩
          · exact (at_other rfl _ (at_other rfl _ (at_other rfl _ (at_other rfl _ (at_other rfl _ (s0_104))))))
          · exact (at_other rfl _ (at_other rfl _ (at_other rfl _ (at_other rfl _ (at_other rfl _ (s1_105))))))
          · exact (at_other rfl _ (at_other rfl _ (at_other rfl _ (at_other rfl _ (at_other rfl _ (s2_106))))))
          · exact Eq.trans (at_other rfl _ (at_other rfl _ (at_other rfl _ (at_same (hz102.put _ _) rfl _)))) (V.sl_eq (by simp))
          · exact Eq.trans (at_same ((((hz102.put _ _).put _ _).put _ _).put _ _) rfl _) (V.int_eq (by omega))
    ·
      refine V.exit ?_
      refine V.then_e ?_
      refine V.then_e ?_
      refine V.blk_hit ?_
      refine V.then_n (hK26 _ _ ?_)
      refine V.seq (fun K268 hK269 => ?_)
      refine V.region (by kernel_rfl) ?_
      refine V.go (V.mv (v := (.slice (some ⟨b, 0, none⟩) (s.size + 1) (s.size + 1))) (s7_52) ?_)
      refine V.go (V.mv (v := (.string s)) (at_other rfl _ (s1_50)) ?_)
      refine V.go (V.pv [(83, .string s)] ⟨(at_same (hz47.put _ _) rfl _), trivial⟩ (by kernel_rfl) (.int .i64 (s.size : Int)) (by kernel_rfl) ?_)
      refine V.go (V.ixa b 0 (s.size + 1) (s.size + 1) .i64 (s.size : Int) 1 (at_other rfl _ (at_other rfl _ (at_same hz47 rfl _))) (at_same ((hz47.put _ _).put _ _) rfl _) (by omega) (by omega) (by kernel_rfl) ?_)
      refine V.go (V.ld ⟨b, 0 + (s.size : Int).toNat * 1, none⟩ (.bool (bs.getD ((s.size : Int).toNat) false)) (at_same (((hz47.put _ _).put _ _).put _ _) rfl _) (by kernel_rfl) (hR_37.at ((s.size : Int).toNat) false (by first | omega | (simp only [List.length_set, List.length_replicate]; omega))) ?_)
      refine V.go (V.asg (v := (.bool (bs.getD ((s.size : Int).toNat) false))) (at_same ((((hz47.put _ _).put _ _).put _ _).put _ _) rfl _) ?_)
      refine V.nil ?_
      refine V.then_n (hK269 _ _ ?_)
      refine V.flushW ((((((hz47.put _ _).put _ _).put _ _).put _ _).put _ _).put _ _) (fun a270 hz271 up272 => ?_)
      have s6_273 : a270.eval (.tmp 6) = (.bool (bs.getD ((s.size : Int).toNat) false)) := up272 _ _ (at_same (((((hz47.put _ _).put _ _).put _ _).put _ _).put _ _) rfl _)
      clear up272
      refine V.ret ?_
      refine V.ret1 hz271 rfl (s6_273) ?_
      have hend := hbs s.size (Nat.le_refl _)
      have hil : i = l.length := by omega
      exact ⟨congrArg Ending.returned (congrArg Value.bool (by rw [← hil, ← hend]; simp)), hF_38⟩
end Go.Proofs.Ytmlohijidjbbjaa
