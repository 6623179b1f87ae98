/- Walks: sets of bytes. -/
import Derived.Test.YtmlohijidjbbjaaProg
import Derived.Test.YtmlohijidjbbjaaWh
import Derived.Test.YtmlohijidjbbjaaBits
namespace Go.Proofs.Ytmlohijidjbbjaa
open Go.V Go.Base
attribute [local irreducible] Act.put Act.eval
set_option linter.unusedVariables false
set_option linter.unusedSimpArgs false
set_option maxHeartbeats 4000000 in
set_option maxRecDepth 20000 in
theorem put_any (w : World) (b c t : Nat) (xs : List Nat) (hc : c < 256) (hxs : Wds xs) (hR : Row (fun n : Nat => Value.int .u64 (n : Int)) w b xs t) : Calls Try.prog 36 #[.pointer (some ⟨b, 0, none⟩), .int .u8 (c : Int)] w (fun e w' => e = .returned (.tuple #[]) ∧ Row (fun n : Nat => Value.int .u64 (n : Int)) w' b (putS xs c) t ∧ Fr [b] w w') := by
  have hF := Fr.refl [b] w
  have hc6 : c >>> 6 < 4 := by (rw [Nat.shiftRight_eq_div_pow]; omega)
  have hc63 : c &&& 63 < 64 := Nat.lt_of_le_of_lt Nat.and_le_right (by decide)
  have hq6 : ((c >>> 6 : Nat) : Int).toNat = c / 64 := by (rw [Int.toNat_natCast, Nat.shiftRight_eq_div_pow])
  have hq63 : c &&& 63 = c % 64 := Nat.and_two_pow_sub_one_eq_mod c 6
  have hxl := hxs.1
  have hxw := hxs.2 ((c >>> 6 : Nat) : Int).toNat
  refine V.enter 16 Try.func36 rfl rfl ?_
  intro a hz ha
  have s0 : a.eval (.tmp 0) = (.pointer (some ⟨b, 0, none⟩)) := ha 0 _ rfl
  have s1 : a.eval (.tmp 1) = (.int .u8 (c : Int)) := ha 1 _ rfl
  clear ha
  refine V.plan [[], [], [1], [0], [0, 1, 2, 3], [0, 1, 2, 3, 4], [], [6], [6, 7], [0, 1, 2, 3, 4, 5, 6, 7, 8], [0], [0, 1, 2, 3, 4, 5, 6, 7, 8, 9, 10], [0, 1, 2, 3, 4, 5, 6, 7, 8, 9, 10, 11]] [([0, 1, 2, 3, 4, 5, 6, 7, 8, 9, 10, 11], some (12, [])), ([], none)] (by kernel_rfl) (by kernel_rfl) (by exact fun _ _ _ _ h => h) ?_
  simp only [Plan.wpSegs, Plan.pickAll, Plan.nth, V.L_eq]
  obtain ⟨w1, hF2e⟩ : ∃ w1, w1 = w.drew := ⟨_, rfl⟩
  rw [← hF2e]
  have hF2 : Fr [] w w1 := by rw [hF2e]; exact Fr.drew _ _
  have hsw1 : w1.heap.size = w.heap.size := by rw [hF2e]; rfl
  clear hF2e
  have hF_3 := hF.trans hF2 (by simp <;> omega)
  have hR_4 := hR.fr0 hF2
  refine V.go (V.mv (v := (.pointer (some ⟨b, 0, none⟩))) (s0) ?_)
  refine V.go (V.mv (v := (.int .u8 (c : Int))) (at_other rfl _ (s1)) ?_)
  refine V.go (V.shr c 6 (at_same (hz.put _ _) rfl _) evc (by decide) ?_)
  refine V.go (V.pv [(4, .pointer (some ⟨b, 0, none⟩))] ⟨(at_other rfl _ (at_other rfl _ (at_same hz rfl _))), trivial⟩ (by kernel_rfl) (.pointer (some ⟨b, 0, none⟩)) (by kernel_rfl) ?_)
  refine V.go (V.ixp b 0 4 .u8 ((c >>> 6 : Nat) : Int) 1 (at_same (((hz.put _ _).put _ _).put _ _) rfl _) (at_other rfl _ (at_same ((hz.put _ _).put _ _) rfl _)) (by omega) (by omega) (by kernel_rfl) ?_)
  refine V.go (V.ld ⟨b, 0 + ((c >>> 6 : Nat) : Int).toNat * 1, none⟩ (.int .u64 ((xs.getD (((c >>> 6 : Nat) : Int).toNat) 0 : Nat) : Int)) (at_same ((((hz.put _ _).put _ _).put _ _).put _ _) rfl _) (by kernel_rfl) (hR_4.at (((c >>> 6 : Nat) : Int).toNat) 0 (by first | omega | (simp only [List.length_set, List.length_replicate]; omega))) ?_)
  refine V.go (V.mv (v := (.int .u8 (c : Int))) (at_other rfl _ (at_other rfl _ (at_other rfl _ (at_other rfl _ (at_other rfl _ (at_other rfl _ (s1))))))) ?_)
  refine V.go (V.and8 c 63 (at_same ((((((hz.put _ _).put _ _).put _ _).put _ _).put _ _).put _ _) rfl _) evc hc (by decide) ?_)
  refine V.go (V.shl1 (c &&& 63) evc (at_same (((((((hz.put _ _).put _ _).put _ _).put _ _).put _ _).put _ _).put _ _) rfl _) hc63 ?_)
  refine V.go (V.or64 (xs.getD ((c >>> 6 : Nat) : Int).toNat 0) (2 ^ (c &&& 63)) (at_other rfl _ (at_other rfl _ (at_other rfl _ (at_same (((((hz.put _ _).put _ _).put _ _).put _ _).put _ _) rfl _)))) (at_same ((((((((hz.put _ _).put _ _).put _ _).put _ _).put _ _).put _ _).put _ _).put _ _) rfl _) hxw (Nat.pow_lt_pow_right (by omega) hc63 : 2 ^ (c &&& 63) < 2 ^ 64) ?_)
  refine V.go (V.pv [(4, .pointer (some ⟨b, 0, none⟩))] ⟨(at_other rfl _ (at_other rfl _ (at_other rfl _ (at_other rfl _ (at_other rfl _ (at_other rfl _ (at_other rfl _ (at_other rfl _ (at_other rfl _ (at_same hz rfl _)))))))))), trivial⟩ (by kernel_rfl) (.pointer (some ⟨b, 0, none⟩)) (by kernel_rfl) ?_)
  refine V.go (V.ixp b 0 4 .u8 ((c >>> 6 : Nat) : Int) 1 (at_same ((((((((((hz.put _ _).put _ _).put _ _).put _ _).put _ _).put _ _).put _ _).put _ _).put _ _).put _ _) rfl _) (at_other rfl _ (at_other rfl _ (at_other rfl _ (at_other rfl _ (at_other rfl _ (at_other rfl _ (at_other rfl _ (at_other rfl _ (at_same ((hz.put _ _).put _ _) rfl _))))))))) (by omega) (by omega) (by kernel_rfl) ?_)
  refine V.nil ?_
  refine ⟨chk [(5, .int .u8 (c : Int)), (4, .pointer (some ⟨b, 0, none⟩)), (10, .int .u8 (c : Int)), (11, .int .u8 ((c &&& 63 : Nat) : Int)), (9, .int .u64 ((xs.getD (((c >>> 6 : Nat) : Int).toNat) 0 : Nat) : Int)), (12, .int .u64 ((2 ^ (c &&& 63) : Nat) : Int))] ⟨(at_other rfl _ (at_other rfl _ (at_other rfl _ (at_other rfl _ (at_other rfl _ (at_other rfl _ (at_other rfl _ (at_other rfl _ (at_other rfl _ (at_other rfl _ (at_same (hz.put _ _) rfl _))))))))))), (at_other rfl _ (at_other rfl _ (at_other rfl _ (at_other rfl _ (at_other rfl _ (at_other rfl _ (at_other rfl _ (at_other rfl _ (at_other rfl _ (at_other rfl _ (at_other rfl _ (at_same hz rfl _)))))))))))), (at_other rfl _ (at_other rfl _ (at_other rfl _ (at_other rfl _ (at_other rfl _ (at_same ((((((hz.put _ _).put _ _).put _ _).put _ _).put _ _).put _ _) rfl _)))))), (at_other rfl _ (at_other rfl _ (at_other rfl _ (at_other rfl _ (at_same (((((((hz.put _ _).put _ _).put _ _).put _ _).put _ _).put _ _).put _ _) rfl _))))), (at_other rfl _ (at_other rfl _ (at_other rfl _ (at_other rfl _ (at_other rfl _ (at_other rfl _ (at_same (((((hz.put _ _).put _ _).put _ _).put _ _).put _ _) rfl _))))))), (at_other rfl _ (at_other rfl _ (at_other rfl _ (at_same ((((((((hz.put _ _).put _ _).put _ _).put _ _).put _ _).put _ _).put _ _).put _ _) rfl _)))), trivial⟩ (by kernel_rfl), ?_⟩
  refine V.go (V.strow (enc := (fun n : Nat => Value.int .u64 (n : Int))) b (((c >>> 6 : Nat) : Int).toNat) (xs.getD ((c >>> 6 : Nat) : Int).toNat 0 ||| 2 ^ (c &&& 63)) (at_same (((((((((((hz.put _ _).put _ _).put _ _).put _ _).put _ _).put _ _).put _ _).put _ _).put _ _).put _ _).put _ _) rfl _) (at_other rfl _ (at_other rfl _ (at_same (((((((((hz.put _ _).put _ _).put _ _).put _ _).put _ _).put _ _).put _ _).put _ _).put _ _) rfl _))) rfl rfl (by kernel_rfl) hR_4 (by first | omega | (simp only [List.length_set, List.length_replicate]; omega)) ?_)
  intro w5 hR6 hF7 hsw5
  have hF_8 := hF_3.trans hF7 (by simp <;> omega)
  refine V.nil ?_
  refine ⟨trivial, ?_⟩
  refine V.nil ?_
  refine ⟨chk [] trivial (by kernel_rfl), ?_⟩
  refine V.end0 ((((((((((((hz.put _ _).put _ _).put _ _).put _ _).put _ _).put _ _).put _ _).put _ _).put _ _).put _ _).put _ _).put _ _) rfl ?_
  refine ⟨rfl, ?_, hF_8⟩
  unfold putS
  have hh := hR6
  simp only [hq6, hq63] at hh
  exact hh
set_option maxHeartbeats 4000000 in
set_option maxRecDepth 20000 in
theorem has_any (w : World) (c n0 n1 n2 n3 : Nat) (hc : c < 256) (hxs : Wds [n0, n1, n2, n3]) : Calls Try.prog 27 #[.agg #[.int .u64 (n0 : Int), .int .u64 (n1 : Int), .int .u64 (n2 : Int), .int .u64 (n3 : Int)], .int .u8 (c : Int)] w (fun e w' => e = .returned (.bool (bitS [n0, n1, n2, n3] c)) ∧ Fr [] w w') := by
  have hF := Fr.refl [] w
  have hc6 : c >>> 6 < 4 := by (rw [Nat.shiftRight_eq_div_pow]; omega)
  have hc63 : c &&& 63 < 64 := Nat.lt_of_le_of_lt Nat.and_le_right (by decide)
  have hq6 : ((c >>> 6 : Nat) : Int).toNat = c / 64 := by (rw [Int.toNat_natCast, Nat.shiftRight_eq_div_pow])
  have hq63 : c &&& 63 = c % 64 := Nat.and_two_pow_sub_one_eq_mod c 6
  have hxl := hxs.1
  have hxw := hxs.2 ((c >>> 6 : Nat) : Int).toNat
  refine V.enter 14 Try.func27 rfl rfl ?_
  intro a hz ha
  have s0 : a.eval (.tmp 0) = (.agg #[.int .u64 (n0 : Int), .int .u64 (n1 : Int), .int .u64 (n2 : Int), .int .u64 (n3 : Int)]) := ha 0 _ rfl
  have s1 : a.eval (.tmp 1) = (.int .u8 (c : Int)) := ha 1 _ rfl
  clear ha
  refine V.seq (fun K1 hK2 => ?_)
  refine V.region (by kernel_rfl) ?_
  refine V.go (V.mk [(0, .agg #[.int .u64 (n0 : Int), .int .u64 (n1 : Int), .int .u64 (n2 : Int), .int .u64 (n3 : Int)])] ⟨(s0), trivial⟩ (by kernel_rfl) [.int .u64 (n0 : Int), .int .u64 (n1 : Int), .int .u64 (n2 : Int), .int .u64 (n3 : Int)] 45 (fun b => .pointer (some ⟨b, 0, none⟩)) (by kernel_rfl) ?_)
  intro w4 b3 heb3 hB5 hF6 hsb3
  have hF_7 := hF.new hF6
  refine V.go (V.asg (v := (.bool false)) evc ?_)
  refine V.nil ?_
  refine V.then_n (hK2 _ _ ?_)
  refine V.seq (fun K8 hK9 => ?_)
  have hR10 : Row (fun n : Nat => Value.int .u64 (n : Int)) w4 b3 [n0, n1, n2, n3] 45 := ⟨hB5⟩
  refine V.region (by kernel_rfl) ?_
  refine V.go (V.mv (v := (.int .u8 (c : Int))) (at_other rfl _ (at_other rfl _ (s1))) ?_)
  refine V.go (V.shr c 6 (at_same ((hz.put _ _).put _ _) rfl _) evc (by decide) ?_)
  refine V.go (V.ixp b3 0 4 .u8 ((c >>> 6 : Nat) : Int) 1 (at_other rfl _ (at_other rfl _ (at_other rfl _ (at_same hz rfl _)))) (at_same (((hz.put _ _).put _ _).put _ _) rfl _) (by omega) (by omega) (by kernel_rfl) ?_)
  refine V.go (V.ld ⟨b3, 0 + ((c >>> 6 : Nat) : Int).toNat * 1, none⟩ (.int .u64 ((([n0, n1, n2, n3]).getD (((c >>> 6 : Nat) : Int).toNat) 0 : Nat) : Int)) (at_same ((((hz.put _ _).put _ _).put _ _).put _ _) rfl _) (by kernel_rfl) (hR10.at (((c >>> 6 : Nat) : Int).toNat) 0 (by first | omega | (simp only [List.length_set, List.length_replicate]; omega))) ?_)
  refine V.go (V.mv (v := (.int .u8 (c : Int))) (at_other rfl _ (at_other rfl _ (at_other rfl _ (at_other rfl _ (at_other rfl _ (at_other rfl _ (s1))))))) ?_)
  refine V.go (V.and8 c 63 (at_same ((((((hz.put _ _).put _ _).put _ _).put _ _).put _ _).put _ _) rfl _) evc hc (by decide) ?_)
  refine V.go (V.shr ([n0, n1, n2, n3].getD ((c >>> 6 : Nat) : Int).toNat 0) (c &&& 63) (at_other rfl _ (at_other rfl _ (at_same (((((hz.put _ _).put _ _).put _ _).put _ _).put _ _) rfl _))) (at_same (((((((hz.put _ _).put _ _).put _ _).put _ _).put _ _).put _ _).put _ _) rfl _) (Nat.le_of_lt hc63) ?_)
  refine V.go (V.and64 (([n0, n1, n2, n3].getD ((c >>> 6 : Nat) : Int).toNat 0) >>> (c &&& 63)) 1 (at_same ((((((((hz.put _ _).put _ _).put _ _).put _ _).put _ _).put _ _).put _ _).put _ _) rfl _) evc (Nat.lt_of_le_of_lt (Nat.shiftRight_le _ _) hxw) (by decide) ?_)
  refine V.go (V.pvw [(12, .int .u64 ((([n0, n1, n2, n3].getD ((c >>> 6 : Nat) : Int).toNat 0) >>> (c &&& 63) &&& 1 : Nat) : Int))] ⟨(at_same (((((((((hz.put _ _).put _ _).put _ _).put _ _).put _ _).put _ _).put _ _).put _ _).put _ _) rfl _), trivial⟩ (by kernel_rfl) (.bool (((([n0, n1, n2, n3].getD ((c >>> 6 : Nat) : Int).toNat 0) >>> (c &&& 63) &&& 1 : Nat) : Int) == 1)) (.bool (decide (((([n0, n1, n2, n3].getD ((c >>> 6 : Nat) : Int).toNat 0) >>> (c &&& 63) &&& 1 : Nat) : Int) = 1))) (by kernel_rfl) V.t_eql ?_)
  refine V.go (V.asg (v := (.bool (decide (((([n0, n1, n2, n3].getD ((c >>> 6 : Nat) : Int).toNat 0) >>> (c &&& 63) &&& 1 : Nat) : Int) = 1)))) (at_same ((((((((((hz.put _ _).put _ _).put _ _).put _ _).put _ _).put _ _).put _ _).put _ _).put _ _).put _ _) rfl _) ?_)
  refine V.nil ?_
  refine V.then_n (hK9 _ _ ?_)
  refine V.flushW ((((((((((((hz.put _ _).put _ _).put _ _).put _ _).put _ _).put _ _).put _ _).put _ _).put _ _).put _ _).put _ _).put _ _) (fun a11 hz12 up13 => ?_)
  have s4_14 : a11.eval (.tmp 4) = (.bool (decide (((([n0, n1, n2, n3].getD ((c >>> 6 : Nat) : Int).toNat 0) >>> (c &&& 63) &&& 1 : Nat) : Int) = 1))) := up13 _ _ (at_same (((((((((((hz.put _ _).put _ _).put _ _).put _ _).put _ _).put _ _).put _ _).put _ _).put _ _).put _ _).put _ _) rfl _)
  clear up13
  refine V.ret ?_
  refine V.ret1 hz12 rfl (s4_14) ?_
  refine ⟨congrArg Ending.returned (congrArg Value.bool ?_), hF_7⟩
  unfold bitS
  rw [Nat.testBit_eq_decide_div_mod_eq, ← hq6, ← hq63]
  rw [decide_eq_decide, Nat.shiftRight_eq_div_pow, Nat.and_one_is_mod]
  omega
end Go.Proofs.Ytmlohijidjbbjaa
