/- Walks: small, class. -/
import Derived.Test.YtmlohijidjbbjaaProg
import Derived.Test.YtmlohijidjbbjaaDef
namespace Go.Proofs.Ytmlohijidjbbjaa
open Go.V Go.Base
attribute [local irreducible] Act.put Act.eval
set_option linter.unusedVariables false
set_option linter.unusedSimpArgs false
theorem info54 : (Try.prog.info? 54).map (fun i => (i.zero, i.size, i.bytes)) = some (some (.agg #[(.int .u8 0), (.int .u8 0)]), 2, 2) := by kernel_rfl
theorem info42 : (Try.prog.info? 42).map (fun i => (i.zero, i.size, i.bytes)) = some (some (.agg #[.int .i64 0, .int .u8 0, .bool false, .slice none 0 0]), 4, 40) := by kernel_rfl
set_option maxHeartbeats 4000000 in
set_option maxRecDepth 20000 in
theorem small_any (w : World) (c : Int) (h0 : 0 ≤ c) (h1 : c ≤ 255) : Calls Try.prog 35 #[.int .u8 c] w (fun e w' => e = .returned (.int .u8 (smallI c)) ∧ w = w') := by
  refine V.enter 12 Try.func35 rfl rfl ?_
  intro a hz ha
  have s0 : a.eval (.tmp 0) = (.int .u8 c) := ha 0 _ rfl
  clear ha
  refine V.seq (fun K1 hK2 => ?_)
  refine V.region (by kernel_rfl) ?_
  refine V.go (V.asg (v := (.int .u8 0)) evc ?_)
  refine V.nil ?_
  refine V.then_n (hK2 _ _ ?_)
  refine V.seq (fun K3 hK4 => ?_)
  refine V.seq (fun K5 hK6 => ?_)
  refine V.region (by kernel_rfl) ?_
  refine V.go (V.mv (v := (.int .u8 c)) (at_other rfl _ (s0)) ?_)
  refine V.go (V.pv [(3, .int .u8 c)] ⟨(at_same (hz.put _ _) rfl _), trivial⟩ (by kernel_rfl) (.bool (decide (c ≥ 65))) (by kernel_rfl) ?_)
  refine V.go (V.mv (v := (.bool (decide (c ≥ 65)))) (at_same ((hz.put _ _).put _ _) rfl _) ?_)
  by_cases hg7 : c ≥ 65
  ·
    refine V.go_on 5 (by kernel_rfl) (((at_same (((hz.put _ _).put _ _).put _ _) rfl _ : Act.eval _ _ = (.bool (decide (c ≥ 65))))).trans (dt hg7)) (V.mv (v := (.int .u8 c)) (at_other rfl _ (at_other rfl _ (at_other rfl _ (at_other rfl _ (s0))))) ?_)
    refine V.go_on 5 (by kernel_rfl) (((at_other rfl _ (at_same (((hz.put _ _).put _ _).put _ _) rfl _) : Act.eval _ _ = (.bool (decide (c ≥ 65))))).trans (dt hg7)) (V.pv [(6, .int .u8 c)] ⟨(at_same ((((hz.put _ _).put _ _).put _ _).put _ _) rfl _), trivial⟩ (by kernel_rfl) (.bool (decide (c ≤ 90))) (by kernel_rfl) ?_)
    refine V.go (V.pk_t (((at_other rfl _ (at_other rfl _ (at_same (((hz.put _ _).put _ _).put _ _) rfl _)) : Act.eval _ _ = (.bool (decide (c ≥ 65))))).trans (dt hg7)) (v := (.bool (decide (c ≤ 90)))) (at_same (((((hz.put _ _).put _ _).put _ _).put _ _).put _ _) rfl _) ?_)
    refine V.nil ?_
    refine V.then_n (hK6 _ _ ?_)
    refine V.flushW (((((((hz.put _ _).put _ _).put _ _).put _ _).put _ _).put _ _).put _ _) (fun a8 hz9 up10 => ?_)
    have s0_11 : a8.eval (.tmp 0) = (.int .u8 c) := up10 _ _ (at_other rfl _ (at_other rfl _ (at_other rfl _ (at_other rfl _ (at_other rfl _ (at_other rfl _ (at_other rfl _ (s0))))))))
    have s8_12 : a8.eval (.tmp 8) = (.bool (decide (c ≤ 90))) := up10 _ _ (at_same ((((((hz.put _ _).put _ _).put _ _).put _ _).put _ _).put _ _) rfl _)
    clear up10
    refine V.condP (p := c ≤ 90) (s8_12) (fun ht13 => ?_) (fun ht13 => ?_)
    ·
      refine V.seq (fun K14 hK15 => ?_)
      refine V.region (by kernel_rfl) ?_
      refine V.go (V.mv (v := (.int .u8 c)) (s0_11) ?_)
      refine V.go (V.pvw [(9, .int .u8 c)] ⟨(at_same hz9 rfl _), trivial⟩ (by kernel_rfl) (.int .u8 (IntKind.u8.wrap (c + 32))) (.int .u8 (c + 32)) (by kernel_rfl) (V.w_u8 (by omega) (by omega)) ?_)
      refine V.go (V.asg (v := (.int .u8 (c + 32))) (at_same (hz9.put _ _) rfl _) ?_)
      refine V.nil ?_
      refine V.then_n (hK15 _ _ ?_)
      refine V.ret ?_
      refine V.then_r ?_
      refine V.ret1 (((hz9.put _ _).put _ _).put _ _) rfl (at_same ((hz9.put _ _).put _ _) rfl _) ?_
      exact ⟨congrArg Ending.returned (int_eq (by unfold smallI; split <;> omega)), rfl⟩
    ·
      refine V.skip ?_
      refine V.then_n (hK4 _ _ ?_)
      refine V.seq (fun K16 hK17 => ?_)
      refine V.region (by kernel_rfl) ?_
      refine V.go (V.mv (v := (.int .u8 c)) (s0_11) ?_)
      refine V.go (V.asg (v := (.int .u8 c)) (at_same hz9 rfl _) ?_)
      refine V.nil ?_
      refine V.then_n (hK17 _ _ ?_)
      refine V.ret ?_
      refine V.ret1 ((hz9.put _ _).put _ _) rfl (at_same (hz9.put _ _) rfl _) ?_
      exact ⟨congrArg Ending.returned (int_eq (by unfold smallI; split <;> omega)), rfl⟩
  ·
    refine V.go_off 5 (by kernel_rfl) (((at_same (((hz.put _ _).put _ _).put _ _) rfl _ : Act.eval _ _ = (.bool (decide (c ≥ 65))))).trans (df hg7)) (by kernel_rfl) ?_
    refine V.go_off 5 (by kernel_rfl) (((at_other rfl _ (at_same (((hz.put _ _).put _ _).put _ _) rfl _) : Act.eval _ _ = (.bool (decide (c ≥ 65))))).trans (df hg7)) (by kernel_rfl) ?_
    refine V.go (V.pk_f (((at_other rfl _ (at_other rfl _ (at_same (((hz.put _ _).put _ _).put _ _) rfl _)) : Act.eval _ _ = (.bool (decide (c ≥ 65))))).trans (df hg7)) (v := (.bool false)) evc ?_)
    refine V.nil ?_
    refine V.then_n (hK6 _ _ ?_)
    refine V.flushW (((((((hz.put _ _).put _ _).put _ _).put _ _).put _ _).put _ _).put _ _) (fun a18 hz19 up20 => ?_)
    have s0_21 : a18.eval (.tmp 0) = (.int .u8 c) := up20 _ _ (at_other rfl _ (at_other rfl _ (at_other rfl _ (at_other rfl _ (at_other rfl _ (at_other rfl _ (at_other rfl _ (s0))))))))
    have s8_22 : a18.eval (.tmp 8) = (.bool false) := up20 _ _ (at_same ((((((hz.put _ _).put _ _).put _ _).put _ _).put _ _).put _ _) rfl _)
    clear up20
    refine V.cond_f (s8_22) ?_
    refine V.skip ?_
    refine V.then_n (hK4 _ _ ?_)
    refine V.seq (fun K23 hK24 => ?_)
    refine V.region (by kernel_rfl) ?_
    refine V.go (V.mv (v := (.int .u8 c)) (s0_21) ?_)
    refine V.go (V.asg (v := (.int .u8 c)) (at_same hz19 rfl _) ?_)
    refine V.nil ?_
    refine V.then_n (hK24 _ _ ?_)
    refine V.ret ?_
    refine V.ret1 ((hz19.put _ _).put _ _) rfl (at_same (hz19.put _ _) rfl _) ?_
    exact ⟨congrArg Ending.returned (int_eq (by unfold smallI; split <;> omega)), rfl⟩
set_option maxHeartbeats 4000000 in
set_option maxRecDepth 20000 in
theorem rsmall_any (w : World) (c : Int) (fold : Bool) (h0 : 0 ≤ c) (h1 : c ≤ 255) : Calls Try.prog 42 #[.int .u8 c, .bool fold] w (fun e w' => e = .returned (.int .u8 (smallF c fold)) ∧ w = w') := by
  refine V.enter 17 Try.func42 rfl rfl ?_
  intro a hz ha
  have s0 : a.eval (.tmp 0) = (.int .u8 c) := ha 0 _ rfl
  have s1 : a.eval (.tmp 1) = (.bool fold) := ha 1 _ rfl
  clear ha
  refine V.seq (fun K1 hK2 => ?_)
  refine V.region (by kernel_rfl) ?_
  refine V.go (V.asg (v := (.int .u8 0)) evc ?_)
  refine V.nil ?_
  refine V.then_n (hK2 _ _ ?_)
  refine V.seq (fun K3 hK4 => ?_)
  refine V.seq (fun K5 hK6 => ?_)
  refine V.region (by kernel_rfl) ?_
  refine V.go (V.mv (v := (.bool fold)) (at_other rfl _ (s1)) ?_)
  refine V.go (V.mv (v := (.bool fold)) (at_same (hz.put _ _) rfl _) ?_)
  by_cases hg7 : fold = true
  ·
    refine V.go_on 6 (by kernel_rfl) (((at_same ((hz.put _ _).put _ _) rfl _ : Act.eval _ _ = (.bool fold))).trans (bt hg7)) (V.mv (v := (.int .u8 c)) (at_other rfl _ (at_other rfl _ (at_other rfl _ (s0)))) ?_)
    refine V.go_on 6 (by kernel_rfl) (((at_other rfl _ (at_same ((hz.put _ _).put _ _) rfl _) : Act.eval _ _ = (.bool fold))).trans (bt hg7)) (V.pv [(7, .int .u8 c)] ⟨(at_same (((hz.put _ _).put _ _).put _ _) rfl _), trivial⟩ (by kernel_rfl) (.bool (decide (c ≥ 65))) (by kernel_rfl) ?_)
    refine V.go (V.pk_t (((at_other rfl _ (at_other rfl _ (at_same ((hz.put _ _).put _ _) rfl _)) : Act.eval _ _ = (.bool fold))).trans (bt hg7)) (v := (.bool (decide (c ≥ 65)))) (at_same ((((hz.put _ _).put _ _).put _ _).put _ _) rfl _) ?_)
    refine V.go (V.mv (v := (.bool (decide (c ≥ 65)))) (at_same (((((hz.put _ _).put _ _).put _ _).put _ _).put _ _) rfl _) ?_)
    by_cases hg8 : c ≥ 65
    ·
      refine V.go_on 10 (by kernel_rfl) (((at_same ((((((hz.put _ _).put _ _).put _ _).put _ _).put _ _).put _ _) rfl _ : Act.eval _ _ = (.bool (decide (c ≥ 65))))).trans (dt hg8)) (V.mv (v := (.int .u8 c)) (at_other rfl _ (at_other rfl _ (at_other rfl _ (at_other rfl _ (at_other rfl _ (at_other rfl _ (at_other rfl _ (s0)))))))) ?_)
      refine V.go_on 10 (by kernel_rfl) (((at_other rfl _ (at_same ((((((hz.put _ _).put _ _).put _ _).put _ _).put _ _).put _ _) rfl _) : Act.eval _ _ = (.bool (decide (c ≥ 65))))).trans (dt hg8)) (V.pv [(11, .int .u8 c)] ⟨(at_same (((((((hz.put _ _).put _ _).put _ _).put _ _).put _ _).put _ _).put _ _) rfl _), trivial⟩ (by kernel_rfl) (.bool (decide (c ≤ 90))) (by kernel_rfl) ?_)
      refine V.go (V.pk_t (((at_other rfl _ (at_other rfl _ (at_same ((((((hz.put _ _).put _ _).put _ _).put _ _).put _ _).put _ _) rfl _)) : Act.eval _ _ = (.bool (decide (c ≥ 65))))).trans (dt hg8)) (v := (.bool (decide (c ≤ 90)))) (at_same ((((((((hz.put _ _).put _ _).put _ _).put _ _).put _ _).put _ _).put _ _).put _ _) rfl _) ?_)
      refine V.nil ?_
      refine V.then_n (hK6 _ _ ?_)
      refine V.flushW ((((((((((hz.put _ _).put _ _).put _ _).put _ _).put _ _).put _ _).put _ _).put _ _).put _ _).put _ _) (fun a9 hz10 up11 => ?_)
      have s0_12 : a9.eval (.tmp 0) = (.int .u8 c) := up11 _ _ (at_other rfl _ (at_other rfl _ (at_other rfl _ (at_other rfl _ (at_other rfl _ (at_other rfl _ (at_other rfl _ (at_other rfl _ (at_other rfl _ (at_other rfl _ (s0)))))))))))
      have s13_13 : a9.eval (.tmp 13) = (.bool (decide (c ≤ 90))) := up11 _ _ (at_same (((((((((hz.put _ _).put _ _).put _ _).put _ _).put _ _).put _ _).put _ _).put _ _).put _ _) rfl _)
      clear up11
      refine V.condP (p := c ≤ 90) (s13_13) (fun ht14 => ?_) (fun ht14 => ?_)
      ·
        refine V.seq (fun K15 hK16 => ?_)
        refine V.region (by kernel_rfl) ?_
        refine V.go (V.mv (v := (.int .u8 c)) (s0_12) ?_)
        refine V.go (V.pvw [(14, .int .u8 c)] ⟨(at_same hz10 rfl _), trivial⟩ (by kernel_rfl) (.int .u8 (IntKind.u8.wrap (c + 32))) (.int .u8 (c + 32)) (by kernel_rfl) (V.w_u8 (by omega) (by omega)) ?_)
        refine V.go (V.asg (v := (.int .u8 (c + 32))) (at_same (hz10.put _ _) rfl _) ?_)
        refine V.nil ?_
        refine V.then_n (hK16 _ _ ?_)
        refine V.ret ?_
        refine V.then_r ?_
        refine V.ret1 (((hz10.put _ _).put _ _).put _ _) rfl (at_same ((hz10.put _ _).put _ _) rfl _) ?_
        refine ⟨congrArg Ending.returned (int_eq ?_), rfl⟩; unfold smallF; simp only [*, if_true, if_false, Bool.false_eq_true] <;> first | rfl | (unfold smallI; split <;> omega)
      ·
        refine V.skip ?_
        refine V.then_n (hK4 _ _ ?_)
        refine V.seq (fun K17 hK18 => ?_)
        refine V.region (by kernel_rfl) ?_
        refine V.go (V.mv (v := (.int .u8 c)) (s0_12) ?_)
        refine V.go (V.asg (v := (.int .u8 c)) (at_same hz10 rfl _) ?_)
        refine V.nil ?_
        refine V.then_n (hK18 _ _ ?_)
        refine V.ret ?_
        refine V.ret1 ((hz10.put _ _).put _ _) rfl (at_same (hz10.put _ _) rfl _) ?_
        refine ⟨congrArg Ending.returned (int_eq ?_), rfl⟩; unfold smallF; simp only [*, if_true, if_false, Bool.false_eq_true] <;> first | rfl | (unfold smallI; split <;> omega)
    ·
      refine V.go_off 10 (by kernel_rfl) (((at_same ((((((hz.put _ _).put _ _).put _ _).put _ _).put _ _).put _ _) rfl _ : Act.eval _ _ = (.bool (decide (c ≥ 65))))).trans (df hg8)) (by kernel_rfl) ?_
      refine V.go_off 10 (by kernel_rfl) (((at_other rfl _ (at_same ((((((hz.put _ _).put _ _).put _ _).put _ _).put _ _).put _ _) rfl _) : Act.eval _ _ = (.bool (decide (c ≥ 65))))).trans (df hg8)) (by kernel_rfl) ?_
      refine V.go (V.pk_f (((at_other rfl _ (at_other rfl _ (at_same ((((((hz.put _ _).put _ _).put _ _).put _ _).put _ _).put _ _) rfl _)) : Act.eval _ _ = (.bool (decide (c ≥ 65))))).trans (df hg8)) (v := (.bool false)) evc ?_)
      refine V.nil ?_
      refine V.then_n (hK6 _ _ ?_)
      refine V.flushW ((((((((((hz.put _ _).put _ _).put _ _).put _ _).put _ _).put _ _).put _ _).put _ _).put _ _).put _ _) (fun a19 hz20 up21 => ?_)
      have s0_22 : a19.eval (.tmp 0) = (.int .u8 c) := up21 _ _ (at_other rfl _ (at_other rfl _ (at_other rfl _ (at_other rfl _ (at_other rfl _ (at_other rfl _ (at_other rfl _ (at_other rfl _ (at_other rfl _ (at_other rfl _ (s0)))))))))))
      have s13_23 : a19.eval (.tmp 13) = (.bool false) := up21 _ _ (at_same (((((((((hz.put _ _).put _ _).put _ _).put _ _).put _ _).put _ _).put _ _).put _ _).put _ _) rfl _)
      clear up21
      refine V.cond_f (s13_23) ?_
      refine V.skip ?_
      refine V.then_n (hK4 _ _ ?_)
      refine V.seq (fun K24 hK25 => ?_)
      refine V.region (by kernel_rfl) ?_
      refine V.go (V.mv (v := (.int .u8 c)) (s0_22) ?_)
      refine V.go (V.asg (v := (.int .u8 c)) (at_same hz20 rfl _) ?_)
      refine V.nil ?_
      refine V.then_n (hK25 _ _ ?_)
      refine V.ret ?_
      refine V.ret1 ((hz20.put _ _).put _ _) rfl (at_same (hz20.put _ _) rfl _) ?_
      refine ⟨congrArg Ending.returned (int_eq ?_), rfl⟩; unfold smallF; simp only [*, if_true, if_false, Bool.false_eq_true] <;> first | rfl | (unfold smallI; split <;> omega)
  ·
    refine V.go_off 6 (by kernel_rfl) (((at_same ((hz.put _ _).put _ _) rfl _ : Act.eval _ _ = (.bool fold))).trans (bf hg7)) (by kernel_rfl) ?_
    refine V.go_off 6 (by kernel_rfl) (((at_other rfl _ (at_same ((hz.put _ _).put _ _) rfl _) : Act.eval _ _ = (.bool fold))).trans (bf hg7)) (by kernel_rfl) ?_
    refine V.go (V.pk_f (((at_other rfl _ (at_other rfl _ (at_same ((hz.put _ _).put _ _) rfl _)) : Act.eval _ _ = (.bool fold))).trans (bf hg7)) (v := (.bool false)) evc ?_)
    refine V.go (V.mv (v := (.bool false)) (at_same (((((hz.put _ _).put _ _).put _ _).put _ _).put _ _) rfl _) ?_)
    refine V.go_off 10 (by kernel_rfl) (at_same ((((((hz.put _ _).put _ _).put _ _).put _ _).put _ _).put _ _) rfl _) (by kernel_rfl) ?_
    refine V.go_off 10 (by kernel_rfl) (at_other rfl _ (at_same ((((((hz.put _ _).put _ _).put _ _).put _ _).put _ _).put _ _) rfl _)) (by kernel_rfl) ?_
    refine V.go (V.pk_f (at_other rfl _ (at_other rfl _ (at_same ((((((hz.put _ _).put _ _).put _ _).put _ _).put _ _).put _ _) rfl _))) (v := (.bool false)) evc ?_)
    refine V.nil ?_
    refine V.then_n (hK6 _ _ ?_)
    refine V.flushW ((((((((((hz.put _ _).put _ _).put _ _).put _ _).put _ _).put _ _).put _ _).put _ _).put _ _).put _ _) (fun a26 hz27 up28 => ?_)
    have s0_29 : a26.eval (.tmp 0) = (.int .u8 c) := up28 _ _ (at_other rfl _ (at_other rfl _ (at_other rfl _ (at_other rfl _ (at_other rfl _ (at_other rfl _ (at_other rfl _ (at_other rfl _ (at_other rfl _ (at_other rfl _ (s0)))))))))))
    have s13_30 : a26.eval (.tmp 13) = (.bool false) := up28 _ _ (at_same (((((((((hz.put _ _).put _ _).put _ _).put _ _).put _ _).put _ _).put _ _).put _ _).put _ _) rfl _)
    clear up28
    refine V.cond_f (s13_30) ?_
    refine V.skip ?_
    refine V.then_n (hK4 _ _ ?_)
    refine V.seq (fun K31 hK32 => ?_)
    refine V.region (by kernel_rfl) ?_
    refine V.go (V.mv (v := (.int .u8 c)) (s0_29) ?_)
    refine V.go (V.asg (v := (.int .u8 c)) (at_same hz27 rfl _) ?_)
    refine V.nil ?_
    refine V.then_n (hK32 _ _ ?_)
    refine V.ret ?_
    refine V.ret1 ((hz27.put _ _).put _ _) rfl (at_same (hz27.put _ _) rfl _) ?_
    refine ⟨congrArg Ending.returned (int_eq ?_), rfl⟩; unfold smallF; simp only [*, if_true, if_false, Bool.false_eq_true] <;> first | rfl | (unfold smallI; split <;> omega)
set_option maxHeartbeats 4000000 in
set_option maxRecDepth 20000 in
theorem class_any (w : World) (s : ByteArray) (hs : s.size ≤ 1099511627776) : Calls Try.prog 39 #[.string s] w (fun e w' => ∃ A c, e = .returned (.tuple #[.agg #[.int .i64 4, .int .u8 0, .bool (cls (ints s)).1.neg, .slice A (cls (ints s)).1.rs.length c], .int .i64 (cls (ints s)).2]) ∧ SlR spanR (fun b => w.heap.size ≤ b) w' (.slice A (cls (ints s)).1.rs.length c) (cls (ints s)).1.rs ∧ Fr [] w w') := by
  have hF := Fr.refl [] w
  refine V.enter 113 Try.func39 rfl rfl ?_
  intro a hz ha
  have s0 : a.eval (.tmp 0) = (.string s) := ha 0 _ rfl
  clear ha
  refine V.seq (fun K1 hK2 => ?_)
  refine V.region (by kernel_rfl) ?_
  refine V.go (V.mk [] trivial (by kernel_rfl) [.int .i64 0, .int .u8 0, .bool false, .slice none 0 0] 42 (fun b => .pointer (some ⟨b, 0, none⟩)) (by kernel_rfl) ?_)
  intro w4 b3 heb3 hB5 hF6 hsb3
  have hF_7 := hF.new hF6
  refine V.go (V.asg (v := (.int .i64 0)) evc ?_)
  refine V.nil ?_
  refine V.then_n (hK2 _ _ ?_)
  refine V.seq (fun K8 hK9 => ?_)
  refine V.region (by kernel_rfl) ?_
  refine V.go (V.pv [] trivial (by kernel_rfl) (.agg #[.int .i64 4, .int .u8 0, .bool false, .slice none 0 0]) (by kernel_rfl) ?_)
  refine V.go (V.mk [] trivial (by kernel_rfl) [.int .i64 0, .int .u8 0, .bool false, .slice none 0 0] 42 (fun b => .pointer (some ⟨b, 0, none⟩)) (by kernel_rfl) ?_)
  intro w11 b10 heb10 hB12 hF13 hsb10
  have hF_14 := hF_7.new hF13
  have hB5_15 := hB5.fr0 hF13
  refine V.go (V.stn b10 0 (.agg #[.int .i64 4, .int .u8 0, .bool false, .slice none 0 0]) [.int .i64 4, .int .u8 0, .bool false, .slice none 0 0] (at_same (((hz.put _ _).put _ _).put _ _) rfl _) (at_other rfl _ (at_same ((hz.put _ _).put _ _) rfl _)) rfl rfl (by kernel_rfl) hB12 (by simp) [.int .i64 4, .int .u8 0, .bool false, .slice none 0 0] rfl ?_)
  intro w16 hB17 hF18 hsw16
  have hF_19 := hF_14.own hF18 (by simp <;> omega)
  have hB5_20 := hB5_15.fr1 hF18 (by omega)
  refine V.nil ?_
  refine V.then_n (hK9 _ _ ?_)
  refine V.flushW ((((hz.put _ _).put _ _).put _ _).put _ _) (fun a21 hz22 up23 => ?_)
  have s0_24 : a21.eval (.tmp 0) = (.string s) := up23 _ _ (at_other rfl _ (at_other rfl _ (at_other rfl _ (at_other rfl _ (s0)))))
  have s2_25 : a21.eval (.tmp 2) = (.pointer (some ⟨b3, 0, none⟩)) := up23 _ _ (at_other rfl _ (at_other rfl _ (at_other rfl _ (at_same hz rfl _))))
  have s4_26 : a21.eval (.tmp 4) = (.pointer (some ⟨b10, 0, none⟩)) := up23 _ _ (at_same (((hz.put _ _).put _ _).put _ _) rfl _)
  clear up23
  refine V.seq (fun K27 hK28 => ?_)
  refine V.region (by kernel_rfl) ?_
  refine V.go (V.asg (v := (.int .i64 0)) evc ?_)
  refine V.nil ?_
  refine V.then_n (hK28 _ _ ?_)
  refine V.seq_cut (fun a_ w_ => ∃ (neg : Bool), ∃ (i0 : Nat), Sz 113 a_ ∧ a_.eval (.tmp 0) = (.string s) ∧ a_.eval (.tmp 2) = (.pointer (some ⟨b3, 0, none⟩)) ∧ a_.eval (.tmp 4) = (.pointer (some ⟨b10, 0, none⟩)) ∧ a_.eval (.tmp 5) = (.int .i64 (i0 : Int)) ∧ Blk w_ b10 [.int .i64 4, .int .u8 0, .bool neg, .slice none 0 0] 42 ∧ Fr [] w w_ ∧ Blk w_ b3 [.int .i64 0, .int .u8 0, .bool false, .slice none 0 0] 42 ∧ ((neg = true ∧ i0 = 1 ∧ 0 < s.size ∧ bi s 0 = 94) ∨ (neg = false ∧ i0 = 0 ∧ (0 < s.size → bi s 0 ≠ 94))) ∧ (i0 ≤ s.size)) ?_ ?_
  ·
    refine V.seq (fun K29 hK30 => ?_)
    refine V.region (by kernel_rfl) ?_
    refine V.go (V.mv (v := (.int .i64 0)) (at_same hz22 rfl _) ?_)
    refine V.go (V.mv (v := (.string s)) (at_other rfl _ (at_other rfl _ (s0_24))) ?_)
    refine V.go (V.pv [(8, .string s)] ⟨(at_same ((hz22.put _ _).put _ _) rfl _), trivial⟩ (by kernel_rfl) (.int .i64 (s.size : Int)) (by kernel_rfl) ?_)
    refine V.go (V.pv [(7, .int .i64 0), (9, .int .i64 (s.size : Int))] ⟨(at_other rfl _ (at_other rfl _ (at_same (hz22.put _ _) rfl _))), (at_same (((hz22.put _ _).put _ _).put _ _) rfl _), trivial⟩ (by kernel_rfl) (.bool (decide (0 < (s.size : Int)))) (by kernel_rfl) ?_)
    refine V.go (V.mv (v := (.bool (decide (0 < (s.size : Int))))) (at_same ((((hz22.put _ _).put _ _).put _ _).put _ _) rfl _) ?_)
    by_cases hg31 : 0 < (s.size : Int)
    ·
      refine V.go_on 11 (by kernel_rfl) (((at_same (((((hz22.put _ _).put _ _).put _ _).put _ _).put _ _) rfl _ : Act.eval _ _ = (.bool (decide (0 < (s.size : Int)))))).trans (dt hg31)) (V.mv (v := (.string s)) (at_other rfl _ (at_other rfl _ (at_other rfl _ (at_other rfl _ (at_other rfl _ (at_other rfl _ (s0_24))))))) ?_)
      refine V.go_on 11 (by kernel_rfl) (((at_other rfl _ (at_same (((((hz22.put _ _).put _ _).put _ _).put _ _).put _ _) rfl _) : Act.eval _ _ = (.bool (decide (0 < (s.size : Int)))))).trans (dt hg31)) (V.mv (v := (.int .i64 0)) (at_other rfl _ (at_other rfl _ (at_other rfl _ (at_other rfl _ (at_other rfl _ (at_other rfl _ (at_same hz22 rfl _))))))) ?_)
      refine V.go_on 11 (by kernel_rfl) (((at_other rfl _ (at_other rfl _ (at_same (((((hz22.put _ _).put _ _).put _ _).put _ _).put _ _) rfl _)) : Act.eval _ _ = (.bool (decide (0 < (s.size : Int)))))).trans (dt hg31)) (V.ixs s .i64 0 (at_other rfl _ (at_same ((((((hz22.put _ _).put _ _).put _ _).put _ _).put _ _).put _ _) rfl _)) (at_same (((((((hz22.put _ _).put _ _).put _ _).put _ _).put _ _).put _ _).put _ _) rfl _) (by omega) (by omega) (by kernel_rfl) ?_)
      have hb32 := byt_lt s (0 : Int)
      refine V.go_on 11 (by kernel_rfl) (((at_other rfl _ (at_other rfl _ (at_other rfl _ (at_same (((((hz22.put _ _).put _ _).put _ _).put _ _).put _ _) rfl _))) : Act.eval _ _ = (.bool (decide (0 < (s.size : Int)))))).trans (dt hg31)) (V.pvw [(14, .int .u8 (bi s (0 : Int)))] ⟨(at_same ((((((((hz22.put _ _).put _ _).put _ _).put _ _).put _ _).put _ _).put _ _).put _ _) rfl _), trivial⟩ (by kernel_rfl) (.bool ((bi s (0 : Int)) == 94)) (.bool (decide ((bi s (0 : Int)) = 94))) (by kernel_rfl) V.t_eql ?_)
      refine V.go (V.pk_t (((at_other rfl _ (at_other rfl _ (at_other rfl _ (at_other rfl _ (at_same (((((hz22.put _ _).put _ _).put _ _).put _ _).put _ _) rfl _)))) : Act.eval _ _ = (.bool (decide (0 < (s.size : Int)))))).trans (dt hg31)) (v := (.bool (decide ((bi s (0 : Int)) = 94)))) (at_same (((((((((hz22.put _ _).put _ _).put _ _).put _ _).put _ _).put _ _).put _ _).put _ _).put _ _) rfl _) ?_)
      refine V.nil ?_
      refine V.then_n (hK30 _ _ ?_)
      refine V.flushW (((((((((((hz22.put _ _).put _ _).put _ _).put _ _).put _ _).put _ _).put _ _).put _ _).put _ _).put _ _).put _ _) (fun a33 hz34 up35 => ?_)
      have s0_36 : a33.eval (.tmp 0) = (.string s) := up35 _ _ (at_other rfl _ (at_other rfl _ (at_other rfl _ (at_other rfl _ (at_other rfl _ (at_other rfl _ (at_other rfl _ (at_other rfl _ (at_other rfl _ (at_other rfl _ (at_other rfl _ (s0_24))))))))))))
      have s2_37 : a33.eval (.tmp 2) = (.pointer (some ⟨b3, 0, none⟩)) := up35 _ _ (at_other rfl _ (at_other rfl _ (at_other rfl _ (at_other rfl _ (at_other rfl _ (at_other rfl _ (at_other rfl _ (at_other rfl _ (at_other rfl _ (at_other rfl _ (at_other rfl _ (s2_25))))))))))))
      have s4_38 : a33.eval (.tmp 4) = (.pointer (some ⟨b10, 0, none⟩)) := up35 _ _ (at_other rfl _ (at_other rfl _ (at_other rfl _ (at_other rfl _ (at_other rfl _ (at_other rfl _ (at_other rfl _ (at_other rfl _ (at_other rfl _ (at_other rfl _ (at_other rfl _ (s4_26))))))))))))
      have s5_39 : a33.eval (.tmp 5) = (.int .i64 0) := up35 _ _ (at_other rfl _ (at_other rfl _ (at_other rfl _ (at_other rfl _ (at_other rfl _ (at_other rfl _ (at_other rfl _ (at_other rfl _ (at_other rfl _ (at_other rfl _ (at_same hz22 rfl _)))))))))))
      have s16_40 : a33.eval (.tmp 16) = (.bool (decide ((bi s (0 : Int)) = 94))) := up35 _ _ (at_same ((((((((((hz22.put _ _).put _ _).put _ _).put _ _).put _ _).put _ _).put _ _).put _ _).put _ _).put _ _) rfl _)
      clear up35
      refine V.condP (p := (bi s (0 : Int)) = 94) (s16_40) (fun ht41 => ?_) (fun ht41 => ?_)
      ·
        refine V.seq (fun K42 hK43 => ?_)
        refine V.region (by kernel_rfl) ?_
        refine V.go (V.pv [(4, .pointer (some ⟨b10, 0, none⟩))] ⟨(s4_38), trivial⟩ (by kernel_rfl) (.pointer (some ⟨b10, 2, none⟩)) (by kernel_rfl) ?_)
        refine V.go (V.stn b10 2 (.bool true) [.bool true] (at_same hz34 rfl _) evc rfl rfl (by kernel_rfl) hB17 (by simp) [.int .i64 4, .int .u8 0, .bool true, .slice none 0 0] rfl ?_)
        intro w44 hB45 hF46 hsw44
        have hF_47 := hF_19.own hF46 (by simp <;> omega)
        have hB5_48 := hB5_20.fr1 hF46 (by omega)
        refine V.nil ?_
        refine V.then_n (hK43 _ _ ?_)
        refine V.region (by kernel_rfl) ?_
        refine V.go (V.mv (v := (.int .i64 0)) (at_other rfl _ (s5_39)) ?_)
        refine V.go (V.pvw [(18, .int .i64 0)] ⟨(at_same (hz34.put _ _) rfl _), trivial⟩ (by kernel_rfl) (.int .i64 (IntKind.i64.wrap (0 + 1))) (.int .i64 (0 + 1)) (by kernel_rfl) (V.w_i64 (by omega) (by omega)) ?_)
        refine V.go (V.asg (v := (.int .i64 (0 + 1))) (at_same ((hz34.put _ _).put _ _) rfl _) ?_)
        refine V.nil ?_
        refine V.then_n ?_
        refine ⟨true, 1, ((((hz34.put _ _).put _ _).put _ _).put _ _), ?_, ?_, ?_, ?_, hB45, hF_47, hB5_48, (.inl ⟨rfl, rfl, by omega, by assumption⟩), (by omega)⟩
        · exact (at_other rfl _ (at_other rfl _ (at_other rfl _ (at_other rfl _ (s0_36)))))
        · exact (at_other rfl _ (at_other rfl _ (at_other rfl _ (at_other rfl _ (s2_37)))))
        · exact (at_other rfl _ (at_other rfl _ (at_other rfl _ (at_other rfl _ (s4_38)))))
        · exact Eq.trans (at_same (((hz34.put _ _).put _ _).put _ _) rfl _) (V.int_eq (by omega))
      ·
        refine V.skip ?_
        refine V.then_n ?_
        refine ⟨false, 0, hz34, ?_, ?_, ?_, ?_, hB17, hF_19, hB5_20, (.inr ⟨rfl, rfl, fun h => by first | assumption | (exfalso; omega)⟩), (by omega)⟩
        · exact (s0_36)
        · exact (s2_37)
        · exact (s4_38)
        · exact Eq.trans (s5_39) (V.int_eq (by omega))
    ·
      refine V.go_off 11 (by kernel_rfl) (((at_same (((((hz22.put _ _).put _ _).put _ _).put _ _).put _ _) rfl _ : Act.eval _ _ = (.bool (decide (0 < (s.size : Int)))))).trans (df hg31)) (by kernel_rfl) ?_
      refine V.go_off 11 (by kernel_rfl) (((at_other rfl _ (at_same (((((hz22.put _ _).put _ _).put _ _).put _ _).put _ _) rfl _) : Act.eval _ _ = (.bool (decide (0 < (s.size : Int)))))).trans (df hg31)) (by kernel_rfl) ?_
      refine V.go_off 11 (by kernel_rfl) (((at_other rfl _ (at_other rfl _ (at_same (((((hz22.put _ _).put _ _).put _ _).put _ _).put _ _) rfl _)) : Act.eval _ _ = (.bool (decide (0 < (s.size : Int)))))).trans (df hg31)) (by kernel_rfl) ?_
      refine V.go_off 11 (by kernel_rfl) (((at_other rfl _ (at_other rfl _ (at_other rfl _ (at_same (((((hz22.put _ _).put _ _).put _ _).put _ _).put _ _) rfl _))) : Act.eval _ _ = (.bool (decide (0 < (s.size : Int)))))).trans (df hg31)) (by kernel_rfl) ?_
      refine V.go (V.pk_f (((at_other rfl _ (at_other rfl _ (at_other rfl _ (at_other rfl _ (at_same (((((hz22.put _ _).put _ _).put _ _).put _ _).put _ _) rfl _)))) : Act.eval _ _ = (.bool (decide (0 < (s.size : Int)))))).trans (df hg31)) (v := (.bool false)) evc ?_)
      refine V.nil ?_
      refine V.then_n (hK30 _ _ ?_)
      refine V.flushW (((((((((((hz22.put _ _).put _ _).put _ _).put _ _).put _ _).put _ _).put _ _).put _ _).put _ _).put _ _).put _ _) (fun a49 hz50 up51 => ?_)
      have s0_52 : a49.eval (.tmp 0) = (.string s) := up51 _ _ (at_other rfl _ (at_other rfl _ (at_other rfl _ (at_other rfl _ (at_other rfl _ (at_other rfl _ (at_other rfl _ (at_other rfl _ (at_other rfl _ (at_other rfl _ (at_other rfl _ (s0_24))))))))))))
      have s2_53 : a49.eval (.tmp 2) = (.pointer (some ⟨b3, 0, none⟩)) := up51 _ _ (at_other rfl _ (at_other rfl _ (at_other rfl _ (at_other rfl _ (at_other rfl _ (at_other rfl _ (at_other rfl _ (at_other rfl _ (at_other rfl _ (at_other rfl _ (at_other rfl _ (s2_25))))))))))))
      have s4_54 : a49.eval (.tmp 4) = (.pointer (some ⟨b10, 0, none⟩)) := up51 _ _ (at_other rfl _ (at_other rfl _ (at_other rfl _ (at_other rfl _ (at_other rfl _ (at_other rfl _ (at_other rfl _ (at_other rfl _ (at_other rfl _ (at_other rfl _ (at_other rfl _ (s4_26))))))))))))
      have s5_55 : a49.eval (.tmp 5) = (.int .i64 0) := up51 _ _ (at_other rfl _ (at_other rfl _ (at_other rfl _ (at_other rfl _ (at_other rfl _ (at_other rfl _ (at_other rfl _ (at_other rfl _ (at_other rfl _ (at_other rfl _ (at_same hz22 rfl _)))))))))))
      have s16_56 : a49.eval (.tmp 16) = (.bool false) := up51 _ _ (at_same ((((((((((hz22.put _ _).put _ _).put _ _).put _ _).put _ _).put _ _).put _ _).put _ _).put _ _).put _ _) rfl _)
      clear up51
      refine V.cond_f (s16_56) ?_
      refine V.skip ?_
      refine V.then_n ?_
      refine ⟨false, 0, hz50, ?_, ?_, ?_, ?_, hB17, hF_19, hB5_20, (.inr ⟨rfl, rfl, fun h => by first | assumption | (exfalso; omega)⟩), (by omega)⟩
      · exact (s0_52)
      · exact (s2_53)
      · exact (s4_54)
      · exact Eq.trans (s5_55) (V.int_eq (by omega))
  ·
    rintro a57 w58 ⟨neg, i0, hz59, s0_60, s2_61, s4_62, s5_63, hB4_64, hF_65, hB5_66, hneg, hi0⟩
    have hlt67 := hB4_64.lt
    have hfs68 := hF_65.size
    have hlt69 := hB5_66.lt
    refine V.seq (fun K70 hK71 => ?_)
    refine V.block ?_
    have hO0 := OwR.nil spanR NoZ w58 (b10 + 1) 54
    refine V.loop4 (fun (k : Nat) (acc : List Span) (A : Option Addr) (c : Nat) a_ w_ => Sz 113 a_ ∧ a_.eval (.tmp 0) = (.string s) ∧ a_.eval (.tmp 2) = (.pointer (some ⟨b3, 0, none⟩)) ∧ a_.eval (.tmp 4) = (.pointer (some ⟨b10, 0, none⟩)) ∧ a_.eval (.tmp 5) = (.int .i64 (k : Int)) ∧ Blk w_ b10 [.int .i64 4, .int .u8 0, .bool neg, .slice A acc.length c] 42 ∧ OwR spanR NoZ w_ (b10 + 1) 54 (.slice A acc.length c) acc ∧ Fr [] w w_ ∧ Blk w_ b3 [.int .i64 0, .int .u8 0, .bool false, .slice none 0 0] 42 ∧ (k ≤ s.size) ∧ (acc.length ≤ k) ∧ (acc ++ (spans ((ints s).drop k)).1 = (spans ((ints s).drop i0)).1 ∧ k + (spans ((ints s).drop k)).2 = i0 + (spans ((ints s).drop i0)).2)) (fun (k : Nat) (acc : List Span) (A : Option Addr) (c : Nat) => s.size - k) i0 ([]) none 0 ?_ ?_
    ·
      refine ⟨hz59, ?_, ?_, ?_, ?_, hB4_64, hO0, hF_65, hB5_66, (by omega), (by simp), ⟨by simp, by omega⟩⟩
      · exact (s0_60)
      · exact (s2_61)
      · exact (s4_62)
      · exact Eq.trans (s5_63) (V.int_eq (by omega))
    ·
      rintro k acc A c a72 w73 ⟨hz74, s0_75, s2_76, s4_77, s5_78, hB4_79, hO_80, hF_81, hB5_82, hk, hacc, hsp⟩
      have hlt83 := hB4_79.lt
      have hfs84 := hF_81.size
      have hlt85 := hB5_82.lt
      have hbk := byt_lt s k
      have hlk := ints_length s
      refine V.seq (fun K86 hK87 => ?_)
      refine V.seq (fun K88 hK89 => ?_)
      refine V.region (by kernel_rfl) ?_
      refine V.go (V.mv (v := (.int .i64 (k : Int))) (s5_78) ?_)
      refine V.go (V.mv (v := (.string s)) (at_other rfl _ (s0_75)) ?_)
      refine V.go (V.pv [(21, .string s)] ⟨(at_same (hz74.put _ _) rfl _), trivial⟩ (by kernel_rfl) (.int .i64 (s.size : Int)) (by kernel_rfl) ?_)
      refine V.go (V.pv [(20, .int .i64 (k : Int)), (22, .int .i64 (s.size : Int))] ⟨(at_other rfl _ (at_other rfl _ (at_same hz74 rfl _))), (at_same ((hz74.put _ _).put _ _) rfl _), trivial⟩ (by kernel_rfl) (.bool (decide ((k : Int) < (s.size : Int)))) (by kernel_rfl) ?_)
      refine V.nil ?_
      refine V.then_n (hK89 _ _ ?_)
      refine V.flushW ((((hz74.put _ _).put _ _).put _ _).put _ _) (fun a90 hz91 up92 => ?_)
      have s0_93 : a90.eval (.tmp 0) = (.string s) := up92 _ _ (at_other rfl _ (at_other rfl _ (at_other rfl _ (at_other rfl _ (s0_75)))))
      have s2_94 : a90.eval (.tmp 2) = (.pointer (some ⟨b3, 0, none⟩)) := up92 _ _ (at_other rfl _ (at_other rfl _ (at_other rfl _ (at_other rfl _ (s2_76)))))
      have s4_95 : a90.eval (.tmp 4) = (.pointer (some ⟨b10, 0, none⟩)) := up92 _ _ (at_other rfl _ (at_other rfl _ (at_other rfl _ (at_other rfl _ (s4_77)))))
      have s5_96 : a90.eval (.tmp 5) = (.int .i64 (k : Int)) := up92 _ _ (at_other rfl _ (at_other rfl _ (at_other rfl _ (at_other rfl _ (s5_78)))))
      have s23_97 : a90.eval (.tmp 23) = (.bool (decide ((k : Int) < (s.size : Int)))) := up92 _ _ (at_same (((hz74.put _ _).put _ _).put _ _) rfl _)
      clear up92
      refine V.condP (p := (k : Int) < (s.size : Int)) (s23_97) (fun ht98 => ?_) (fun ht98 => ?_)
      ·
        refine V.skip ?_
        refine V.then_n (hK87 _ _ ?_)
        refine V.block ?_
        refine V.block ?_
        refine V.seq (fun K99 hK100 => ?_)
        refine V.region (by kernel_rfl) ?_
        refine V.go (V.mv (v := (.string s)) (s0_93) ?_)
        refine V.go (V.mv (v := (.int .i64 (k : Int))) (at_other rfl _ (s5_96)) ?_)
        refine V.go (V.ixs s .i64 (k : Int) (at_other rfl _ (at_same hz91 rfl _)) (at_same (hz91.put _ _) rfl _) (by omega) (by omega) (by kernel_rfl) ?_)
        have hb101 := byt_lt s (k : Int)
        refine V.go (V.pvw [(41, .int .u8 (bi s (k : Int)))] ⟨(at_same ((hz91.put _ _).put _ _) rfl _), trivial⟩ (by kernel_rfl) (.bool ((bi s (k : Int)) == 93)) (.bool (decide ((bi s (k : Int)) = 93))) (by kernel_rfl) V.t_eql ?_)
        refine V.go (V.asg (v := (.bool (decide ((bi s (k : Int)) = 93)))) (at_same (((hz91.put _ _).put _ _).put _ _) rfl _) ?_)
        refine V.nil ?_
        refine V.then_n (hK100 _ _ ?_)
        refine V.flushW (((((hz91.put _ _).put _ _).put _ _).put _ _).put _ _) (fun a102 hz103 up104 => ?_)
        have s0_105 : a102.eval (.tmp 0) = (.string s) := up104 _ _ (at_other rfl _ (at_other rfl _ (at_other rfl _ (at_other rfl _ (at_other rfl _ (s0_93))))))
        have s2_106 : a102.eval (.tmp 2) = (.pointer (some ⟨b3, 0, none⟩)) := up104 _ _ (at_other rfl _ (at_other rfl _ (at_other rfl _ (at_other rfl _ (at_other rfl _ (s2_94))))))
        have s4_107 : a102.eval (.tmp 4) = (.pointer (some ⟨b10, 0, none⟩)) := up104 _ _ (at_other rfl _ (at_other rfl _ (at_other rfl _ (at_other rfl _ (at_other rfl _ (s4_95))))))
        have s5_108 : a102.eval (.tmp 5) = (.int .i64 (k : Int)) := up104 _ _ (at_other rfl _ (at_other rfl _ (at_other rfl _ (at_other rfl _ (at_other rfl _ (s5_96))))))
        have s38_109 : a102.eval (.tmp 38) = (.bool (decide ((bi s (k : Int)) = 93))) := up104 _ _ (at_same ((((hz91.put _ _).put _ _).put _ _).put _ _) rfl _)
        clear up104
        refine V.condP (p := (bi s (k : Int)) = 93) (s38_109) (fun ht110 => ?_) (fun ht110 => ?_)
        ·
          refine V.seq (fun K111 hK112 => ?_)
          refine V.region (by kernel_rfl) ?_
          refine V.go (V.lds ⟨b10, 0, none⟩ [.int .i64 4, .int .u8 0, .bool neg, .slice A acc.length c] (s4_107) (by kernel_rfl) (blk_cells hB4_79 0 _ rfl) ?_)
          refine V.go (V.mv (v := (.int .i64 (k : Int))) (at_other rfl _ (s5_108)) ?_)
          refine V.go (V.pvw [(44, .int .i64 (k : Int))] ⟨(at_same (hz103.put _ _) rfl _), trivial⟩ (by kernel_rfl) (.int .i64 (IntKind.i64.wrap ((k : Int) + 1))) (.int .i64 ((k : Int) + 1)) (by kernel_rfl) (V.w_i64 (by omega) (by omega)) ?_)
          refine V.go (V.stn b3 0 (.agg #[.int .i64 4, .int .u8 0, .bool neg, .slice A acc.length c]) [.int .i64 4, .int .u8 0, .bool neg, .slice A acc.length c] (at_other rfl _ (at_other rfl _ (at_other rfl _ (s2_106)))) (at_other rfl _ (at_other rfl _ (at_same hz103 rfl _))) rfl rfl (by kernel_rfl) hB5_82 (by simp) [.int .i64 4, .int .u8 0, .bool neg, .slice A acc.length c] rfl ?_)
          intro w113 hB114 hF115 hsw113
          have hB4_116 := hB4_79.fr1 hF115 (by omega)
          have hO_117 := hO_80.frn hF115 (fun h => h) (by first | exact own_ne hO_80 (by omega) | exact own_ne2 hO_80 (by omega))
          have hF_118 := hF_81.own hF115 (by simp <;> omega)
          refine V.go (V.asg (v := (.int .i64 ((k : Int) + 1))) (at_same ((hz103.put _ _).put _ _) rfl _) ?_)
          refine V.nil ?_
          refine V.then_n (hK112 _ _ ?_)
          refine V.flushW ((((hz103.put _ _).put _ _).put _ _).put _ _) (fun a119 hz120 up121 => ?_)
          have s0_122 : a119.eval (.tmp 0) = (.string s) := up121 _ _ (at_other rfl _ (at_other rfl _ (at_other rfl _ (at_other rfl _ (s0_105)))))
          have s2_123 : a119.eval (.tmp 2) = (.pointer (some ⟨b3, 0, none⟩)) := up121 _ _ (at_other rfl _ (at_other rfl _ (at_other rfl _ (at_other rfl _ (s2_106)))))
          have s3_124 : a119.eval (.tmp 3) = (.int .i64 ((k : Int) + 1)) := up121 _ _ (at_same (((hz103.put _ _).put _ _).put _ _) rfl _)
          have s4_125 : a119.eval (.tmp 4) = (.pointer (some ⟨b10, 0, none⟩)) := up121 _ _ (at_other rfl _ (at_other rfl _ (at_other rfl _ (at_other rfl _ (s4_107)))))
          have s5_126 : a119.eval (.tmp 5) = (.int .i64 (k : Int)) := up121 _ _ (at_other rfl _ (at_other rfl _ (at_other rfl _ (at_other rfl _ (s5_108)))))
          clear up121
          refine V.ret ?_
          refine V.blk_r ?_
          refine V.blk_r ?_
          refine V.then_r ?_
          refine V.blk_r ?_
          refine V.then_r ?_
          refine V.retCT hz120 rfl _ (s2_123) (V.run_loadVar_agg (cs := [.int .i64 4, .int .u8 0, .bool neg, .slice A acc.length c]) (by kernel_rfl) (blk_cells hB114 0 _ rfl)) (s3_124) ?_
          rw [sp_close (s := s) (k := k) (by omega) (by omega)] at hsp
          have hc := cls_at (s := s) neg i0 hneg
          obtain ⟨hsp1, hsp2⟩ := hsp
          simp only [List.append_nil] at hsp1
          refine ⟨A, c, ?_, ?_, hF_118⟩
          · rw [hc, ← hsp1]; exact congrArg Ending.returned (congrArg Value.tuple (by simp only [Array.mk.injEq, List.cons.injEq, Value.int.injEq, and_true, true_and] <;> omega))
          · rw [hc, ← hsp1]; exact (hO_117.read (fun _ _ h => h.elim) (fun b hb _ => by omega))
        ·
          refine V.seq (fun K127 hK128 => ?_)
          refine V.region (by kernel_rfl) ?_
          refine V.go (V.mv (v := (.string s)) (s0_105) ?_)
          refine V.go (V.mv (v := (.int .i64 (k : Int))) (at_other rfl _ (s5_108)) ?_)
          refine V.go (V.ixs s .i64 (k : Int) (at_other rfl _ (at_same hz103 rfl _)) (at_same (hz103.put _ _) rfl _) (by omega) (by omega) (by kernel_rfl) ?_)
          have hb129 := byt_lt s (k : Int)
          refine V.go (V.pvw [(49, .int .u8 (bi s (k : Int)))] ⟨(at_same ((hz103.put _ _).put _ _) rfl _), trivial⟩ (by kernel_rfl) (.bool ((bi s (k : Int)) == 92)) (.bool (decide ((bi s (k : Int)) = 92))) (by kernel_rfl) V.t_eql ?_)
          refine V.go (V.mv (v := (.bool (decide ((bi s (k : Int)) = 92)))) (at_same (((hz103.put _ _).put _ _).put _ _) rfl _) ?_)
          by_cases hg130 : (bi s (k : Int)) = 92
          ·
            refine V.go_on 51 (by kernel_rfl) (((at_same ((((hz103.put _ _).put _ _).put _ _).put _ _) rfl _ : Act.eval _ _ = (.bool (decide ((bi s (k : Int)) = 92))))).trans (dt hg130)) (V.mv (v := (.int .i64 (k : Int))) (at_other rfl _ (at_other rfl _ (at_other rfl _ (at_other rfl _ (at_other rfl _ (s5_108)))))) ?_)
            refine V.go_on 51 (by kernel_rfl) (((at_other rfl _ (at_same ((((hz103.put _ _).put _ _).put _ _).put _ _) rfl _) : Act.eval _ _ = (.bool (decide ((bi s (k : Int)) = 92))))).trans (dt hg130)) (V.pvw [(52, .int .i64 (k : Int))] ⟨(at_same (((((hz103.put _ _).put _ _).put _ _).put _ _).put _ _) rfl _), trivial⟩ (by kernel_rfl) (.int .i64 (IntKind.i64.wrap ((k : Int) + 1))) (.int .i64 ((k : Int) + 1)) (by kernel_rfl) (V.w_i64 (by omega) (by omega)) ?_)
            refine V.go_on 51 (by kernel_rfl) (((at_other rfl _ (at_other rfl _ (at_same ((((hz103.put _ _).put _ _).put _ _).put _ _) rfl _)) : Act.eval _ _ = (.bool (decide ((bi s (k : Int)) = 92))))).trans (dt hg130)) (V.mv (v := (.string s)) (at_other rfl _ (at_other rfl _ (at_other rfl _ (at_other rfl _ (at_other rfl _ (at_other rfl _ (at_other rfl _ (s0_105)))))))) ?_)
            refine V.go_on 51 (by kernel_rfl) (((at_other rfl _ (at_other rfl _ (at_other rfl _ (at_same ((((hz103.put _ _).put _ _).put _ _).put _ _) rfl _))) : Act.eval _ _ = (.bool (decide ((bi s (k : Int)) = 92))))).trans (dt hg130)) (V.pv [(54, .string s)] ⟨(at_same (((((((hz103.put _ _).put _ _).put _ _).put _ _).put _ _).put _ _).put _ _) rfl _), trivial⟩ (by kernel_rfl) (.int .i64 (s.size : Int)) (by kernel_rfl) ?_)
            refine V.go_on 51 (by kernel_rfl) (((at_other rfl _ (at_other rfl _ (at_other rfl _ (at_other rfl _ (at_same ((((hz103.put _ _).put _ _).put _ _).put _ _) rfl _)))) : Act.eval _ _ = (.bool (decide ((bi s (k : Int)) = 92))))).trans (dt hg130)) (V.pv [(53, .int .i64 ((k : Int) + 1)), (55, .int .i64 (s.size : Int))] ⟨(at_other rfl _ (at_other rfl _ (at_same ((((((hz103.put _ _).put _ _).put _ _).put _ _).put _ _).put _ _) rfl _))), (at_same ((((((((hz103.put _ _).put _ _).put _ _).put _ _).put _ _).put _ _).put _ _).put _ _) rfl _), trivial⟩ (by kernel_rfl) (.bool (decide (((k : Int) + 1) < (s.size : Int)))) (by kernel_rfl) ?_)
            refine V.go (V.pk_t (((at_other rfl _ (at_other rfl _ (at_other rfl _ (at_other rfl _ (at_other rfl _ (at_same ((((hz103.put _ _).put _ _).put _ _).put _ _) rfl _))))) : Act.eval _ _ = (.bool (decide ((bi s (k : Int)) = 92))))).trans (dt hg130)) (v := (.bool (decide (((k : Int) + 1) < (s.size : Int))))) (at_same (((((((((hz103.put _ _).put _ _).put _ _).put _ _).put _ _).put _ _).put _ _).put _ _).put _ _) rfl _) ?_)
            refine V.go (V.asg (v := (.bool (decide (((k : Int) + 1) < (s.size : Int))))) (at_same ((((((((((hz103.put _ _).put _ _).put _ _).put _ _).put _ _).put _ _).put _ _).put _ _).put _ _).put _ _) rfl _) ?_)
            refine V.nil ?_
            refine V.then_n (hK128 _ _ ?_)
            refine V.flushW ((((((((((((hz103.put _ _).put _ _).put _ _).put _ _).put _ _).put _ _).put _ _).put _ _).put _ _).put _ _).put _ _).put _ _) (fun a131 hz132 up133 => ?_)
            have s0_134 : a131.eval (.tmp 0) = (.string s) := up133 _ _ (at_other rfl _ (at_other rfl _ (at_other rfl _ (at_other rfl _ (at_other rfl _ (at_other rfl _ (at_other rfl _ (at_other rfl _ (at_other rfl _ (at_other rfl _ (at_other rfl _ (at_other rfl _ (s0_105)))))))))))))
            have s2_135 : a131.eval (.tmp 2) = (.pointer (some ⟨b3, 0, none⟩)) := up133 _ _ (at_other rfl _ (at_other rfl _ (at_other rfl _ (at_other rfl _ (at_other rfl _ (at_other rfl _ (at_other rfl _ (at_other rfl _ (at_other rfl _ (at_other rfl _ (at_other rfl _ (at_other rfl _ (s2_106)))))))))))))
            have s4_136 : a131.eval (.tmp 4) = (.pointer (some ⟨b10, 0, none⟩)) := up133 _ _ (at_other rfl _ (at_other rfl _ (at_other rfl _ (at_other rfl _ (at_other rfl _ (at_other rfl _ (at_other rfl _ (at_other rfl _ (at_other rfl _ (at_other rfl _ (at_other rfl _ (at_other rfl _ (s4_107)))))))))))))
            have s5_137 : a131.eval (.tmp 5) = (.int .i64 (k : Int)) := up133 _ _ (at_other rfl _ (at_other rfl _ (at_other rfl _ (at_other rfl _ (at_other rfl _ (at_other rfl _ (at_other rfl _ (at_other rfl _ (at_other rfl _ (at_other rfl _ (at_other rfl _ (at_other rfl _ (s5_108)))))))))))))
            have s46_138 : a131.eval (.tmp 46) = (.bool (decide (((k : Int) + 1) < (s.size : Int)))) := up133 _ _ (at_same (((((((((((hz103.put _ _).put _ _).put _ _).put _ _).put _ _).put _ _).put _ _).put _ _).put _ _).put _ _).put _ _) rfl _)
            clear up133
            refine V.condP (p := ((k : Int) + 1) < (s.size : Int)) (s46_138) (fun ht139 => ?_) (fun ht139 => ?_)
            ·
              refine V.seq (fun K140 hK141 => ?_)
              refine V.plan [[], [0], [], [], [3], [2, 3, 4], [], [], [7], [6, 7, 8], [2, 3, 4, 5, 6, 7, 8, 9], [2, 3, 4, 5, 6, 7, 8, 9, 10], [0, 1, 2, 3, 4, 5, 6, 7, 8, 9, 10, 11], [0, 1, 2, 3, 4, 5, 6, 7, 8, 9, 10, 11, 12], [0, 1, 2, 3, 4, 5, 6, 7, 8, 9, 10, 11, 12, 13]] [([0, 1, 2, 3, 4, 5, 6, 7, 8, 9, 10], some (11, [1])), ([], some (12, [])), ([13], some (14, [])), ([], none)] (by kernel_rfl) (by kernel_rfl) (by exact fun _ _ _ _ h => h) ?_
              simp only [Plan.wpSegs, Plan.pickAll, Plan.nth, V.L_eq]
              obtain ⟨w142, hF143e⟩ : ∃ w1, w1 = w73.drew := ⟨_, rfl⟩
              rw [← hF143e]
              have hF143 : Fr [] w73 w142 := by rw [hF143e]; exact Fr.drew _ _
              have hsw142 : w142.heap.size = w73.heap.size := by rw [hF143e]; rfl
              clear hF143e
              have hB4_144 := hB4_79.fr0 hF143
              have hO_145 := hO_80.fr0 hF143
              have hF_146 := hF_81.new hF143
              have hB5_147 := hB5_82.fr0 hF143
              refine V.go (V.pv [(4, .pointer (some ⟨b10, 0, none⟩))] ⟨(s4_136), trivial⟩ (by kernel_rfl) (.pointer (some ⟨b10, 3, none⟩)) (by kernel_rfl) ?_)
              refine V.go (V.ld ⟨b10, 3, none⟩ (.slice A acc.length c) (at_same hz132 rfl _) (by kernel_rfl) (hB4_144.at 3 rfl) ?_)
              refine V.go (V.mv (v := (.string s)) (at_other rfl _ (at_other rfl _ (s0_134))) ?_)
              refine V.go (V.mv (v := (.int .i64 (k : Int))) (at_other rfl _ (at_other rfl _ (at_other rfl _ (s5_137)))) ?_)
              refine V.go (V.pvw [(61, .int .i64 (k : Int))] ⟨(at_same (((hz132.put _ _).put _ _).put _ _) rfl _), trivial⟩ (by kernel_rfl) (.int .i64 (IntKind.i64.wrap ((k : Int) + 1))) (.int .i64 ((k : Int) + 1)) (by kernel_rfl) (V.w_i64 (by omega) (by omega)) ?_)
              refine V.go (V.ixs s .i64 ((k : Int) + 1) (at_other rfl _ (at_other rfl _ (at_same ((hz132.put _ _).put _ _) rfl _))) (at_same ((((hz132.put _ _).put _ _).put _ _).put _ _) rfl _) (by omega) (by omega) (by kernel_rfl) ?_)
              have hb148 := byt_lt s ((k : Int) + 1)
              refine V.go (V.mv (v := (.string s)) (at_other rfl _ (at_other rfl _ (at_other rfl _ (at_other rfl _ (at_other rfl _ (at_other rfl _ (s0_134))))))) ?_)
              refine V.go (V.mv (v := (.int .i64 (k : Int))) (at_other rfl _ (at_other rfl _ (at_other rfl _ (at_other rfl _ (at_other rfl _ (at_other rfl _ (at_other rfl _ (s5_137)))))))) ?_)
              refine V.go (V.pvw [(65, .int .i64 (k : Int))] ⟨(at_same (((((((hz132.put _ _).put _ _).put _ _).put _ _).put _ _).put _ _).put _ _) rfl _), trivial⟩ (by kernel_rfl) (.int .i64 (IntKind.i64.wrap ((k : Int) + 1))) (.int .i64 ((k : Int) + 1)) (by kernel_rfl) (V.w_i64 (by omega) (by omega)) ?_)
              refine V.go (V.ixs s .i64 ((k : Int) + 1) (at_other rfl _ (at_other rfl _ (at_same ((((((hz132.put _ _).put _ _).put _ _).put _ _).put _ _).put _ _) rfl _))) (at_same ((((((((hz132.put _ _).put _ _).put _ _).put _ _).put _ _).put _ _).put _ _).put _ _) rfl _) (by omega) (by omega) (by kernel_rfl) ?_)
              have hb149 := byt_lt s ((k : Int) + 1)
              refine V.go (V.pv [(63, .int .u8 (bi s ((k : Int) + 1))), (67, .int .u8 (bi s ((k : Int) + 1)))] ⟨(at_other rfl _ (at_other rfl _ (at_other rfl _ (at_other rfl _ (at_same (((((hz132.put _ _).put _ _).put _ _).put _ _).put _ _) rfl _))))), (at_same (((((((((hz132.put _ _).put _ _).put _ _).put _ _).put _ _).put _ _).put _ _).put _ _).put _ _) rfl _), trivial⟩ (by kernel_rfl) (.agg #[.int .u8 (bi s ((k : Int) + 1)), .int .u8 (bi s ((k : Int) + 1))]) (by kernel_rfl) ?_)
              refine V.nil ?_
              refine ⟨chk [(61, .int .i64 (k : Int)), (65, .int .i64 (k : Int))] ⟨(at_other rfl _ (at_other rfl _ (at_other rfl _ (at_other rfl _ (at_other rfl _ (at_other rfl _ (at_other rfl _ (at_same (((hz132.put _ _).put _ _).put _ _) rfl _)))))))), (at_other rfl _ (at_other rfl _ (at_other rfl _ (at_same (((((((hz132.put _ _).put _ _).put _ _).put _ _).put _ _).put _ _).put _ _) rfl _)))), trivial⟩ (by kernel_rfl), ?_⟩
              refine V.go (V.mk [(68, .agg #[.int .u8 (bi s ((k : Int) + 1)), .int .u8 (bi s ((k : Int) + 1))])] ⟨(at_same ((((((((((hz132.put _ _).put _ _).put _ _).put _ _).put _ _).put _ _).put _ _).put _ _).put _ _).put _ _) rfl _), trivial⟩ (by kernel_rfl) [.int .u8 (bi s ((k : Int) + 1)), .int .u8 (bi s ((k : Int) + 1))] 54 (fun b => .slice (some ⟨b, 0, none⟩) 1 1) (by kernel_rfl) ?_)
              intro w151 b150 heb150 hB152 hF153 hsb150
              have hB4_154 := hB4_144.fr0 hF153
              have hO_155 := hO_145.fr0 hF153
              have hF_156 := hF_146.new hF153
              have hB5_157 := hB5_147.fr0 hF153
              refine V.nil ?_
              refine ⟨(fun _ => held_blk (n := 1) (hx := (at_other rfl _ (at_other rfl _ (at_other rfl _ (at_other rfl _ (at_other rfl _ (at_other rfl _ (at_other rfl _ (at_other rfl _ (at_other rfl _ (at_other rfl _ (at_same hz132 rfl _)))))))))))) hB4_144 hB4_154 (by kernel_rfl) rfl (by simp only [List.length]; omega)), ?_⟩
              refine V.nil ?_
              refine ⟨chk [] trivial (by kernel_rfl), ?_⟩
              refine V.go (V.app (R := spanR) (ys := ([⟨bi s ((k : Int) + 1), bi s ((k : Int) + 1)⟩])) (news := [.int .u8 (bi s ((k : Int) + 1)), .int .u8 (bi s ((k : Int) + 1))]) (at_other rfl _ (at_other rfl _ (at_other rfl _ (at_other rfl _ (at_other rfl _ (at_other rfl _ (at_other rfl _ (at_other rfl _ (at_other rfl _ (at_other rfl _ (at_same (hz132.put _ _) rfl _))))))))))) ⟨b150, 0, none⟩ 1 1 (at_same (((((((((((hz132.put _ _).put _ _).put _ _).put _ _).put _ _).put _ _).put _ _).put _ _).put _ _).put _ _).put _ _) rfl _) (by kernel_rfl) (info54) (by kernel_rfl) (by decide) hO_155 rfl ⟨[.int .u8 (bi s ((k : Int) + 1)), .int .u8 (bi s ((k : Int) + 1))], [], rfl, rfl, rfl⟩ (blk_cells hB152 0 _ rfl) (by omega) (by decide) (by omega) ?_)
              intro A158 c159 w160 hO161z hF162 hatw160
              have hsw160 := hF162.size
              have hB4_163 := hB4_154.fr hF162 (by first | exact own_notin hO_155 (by omega) | exact own_notin2 hO_80 (by omega))
              have hF_164 := hF_156.own hF162 (own_ge hO_155 (by omega))
              have hB5_165 := hB5_157.fr hF162 (by first | exact own_notin hO_155 (by omega) | exact own_notin2 hO_80 (by omega))
              have hO161 := hO161z.zone (Z' := NoZ) (fun _ _ q => q.1) (fun _ _ q => q)
              refine V.nil ?_
              refine ⟨trivial, ?_⟩
              refine V.go (V.pv [(4, .pointer (some ⟨b10, 0, none⟩))] ⟨(at_other rfl _ (at_other rfl _ (at_other rfl _ (at_other rfl _ (at_other rfl _ (at_other rfl _ (at_other rfl _ (at_other rfl _ (at_other rfl _ (at_other rfl _ (at_other rfl _ (at_other rfl _ (at_other rfl _ (s4_136)))))))))))))), trivial⟩ (by kernel_rfl) (.pointer (some ⟨b10, 3, none⟩)) (by kernel_rfl) ?_)
              refine V.nil ?_
              refine ⟨chk [] trivial (by kernel_rfl), ?_⟩
              refine V.go (V.stn b10 3 (.slice A158 (acc.length + 1) c159) [.slice A158 (acc.length + 1) c159] (at_same (((((((((((((hz132.put _ _).put _ _).put _ _).put _ _).put _ _).put _ _).put _ _).put _ _).put _ _).put _ _).put _ _).put _ _).put _ _) rfl _) (at_other rfl _ (at_same ((((((((((((hz132.put _ _).put _ _).put _ _).put _ _).put _ _).put _ _).put _ _).put _ _).put _ _).put _ _).put _ _).put _ _) rfl _)) rfl rfl (by kernel_rfl) hB4_163 (by simp) [.int .i64 4, .int .u8 0, .bool neg, .slice A158 (acc.length + 1) c159] rfl ?_)
              intro w166 hB167 hF168 hsw166
              have hF_169 := hF_164.own hF168 (by simp <;> omega)
              have hB5_170 := hB5_165.fr1 hF168 (by omega)
              have hO161_171 := hO161.frn hF168 (fun h => h) (by first | exact own_ne hO161 (by omega) | exact own_ne2 hO161 (by omega))
              refine V.nil ?_
              refine ⟨trivial, ?_⟩
              refine V.nil ?_
              refine ⟨chk [] trivial (by kernel_rfl), ?_⟩
              refine V.then_n (hK141 _ _ ?_)
              refine V.flushW ((((((((((((((hz132.put _ _).put _ _).put _ _).put _ _).put _ _).put _ _).put _ _).put _ _).put _ _).put _ _).put _ _).put _ _).put _ _).put _ _) (fun a172 hz173 up174 => ?_)
              have s0_175 : a172.eval (.tmp 0) = (.string s) := up174 _ _ (at_other rfl _ (at_other rfl _ (at_other rfl _ (at_other rfl _ (at_other rfl _ (at_other rfl _ (at_other rfl _ (at_other rfl _ (at_other rfl _ (at_other rfl _ (at_other rfl _ (at_other rfl _ (at_other rfl _ (at_other rfl _ (s0_134)))))))))))))))
              have s2_176 : a172.eval (.tmp 2) = (.pointer (some ⟨b3, 0, none⟩)) := up174 _ _ (at_other rfl _ (at_other rfl _ (at_other rfl _ (at_other rfl _ (at_other rfl _ (at_other rfl _ (at_other rfl _ (at_other rfl _ (at_other rfl _ (at_other rfl _ (at_other rfl _ (at_other rfl _ (at_other rfl _ (at_other rfl _ (s2_135)))))))))))))))
              have s4_177 : a172.eval (.tmp 4) = (.pointer (some ⟨b10, 0, none⟩)) := up174 _ _ (at_other rfl _ (at_other rfl _ (at_other rfl _ (at_other rfl _ (at_other rfl _ (at_other rfl _ (at_other rfl _ (at_other rfl _ (at_other rfl _ (at_other rfl _ (at_other rfl _ (at_other rfl _ (at_other rfl _ (at_other rfl _ (s4_136)))))))))))))))
              have s5_178 : a172.eval (.tmp 5) = (.int .i64 (k : Int)) := up174 _ _ (at_other rfl _ (at_other rfl _ (at_other rfl _ (at_other rfl _ (at_other rfl _ (at_other rfl _ (at_other rfl _ (at_other rfl _ (at_other rfl _ (at_other rfl _ (at_other rfl _ (at_other rfl _ (at_other rfl _ (at_other rfl _ (s5_137)))))))))))))))
              clear up174
              refine V.region (by kernel_rfl) ?_
              refine V.go (V.mv (v := (.int .i64 (k : Int))) (s5_178) ?_)
              refine V.go (V.pvw [(72, .int .i64 (k : Int))] ⟨(at_same hz173 rfl _), trivial⟩ (by kernel_rfl) (.int .i64 (IntKind.i64.wrap ((k : Int) + 2))) (.int .i64 ((k : Int) + 2)) (by kernel_rfl) (V.w_i64 (by omega) (by omega)) ?_)
              refine V.go (V.asg (v := (.int .i64 ((k : Int) + 2))) (at_same (hz173.put _ _) rfl _) ?_)
              refine V.nil ?_
              refine V.blk_n ?_
              refine V.blk_n ?_
              refine V.then_n ?_
              have hstep := sp_esc (s := s) (k := k) (by omega) (by omega)
              rw [hstep] at hsp
              refine ⟨k + 2, acc ++ [⟨bi s ((k : Int) + 1), bi s ((k : Int) + 1)⟩], A158, c159, by omega, ?_⟩
              refine ⟨(((hz173.put _ _).put _ _).put _ _), ?_, ?_, ?_, ?_, (by simpa using hB167), (by simpa using hO161_171), hF_169, hB5_170, (by omega), (by simp; omega), ⟨by simpa using hsp.1, by have := hsp.2; simp only [] at this; omega⟩⟩
              · exact (at_other rfl _ (at_other rfl _ (at_other rfl _ (s0_175))))
              · exact (at_other rfl _ (at_other rfl _ (at_other rfl _ (s2_176))))
              · exact (at_other rfl _ (at_other rfl _ (at_other rfl _ (s4_177))))
              · exact Eq.trans (at_same ((hz173.put _ _).put _ _) rfl _) (V.int_eq (by omega))
            ·
              refine V.seq (fun K179 hK180 => ?_)
              refine V.region (by kernel_rfl) ?_
              refine V.go (V.mv (v := (.int .i64 (k : Int))) (s5_137) ?_)
              refine V.go (V.pvw [(75, .int .i64 (k : Int))] ⟨(at_same hz132 rfl _), trivial⟩ (by kernel_rfl) (.int .i64 (IntKind.i64.wrap ((k : Int) + 2))) (.int .i64 ((k : Int) + 2)) (by kernel_rfl) (V.w_i64 (by omega) (by omega)) ?_)
              refine V.go (V.mv (v := (.string s)) (at_other rfl _ (at_other rfl _ (s0_134))) ?_)
              refine V.go (V.pv [(77, .string s)] ⟨(at_same ((hz132.put _ _).put _ _) rfl _), trivial⟩ (by kernel_rfl) (.int .i64 (s.size : Int)) (by kernel_rfl) ?_)
              refine V.go (V.pv [(76, .int .i64 ((k : Int) + 2)), (78, .int .i64 (s.size : Int))] ⟨(at_other rfl _ (at_other rfl _ (at_same (hz132.put _ _) rfl _))), (at_same (((hz132.put _ _).put _ _).put _ _) rfl _), trivial⟩ (by kernel_rfl) (.bool (decide (((k : Int) + 2) < (s.size : Int)))) (by kernel_rfl) ?_)
              refine V.go (V.mv (v := (.bool (decide (((k : Int) + 2) < (s.size : Int))))) (at_same ((((hz132.put _ _).put _ _).put _ _).put _ _) rfl _) ?_)
              by_cases hg181 : ((k : Int) + 2) < (s.size : Int)
              ·
                refine V.go_on 80 (by kernel_rfl) (((at_same (((((hz132.put _ _).put _ _).put _ _).put _ _).put _ _) rfl _ : Act.eval _ _ = (.bool (decide (((k : Int) + 2) < (s.size : Int)))))).trans (dt hg181)) (V.mv (v := (.string s)) (at_other rfl _ (at_other rfl _ (at_other rfl _ (at_other rfl _ (at_other rfl _ (at_other rfl _ (s0_134))))))) ?_)
                refine V.go_on 80 (by kernel_rfl) (((at_other rfl _ (at_same (((((hz132.put _ _).put _ _).put _ _).put _ _).put _ _) rfl _) : Act.eval _ _ = (.bool (decide (((k : Int) + 2) < (s.size : Int)))))).trans (dt hg181)) (V.mv (v := (.int .i64 (k : Int))) (at_other rfl _ (at_other rfl _ (at_other rfl _ (at_other rfl _ (at_other rfl _ (at_other rfl _ (at_other rfl _ (s5_137)))))))) ?_)
                refine V.go_on 80 (by kernel_rfl) (((at_other rfl _ (at_other rfl _ (at_same (((((hz132.put _ _).put _ _).put _ _).put _ _).put _ _) rfl _)) : Act.eval _ _ = (.bool (decide (((k : Int) + 2) < (s.size : Int)))))).trans (dt hg181)) (V.pvw [(82, .int .i64 (k : Int))] ⟨(at_same (((((((hz132.put _ _).put _ _).put _ _).put _ _).put _ _).put _ _).put _ _) rfl _), trivial⟩ (by kernel_rfl) (.int .i64 (IntKind.i64.wrap ((k : Int) + 1))) (.int .i64 ((k : Int) + 1)) (by kernel_rfl) (V.w_i64 (by omega) (by omega)) ?_)
                refine V.go_on 80 (by kernel_rfl) (((at_other rfl _ (at_other rfl _ (at_other rfl _ (at_same (((((hz132.put _ _).put _ _).put _ _).put _ _).put _ _) rfl _))) : Act.eval _ _ = (.bool (decide (((k : Int) + 2) < (s.size : Int)))))).trans (dt hg181)) (V.ixs s .i64 ((k : Int) + 1) (at_other rfl _ (at_other rfl _ (at_same ((((((hz132.put _ _).put _ _).put _ _).put _ _).put _ _).put _ _) rfl _))) (at_same ((((((((hz132.put _ _).put _ _).put _ _).put _ _).put _ _).put _ _).put _ _).put _ _) rfl _) (by omega) (by omega) (by kernel_rfl) ?_)
                have hb182 := byt_lt s ((k : Int) + 1)
                refine V.go_on 80 (by kernel_rfl) (((at_other rfl _ (at_other rfl _ (at_other rfl _ (at_other rfl _ (at_same (((((hz132.put _ _).put _ _).put _ _).put _ _).put _ _) rfl _)))) : Act.eval _ _ = (.bool (decide (((k : Int) + 2) < (s.size : Int)))))).trans (dt hg181)) (V.pvw [(84, .int .u8 (bi s ((k : Int) + 1)))] ⟨(at_same (((((((((hz132.put _ _).put _ _).put _ _).put _ _).put _ _).put _ _).put _ _).put _ _).put _ _) rfl _), trivial⟩ (by kernel_rfl) (.bool ((bi s ((k : Int) + 1)) == 45)) (.bool (decide ((bi s ((k : Int) + 1)) = 45))) (by kernel_rfl) V.t_eql ?_)
                refine V.go (V.pk_t (((at_other rfl _ (at_other rfl _ (at_other rfl _ (at_other rfl _ (at_other rfl _ (at_same (((((hz132.put _ _).put _ _).put _ _).put _ _).put _ _) rfl _))))) : Act.eval _ _ = (.bool (decide (((k : Int) + 2) < (s.size : Int)))))).trans (dt hg181)) (v := (.bool (decide ((bi s ((k : Int) + 1)) = 45)))) (at_same ((((((((((hz132.put _ _).put _ _).put _ _).put _ _).put _ _).put _ _).put _ _).put _ _).put _ _).put _ _) rfl _) ?_)
                refine V.go (V.asg (v := (.bool (decide ((bi s ((k : Int) + 1)) = 45)))) (at_same (((((((((((hz132.put _ _).put _ _).put _ _).put _ _).put _ _).put _ _).put _ _).put _ _).put _ _).put _ _).put _ _) rfl _) ?_)
                refine V.nil ?_
                refine V.then_n (hK180 _ _ ?_)
                refine V.flushW (((((((((((((hz132.put _ _).put _ _).put _ _).put _ _).put _ _).put _ _).put _ _).put _ _).put _ _).put _ _).put _ _).put _ _).put _ _) (fun a183 hz184 up185 => ?_)
                have s0_186 : a183.eval (.tmp 0) = (.string s) := up185 _ _ (at_other rfl _ (at_other rfl _ (at_other rfl _ (at_other rfl _ (at_other rfl _ (at_other rfl _ (at_other rfl _ (at_other rfl _ (at_other rfl _ (at_other rfl _ (at_other rfl _ (at_other rfl _ (at_other rfl _ (s0_134))))))))))))))
                have s2_187 : a183.eval (.tmp 2) = (.pointer (some ⟨b3, 0, none⟩)) := up185 _ _ (at_other rfl _ (at_other rfl _ (at_other rfl _ (at_other rfl _ (at_other rfl _ (at_other rfl _ (at_other rfl _ (at_other rfl _ (at_other rfl _ (at_other rfl _ (at_other rfl _ (at_other rfl _ (at_other rfl _ (s2_135))))))))))))))
                have s4_188 : a183.eval (.tmp 4) = (.pointer (some ⟨b10, 0, none⟩)) := up185 _ _ (at_other rfl _ (at_other rfl _ (at_other rfl _ (at_other rfl _ (at_other rfl _ (at_other rfl _ (at_other rfl _ (at_other rfl _ (at_other rfl _ (at_other rfl _ (at_other rfl _ (at_other rfl _ (at_other rfl _ (s4_136))))))))))))))
                have s5_189 : a183.eval (.tmp 5) = (.int .i64 (k : Int)) := up185 _ _ (at_other rfl _ (at_other rfl _ (at_other rfl _ (at_other rfl _ (at_other rfl _ (at_other rfl _ (at_other rfl _ (at_other rfl _ (at_other rfl _ (at_other rfl _ (at_other rfl _ (at_other rfl _ (at_other rfl _ (s5_137))))))))))))))
                have s74_190 : a183.eval (.tmp 74) = (.bool (decide ((bi s ((k : Int) + 1)) = 45))) := up185 _ _ (at_same ((((((((((((hz132.put _ _).put _ _).put _ _).put _ _).put _ _).put _ _).put _ _).put _ _).put _ _).put _ _).put _ _).put _ _) rfl _)
                clear up185
                refine V.condP (p := (bi s ((k : Int) + 1)) = 45) (s74_190) (fun ht191 => ?_) (fun ht191 => ?_)
                ·
                  refine V.seq (fun K192 hK193 => ?_)
                  refine V.plan [[], [0], [], [], [2, 3], [], [], [6], [5, 6, 7], [2, 3, 4, 5, 6, 7, 8], [], [], [10, 11], [], [], [14], [13, 14, 15], [10, 11, 12, 13, 14, 15, 16], [2, 3, 4, 5, 6, 7, 8, 9, 10, 11, 12, 13, 14, 15, 16, 17], [2, 3, 4, 5, 6, 7, 8, 9, 10, 11, 12, 13, 14, 15, 16, 17, 18], [0, 1, 2, 3, 4, 5, 6, 7, 8, 9, 10, 11, 12, 13, 14, 15, 16, 17, 18, 19], [0, 1, 2, 3, 4, 5, 6, 7, 8, 9, 10, 11, 12, 13, 14, 15, 16, 17, 18, 19, 20], [0, 1, 2, 3, 4, 5, 6, 7, 8, 9, 10, 11, 12, 13, 14, 15, 16, 17, 18, 19, 20, 21]] [([0, 1, 2, 3, 4, 5, 6, 7, 8, 9, 10, 11, 12, 13, 14, 15, 16, 17, 18], some (19, [1])), ([], some (20, [])), ([21], some (22, [])), ([], none)] (by kernel_rfl) (by kernel_rfl) (by exact fun _ _ _ _ h => h) ?_
                  simp only [Plan.wpSegs, Plan.pickAll, Plan.nth, V.L_eq]
                  obtain ⟨w194, hF195e⟩ : ∃ w1, w1 = w73.drew := ⟨_, rfl⟩
                  rw [← hF195e]
                  have hF195 : Fr [] w73 w194 := by rw [hF195e]; exact Fr.drew _ _
                  have hsw194 : w194.heap.size = w73.heap.size := by rw [hF195e]; rfl
                  clear hF195e
                  have hB4_196 := hB4_79.fr0 hF195
                  have hO_197 := hO_80.fr0 hF195
                  have hF_198 := hF_81.new hF195
                  have hB5_199 := hB5_82.fr0 hF195
                  refine V.go (V.pv [(4, .pointer (some ⟨b10, 0, none⟩))] ⟨(s4_188), trivial⟩ (by kernel_rfl) (.pointer (some ⟨b10, 3, none⟩)) (by kernel_rfl) ?_)
                  refine V.go (V.ld ⟨b10, 3, none⟩ (.slice A acc.length c) (at_same hz184 rfl _) (by kernel_rfl) (hB4_196.at 3 rfl) ?_)
                  refine V.go (V.mv (v := (.string s)) (at_other rfl _ (at_other rfl _ (s0_186))) ?_)
                  refine V.go (V.mv (v := (.int .i64 (k : Int))) (at_other rfl _ (at_other rfl _ (at_other rfl _ (s5_189)))) ?_)
                  refine V.go (V.ixs s .i64 (k : Int) (at_other rfl _ (at_same ((hz184.put _ _).put _ _) rfl _)) (at_same (((hz184.put _ _).put _ _).put _ _) rfl _) (by omega) (by omega) (by kernel_rfl) ?_)
                  have hb200 := byt_lt s (k : Int)
                  refine V.go (V.mv (v := (.string s)) (at_other rfl _ (at_other rfl _ (at_other rfl _ (at_other rfl _ (at_other rfl _ (s0_186)))))) ?_)
                  refine V.go (V.mv (v := (.int .i64 (k : Int))) (at_other rfl _ (at_other rfl _ (at_other rfl _ (at_other rfl _ (at_other rfl _ (at_other rfl _ (s5_189))))))) ?_)
                  refine V.go (V.pvw [(93, .int .i64 (k : Int))] ⟨(at_same ((((((hz184.put _ _).put _ _).put _ _).put _ _).put _ _).put _ _) rfl _), trivial⟩ (by kernel_rfl) (.int .i64 (IntKind.i64.wrap ((k : Int) + 2))) (.int .i64 ((k : Int) + 2)) (by kernel_rfl) (V.w_i64 (by omega) (by omega)) ?_)
                  refine V.go (V.ixs s .i64 ((k : Int) + 2) (at_other rfl _ (at_other rfl _ (at_same (((((hz184.put _ _).put _ _).put _ _).put _ _).put _ _) rfl _))) (at_same (((((((hz184.put _ _).put _ _).put _ _).put _ _).put _ _).put _ _).put _ _) rfl _) (by omega) (by omega) (by kernel_rfl) ?_)
                  have hb201 := byt_lt s ((k : Int) + 2)
                  refine V.go (V.pvw [(91, .int .u8 (bi s (k : Int))), (95, .int .u8 (bi s ((k : Int) + 2)))] ⟨(at_other rfl _ (at_other rfl _ (at_other rfl _ (at_other rfl _ (at_same ((((hz184.put _ _).put _ _).put _ _).put _ _) rfl _))))), (at_same ((((((((hz184.put _ _).put _ _).put _ _).put _ _).put _ _).put _ _).put _ _).put _ _) rfl _), trivial⟩ (by kernel_rfl) (.int .u8 (if (bi s ((k : Int) + 2)) < (bi s (k : Int)) then (bi s ((k : Int) + 2)) else (bi s (k : Int)))) (.int .u8 (min (bi s (k : Int)) (bi s ((k : Int) + 2)))) (by kernel_rfl) V.min_int ?_)
                  refine V.go (V.mv (v := (.string s)) (at_other rfl _ (at_other rfl _ (at_other rfl _ (at_other rfl _ (at_other rfl _ (at_other rfl _ (at_other rfl _ (at_other rfl _ (at_other rfl _ (at_other rfl _ (s0_186))))))))))) ?_)
                  refine V.go (V.mv (v := (.int .i64 (k : Int))) (at_other rfl _ (at_other rfl _ (at_other rfl _ (at_other rfl _ (at_other rfl _ (at_other rfl _ (at_other rfl _ (at_other rfl _ (at_other rfl _ (at_other rfl _ (at_other rfl _ (s5_189)))))))))))) ?_)
                  refine V.go (V.ixs s .i64 (k : Int) (at_other rfl _ (at_same ((((((((((hz184.put _ _).put _ _).put _ _).put _ _).put _ _).put _ _).put _ _).put _ _).put _ _).put _ _) rfl _)) (at_same (((((((((((hz184.put _ _).put _ _).put _ _).put _ _).put _ _).put _ _).put _ _).put _ _).put _ _).put _ _).put _ _) rfl _) (by omega) (by omega) (by kernel_rfl) ?_)
                  have hb202 := byt_lt s (k : Int)
                  refine V.go (V.mv (v := (.string s)) (at_other rfl _ (at_other rfl _ (at_other rfl _ (at_other rfl _ (at_other rfl _ (at_other rfl _ (at_other rfl _ (at_other rfl _ (at_other rfl _ (at_other rfl _ (at_other rfl _ (at_other rfl _ (at_other rfl _ (s0_186)))))))))))))) ?_)
                  refine V.go (V.mv (v := (.int .i64 (k : Int))) (at_other rfl _ (at_other rfl _ (at_other rfl _ (at_other rfl _ (at_other rfl _ (at_other rfl _ (at_other rfl _ (at_other rfl _ (at_other rfl _ (at_other rfl _ (at_other rfl _ (at_other rfl _ (at_other rfl _ (at_other rfl _ (s5_189))))))))))))))) ?_)
                  refine V.go (V.pvw [(101, .int .i64 (k : Int))] ⟨(at_same ((((((((((((((hz184.put _ _).put _ _).put _ _).put _ _).put _ _).put _ _).put _ _).put _ _).put _ _).put _ _).put _ _).put _ _).put _ _).put _ _) rfl _), trivial⟩ (by kernel_rfl) (.int .i64 (IntKind.i64.wrap ((k : Int) + 2))) (.int .i64 ((k : Int) + 2)) (by kernel_rfl) (V.w_i64 (by omega) (by omega)) ?_)
                  refine V.go (V.ixs s .i64 ((k : Int) + 2) (at_other rfl _ (at_other rfl _ (at_same (((((((((((((hz184.put _ _).put _ _).put _ _).put _ _).put _ _).put _ _).put _ _).put _ _).put _ _).put _ _).put _ _).put _ _).put _ _) rfl _))) (at_same (((((((((((((((hz184.put _ _).put _ _).put _ _).put _ _).put _ _).put _ _).put _ _).put _ _).put _ _).put _ _).put _ _).put _ _).put _ _).put _ _).put _ _) rfl _) (by omega) (by omega) (by kernel_rfl) ?_)
                  have hb203 := byt_lt s ((k : Int) + 2)
                  refine V.go (V.pvw [(99, .int .u8 (bi s (k : Int))), (103, .int .u8 (bi s ((k : Int) + 2)))] ⟨(at_other rfl _ (at_other rfl _ (at_other rfl _ (at_other rfl _ (at_same ((((((((((((hz184.put _ _).put _ _).put _ _).put _ _).put _ _).put _ _).put _ _).put _ _).put _ _).put _ _).put _ _).put _ _) rfl _))))), (at_same ((((((((((((((((hz184.put _ _).put _ _).put _ _).put _ _).put _ _).put _ _).put _ _).put _ _).put _ _).put _ _).put _ _).put _ _).put _ _).put _ _).put _ _).put _ _) rfl _), trivial⟩ (by kernel_rfl) (.int .u8 (if (bi s ((k : Int) + 2)) > (bi s (k : Int)) then (bi s ((k : Int) + 2)) else (bi s (k : Int)))) (.int .u8 (max (bi s (k : Int)) (bi s ((k : Int) + 2)))) (by kernel_rfl) V.max_int ?_)
                  refine V.go (V.pv [(96, .int .u8 (min (bi s (k : Int)) (bi s ((k : Int) + 2)))), (104, .int .u8 (max (bi s (k : Int)) (bi s ((k : Int) + 2))))] ⟨(at_other rfl _ (at_other rfl _ (at_other rfl _ (at_other rfl _ (at_other rfl _ (at_other rfl _ (at_other rfl _ (at_other rfl _ (at_same (((((((((hz184.put _ _).put _ _).put _ _).put _ _).put _ _).put _ _).put _ _).put _ _).put _ _) rfl _))))))))), (at_same (((((((((((((((((hz184.put _ _).put _ _).put _ _).put _ _).put _ _).put _ _).put _ _).put _ _).put _ _).put _ _).put _ _).put _ _).put _ _).put _ _).put _ _).put _ _).put _ _) rfl _), trivial⟩ (by kernel_rfl) (.agg #[.int .u8 (min (bi s (k : Int)) (bi s ((k : Int) + 2))), .int .u8 (max (bi s (k : Int)) (bi s ((k : Int) + 2)))]) (by kernel_rfl) ?_)
                  refine V.nil ?_
                  refine ⟨chk [(93, .int .i64 (k : Int)), (91, .int .u8 (bi s (k : Int))), (95, .int .u8 (bi s ((k : Int) + 2))), (101, .int .i64 (k : Int)), (99, .int .u8 (bi s (k : Int))), (103, .int .u8 (bi s ((k : Int) + 2)))] ⟨(at_other rfl _ (at_other rfl _ (at_other rfl _ (at_other rfl _ (at_other rfl _ (at_other rfl _ (at_other rfl _ (at_other rfl _ (at_other rfl _ (at_other rfl _ (at_other rfl _ (at_other rfl _ (at_same ((((((hz184.put _ _).put _ _).put _ _).put _ _).put _ _).put _ _) rfl _))))))))))))), (at_other rfl _ (at_other rfl _ (at_other rfl _ (at_other rfl _ (at_other rfl _ (at_other rfl _ (at_other rfl _ (at_other rfl _ (at_other rfl _ (at_other rfl _ (at_other rfl _ (at_other rfl _ (at_other rfl _ (at_other rfl _ (at_same ((((hz184.put _ _).put _ _).put _ _).put _ _) rfl _))))))))))))))), (at_other rfl _ (at_other rfl _ (at_other rfl _ (at_other rfl _ (at_other rfl _ (at_other rfl _ (at_other rfl _ (at_other rfl _ (at_other rfl _ (at_other rfl _ (at_same ((((((((hz184.put _ _).put _ _).put _ _).put _ _).put _ _).put _ _).put _ _).put _ _) rfl _))))))))))), (at_other rfl _ (at_other rfl _ (at_other rfl _ (at_other rfl _ (at_same ((((((((((((((hz184.put _ _).put _ _).put _ _).put _ _).put _ _).put _ _).put _ _).put _ _).put _ _).put _ _).put _ _).put _ _).put _ _).put _ _) rfl _))))), (at_other rfl _ (at_other rfl _ (at_other rfl _ (at_other rfl _ (at_other rfl _ (at_other rfl _ (at_same ((((((((((((hz184.put _ _).put _ _).put _ _).put _ _).put _ _).put _ _).put _ _).put _ _).put _ _).put _ _).put _ _).put _ _) rfl _))))))), (at_other rfl _ (at_other rfl _ (at_same ((((((((((((((((hz184.put _ _).put _ _).put _ _).put _ _).put _ _).put _ _).put _ _).put _ _).put _ _).put _ _).put _ _).put _ _).put _ _).put _ _).put _ _).put _ _) rfl _))), trivial⟩ (by kernel_rfl), ?_⟩
                  refine V.go (V.mk [(105, .agg #[.int .u8 (min (bi s (k : Int)) (bi s ((k : Int) + 2))), .int .u8 (max (bi s (k : Int)) (bi s ((k : Int) + 2)))])] ⟨(at_same ((((((((((((((((((hz184.put _ _).put _ _).put _ _).put _ _).put _ _).put _ _).put _ _).put _ _).put _ _).put _ _).put _ _).put _ _).put _ _).put _ _).put _ _).put _ _).put _ _).put _ _) rfl _), trivial⟩ (by kernel_rfl) [.int .u8 (min (bi s (k : Int)) (bi s ((k : Int) + 2))), .int .u8 (max (bi s (k : Int)) (bi s ((k : Int) + 2)))] 54 (fun b => .slice (some ⟨b, 0, none⟩) 1 1) (by kernel_rfl) ?_)
                  intro w205 b204 heb204 hB206 hF207 hsb204
                  have hB4_208 := hB4_196.fr0 hF207
                  have hO_209 := hO_197.fr0 hF207
                  have hF_210 := hF_198.new hF207
                  have hB5_211 := hB5_199.fr0 hF207
                  refine V.nil ?_
                  refine ⟨(fun _ => held_blk (n := 1) (hx := (at_other rfl _ (at_other rfl _ (at_other rfl _ (at_other rfl _ (at_other rfl _ (at_other rfl _ (at_other rfl _ (at_other rfl _ (at_other rfl _ (at_other rfl _ (at_other rfl _ (at_other rfl _ (at_other rfl _ (at_other rfl _ (at_other rfl _ (at_other rfl _ (at_other rfl _ (at_other rfl _ (at_same hz184 rfl _)))))))))))))))))))) hB4_196 hB4_208 (by kernel_rfl) rfl (by simp only [List.length]; omega)), ?_⟩
                  refine V.nil ?_
                  refine ⟨chk [] trivial (by kernel_rfl), ?_⟩
                  refine V.go (V.app (R := spanR) (ys := ([⟨min (bi s (k : Int)) (bi s ((k : Int) + 2)), max (bi s (k : Int)) (bi s ((k : Int) + 2))⟩])) (news := [.int .u8 (min (bi s (k : Int)) (bi s ((k : Int) + 2))), .int .u8 (max (bi s (k : Int)) (bi s ((k : Int) + 2)))]) (at_other rfl _ (at_other rfl _ (at_other rfl _ (at_other rfl _ (at_other rfl _ (at_other rfl _ (at_other rfl _ (at_other rfl _ (at_other rfl _ (at_other rfl _ (at_other rfl _ (at_other rfl _ (at_other rfl _ (at_other rfl _ (at_other rfl _ (at_other rfl _ (at_other rfl _ (at_other rfl _ (at_same (hz184.put _ _) rfl _))))))))))))))))))) ⟨b204, 0, none⟩ 1 1 (at_same (((((((((((((((((((hz184.put _ _).put _ _).put _ _).put _ _).put _ _).put _ _).put _ _).put _ _).put _ _).put _ _).put _ _).put _ _).put _ _).put _ _).put _ _).put _ _).put _ _).put _ _).put _ _) rfl _) (by kernel_rfl) (info54) (by kernel_rfl) (by decide) hO_209 rfl ⟨[.int .u8 (min (bi s (k : Int)) (bi s ((k : Int) + 2))), .int .u8 (max (bi s (k : Int)) (bi s ((k : Int) + 2)))], [], rfl, rfl, rfl⟩ (blk_cells hB206 0 _ rfl) (by omega) (by decide) (by omega) ?_)
                  intro A212 c213 w214 hO215z hF216 hatw214
                  have hsw214 := hF216.size
                  have hB4_217 := hB4_208.fr hF216 (by first | exact own_notin hO_209 (by omega) | exact own_notin2 hO_80 (by omega))
                  have hF_218 := hF_210.own hF216 (own_ge hO_209 (by omega))
                  have hB5_219 := hB5_211.fr hF216 (by first | exact own_notin hO_209 (by omega) | exact own_notin2 hO_80 (by omega))
                  have hO215 := hO215z.zone (Z' := NoZ) (fun _ _ q => q.1) (fun _ _ q => q)
                  refine V.nil ?_
                  refine ⟨trivial, ?_⟩
                  refine V.go (V.pv [(4, .pointer (some ⟨b10, 0, none⟩))] ⟨(at_other rfl _ (at_other rfl _ (at_other rfl _ (at_other rfl _ (at_other rfl _ (at_other rfl _ (at_other rfl _ (at_other rfl _ (at_other rfl _ (at_other rfl _ (at_other rfl _ (at_other rfl _ (at_other rfl _ (at_other rfl _ (at_other rfl _ (at_other rfl _ (at_other rfl _ (at_other rfl _ (at_other rfl _ (at_other rfl _ (at_other rfl _ (s4_188)))))))))))))))))))))), trivial⟩ (by kernel_rfl) (.pointer (some ⟨b10, 3, none⟩)) (by kernel_rfl) ?_)
                  refine V.nil ?_
                  refine ⟨chk [] trivial (by kernel_rfl), ?_⟩
                  refine V.go (V.stn b10 3 (.slice A212 (acc.length + 1) c213) [.slice A212 (acc.length + 1) c213] (at_same (((((((((((((((((((((hz184.put _ _).put _ _).put _ _).put _ _).put _ _).put _ _).put _ _).put _ _).put _ _).put _ _).put _ _).put _ _).put _ _).put _ _).put _ _).put _ _).put _ _).put _ _).put _ _).put _ _).put _ _) rfl _) (at_other rfl _ (at_same ((((((((((((((((((((hz184.put _ _).put _ _).put _ _).put _ _).put _ _).put _ _).put _ _).put _ _).put _ _).put _ _).put _ _).put _ _).put _ _).put _ _).put _ _).put _ _).put _ _).put _ _).put _ _).put _ _) rfl _)) rfl rfl (by kernel_rfl) hB4_217 (by simp) [.int .i64 4, .int .u8 0, .bool neg, .slice A212 (acc.length + 1) c213] rfl ?_)
                  intro w220 hB221 hF222 hsw220
                  have hF_223 := hF_218.own hF222 (by simp <;> omega)
                  have hB5_224 := hB5_219.fr1 hF222 (by omega)
                  have hO215_225 := hO215.frn hF222 (fun h => h) (by first | exact own_ne hO215 (by omega) | exact own_ne2 hO215 (by omega))
                  refine V.nil ?_
                  refine ⟨trivial, ?_⟩
                  refine V.nil ?_
                  refine ⟨chk [] trivial (by kernel_rfl), ?_⟩
                  refine V.then_n (hK193 _ _ ?_)
                  refine V.flushW ((((((((((((((((((((((hz184.put _ _).put _ _).put _ _).put _ _).put _ _).put _ _).put _ _).put _ _).put _ _).put _ _).put _ _).put _ _).put _ _).put _ _).put _ _).put _ _).put _ _).put _ _).put _ _).put _ _).put _ _).put _ _) (fun a226 hz227 up228 => ?_)
                  have s0_229 : a226.eval (.tmp 0) = (.string s) := up228 _ _ (at_other rfl _ (at_other rfl _ (at_other rfl _ (at_other rfl _ (at_other rfl _ (at_other rfl _ (at_other rfl _ (at_other rfl _ (at_other rfl _ (at_other rfl _ (at_other rfl _ (at_other rfl _ (at_other rfl _ (at_other rfl _ (at_other rfl _ (at_other rfl _ (at_other rfl _ (at_other rfl _ (at_other rfl _ (at_other rfl _ (at_other rfl _ (at_other rfl _ (s0_186)))))))))))))))))))))))
                  have s2_230 : a226.eval (.tmp 2) = (.pointer (some ⟨b3, 0, none⟩)) := up228 _ _ (at_other rfl _ (at_other rfl _ (at_other rfl _ (at_other rfl _ (at_other rfl _ (at_other rfl _ (at_other rfl _ (at_other rfl _ (at_other rfl _ (at_other rfl _ (at_other rfl _ (at_other rfl _ (at_other rfl _ (at_other rfl _ (at_other rfl _ (at_other rfl _ (at_other rfl _ (at_other rfl _ (at_other rfl _ (at_other rfl _ (at_other rfl _ (at_other rfl _ (s2_187)))))))))))))))))))))))
                  have s4_231 : a226.eval (.tmp 4) = (.pointer (some ⟨b10, 0, none⟩)) := up228 _ _ (at_other rfl _ (at_other rfl _ (at_other rfl _ (at_other rfl _ (at_other rfl _ (at_other rfl _ (at_other rfl _ (at_other rfl _ (at_other rfl _ (at_other rfl _ (at_other rfl _ (at_other rfl _ (at_other rfl _ (at_other rfl _ (at_other rfl _ (at_other rfl _ (at_other rfl _ (at_other rfl _ (at_other rfl _ (at_other rfl _ (at_other rfl _ (at_other rfl _ (s4_188)))))))))))))))))))))))
                  have s5_232 : a226.eval (.tmp 5) = (.int .i64 (k : Int)) := up228 _ _ (at_other rfl _ (at_other rfl _ (at_other rfl _ (at_other rfl _ (at_other rfl _ (at_other rfl _ (at_other rfl _ (at_other rfl _ (at_other rfl _ (at_other rfl _ (at_other rfl _ (at_other rfl _ (at_other rfl _ (at_other rfl _ (at_other rfl _ (at_other rfl _ (at_other rfl _ (at_other rfl _ (at_other rfl _ (at_other rfl _ (at_other rfl _ (at_other rfl _ (s5_189)))))))))))))))))))))))
                  clear up228
                  refine V.region (by kernel_rfl) ?_
                  refine V.go (V.mv (v := (.int .i64 (k : Int))) (s5_232) ?_)
                  refine V.go (V.pvw [(109, .int .i64 (k : Int))] ⟨(at_same hz227 rfl _), trivial⟩ (by kernel_rfl) (.int .i64 (IntKind.i64.wrap ((k : Int) + 3))) (.int .i64 ((k : Int) + 3)) (by kernel_rfl) (V.w_i64 (by omega) (by omega)) ?_)
                  refine V.go (V.asg (v := (.int .i64 ((k : Int) + 3))) (at_same (hz227.put _ _) rfl _) ?_)
                  refine V.nil ?_
                  refine V.blk_n ?_
                  refine V.blk_n ?_
                  refine V.then_n ?_
                  have hstep := sp_range (s := s) (k := k) (by omega) (by omega) (by omega) (by show bi s ((k : Int) + 1) = 45; assumption)
                  rw [hstep] at hsp
                  refine ⟨k + 3, acc ++ [⟨min (bi s (k : Int)) (bi s ((k : Int) + 2)), max (bi s (k : Int)) (bi s ((k : Int) + 2))⟩], A212, c213, by omega, ?_⟩
                  refine ⟨(((hz227.put _ _).put _ _).put _ _), ?_, ?_, ?_, ?_, (by simpa using hB221), (by simpa using hO215_225), hF_223, hB5_224, (by omega), (by simp; omega), ⟨by simpa using hsp.1, by have := hsp.2; simp only [] at this; omega⟩⟩
                  · exact (at_other rfl _ (at_other rfl _ (at_other rfl _ (s0_229))))
                  · exact (at_other rfl _ (at_other rfl _ (at_other rfl _ (s2_230))))
                  · exact (at_other rfl _ (at_other rfl _ (at_other rfl _ (s4_231))))
                  · exact Eq.trans (at_same ((hz227.put _ _).put _ _) rfl _) (V.int_eq (by omega))
                ·
                  refine V.seq (fun K233 hK234 => ?_)
                  refine V.plan [[], [0], [], [], [2, 3], [], [], [5, 6], [2, 3, 4, 5, 6, 7], [2, 3, 4, 5, 6, 7, 8], [0, 1, 2, 3, 4, 5, 6, 7, 8, 9], [0, 1, 2, 3, 4, 5, 6, 7, 8, 9, 10], [0, 1, 2, 3, 4, 5, 6, 7, 8, 9, 10, 11]] [([0, 1, 2, 3, 4, 5, 6, 7, 8], some (9, [1])), ([], some (10, [])), ([11], some (12, [])), ([], none)] (by kernel_rfl) (by kernel_rfl) (by exact fun _ _ _ _ h => h) ?_
                  simp only [Plan.wpSegs, Plan.pickAll, Plan.nth, V.L_eq]
                  obtain ⟨w235, hF236e⟩ : ∃ w1, w1 = w73.drew := ⟨_, rfl⟩
                  rw [← hF236e]
                  have hF236 : Fr [] w73 w235 := by rw [hF236e]; exact Fr.drew _ _
                  have hsw235 : w235.heap.size = w73.heap.size := by rw [hF236e]; rfl
                  clear hF236e
                  have hB4_237 := hB4_79.fr0 hF236
                  have hO_238 := hO_80.fr0 hF236
                  have hF_239 := hF_81.new hF236
                  have hB5_240 := hB5_82.fr0 hF236
                  refine V.go (V.pv [(4, .pointer (some ⟨b10, 0, none⟩))] ⟨(s4_188), trivial⟩ (by kernel_rfl) (.pointer (some ⟨b10, 3, none⟩)) (by kernel_rfl) ?_)
                  refine V.go (V.ld ⟨b10, 3, none⟩ (.slice A acc.length c) (at_same hz184 rfl _) (by kernel_rfl) (hB4_237.at 3 rfl) ?_)
                  refine V.go (V.mv (v := (.string s)) (at_other rfl _ (at_other rfl _ (s0_186))) ?_)
                  refine V.go (V.mv (v := (.int .i64 (k : Int))) (at_other rfl _ (at_other rfl _ (at_other rfl _ (s5_189)))) ?_)
                  refine V.go (V.ixs s .i64 (k : Int) (at_other rfl _ (at_same ((hz184.put _ _).put _ _) rfl _)) (at_same (((hz184.put _ _).put _ _).put _ _) rfl _) (by omega) (by omega) (by kernel_rfl) ?_)
                  have hb241 := byt_lt s (k : Int)
                  refine V.go (V.mv (v := (.string s)) (at_other rfl _ (at_other rfl _ (at_other rfl _ (at_other rfl _ (at_other rfl _ (s0_186)))))) ?_)
                  refine V.go (V.mv (v := (.int .i64 (k : Int))) (at_other rfl _ (at_other rfl _ (at_other rfl _ (at_other rfl _ (at_other rfl _ (at_other rfl _ (s5_189))))))) ?_)
                  refine V.go (V.ixs s .i64 (k : Int) (at_other rfl _ (at_same (((((hz184.put _ _).put _ _).put _ _).put _ _).put _ _) rfl _)) (at_same ((((((hz184.put _ _).put _ _).put _ _).put _ _).put _ _).put _ _) rfl _) (by omega) (by omega) (by kernel_rfl) ?_)
                  have hb242 := byt_lt s (k : Int)
                  refine V.go (V.pv [(28, .int .u8 (bi s (k : Int))), (31, .int .u8 (bi s (k : Int)))] ⟨(at_other rfl _ (at_other rfl _ (at_other rfl _ (at_same ((((hz184.put _ _).put _ _).put _ _).put _ _) rfl _)))), (at_same (((((((hz184.put _ _).put _ _).put _ _).put _ _).put _ _).put _ _).put _ _) rfl _), trivial⟩ (by kernel_rfl) (.agg #[.int .u8 (bi s (k : Int)), .int .u8 (bi s (k : Int))]) (by kernel_rfl) ?_)
                  refine V.nil ?_
                  refine ⟨chk [] trivial (by kernel_rfl), ?_⟩
                  refine V.go (V.mk [(32, .agg #[.int .u8 (bi s (k : Int)), .int .u8 (bi s (k : Int))])] ⟨(at_same ((((((((hz184.put _ _).put _ _).put _ _).put _ _).put _ _).put _ _).put _ _).put _ _) rfl _), trivial⟩ (by kernel_rfl) [.int .u8 (bi s (k : Int)), .int .u8 (bi s (k : Int))] 54 (fun b => .slice (some ⟨b, 0, none⟩) 1 1) (by kernel_rfl) ?_)
                  intro w244 b243 heb243 hB245 hF246 hsb243
                  have hB4_247 := hB4_237.fr0 hF246
                  have hO_248 := hO_238.fr0 hF246
                  have hF_249 := hF_239.new hF246
                  have hB5_250 := hB5_240.fr0 hF246
                  refine V.nil ?_
                  refine ⟨(fun _ => held_blk (n := 1) (hx := (at_other rfl _ (at_other rfl _ (at_other rfl _ (at_other rfl _ (at_other rfl _ (at_other rfl _ (at_other rfl _ (at_other rfl _ (at_same hz184 rfl _)))))))))) hB4_237 hB4_247 (by kernel_rfl) rfl (by simp only [List.length]; omega)), ?_⟩
                  refine V.nil ?_
                  refine ⟨chk [] trivial (by kernel_rfl), ?_⟩
                  refine V.go (V.app (R := spanR) (ys := ([⟨bi s (k : Int), bi s (k : Int)⟩])) (news := [.int .u8 (bi s (k : Int)), .int .u8 (bi s (k : Int))]) (at_other rfl _ (at_other rfl _ (at_other rfl _ (at_other rfl _ (at_other rfl _ (at_other rfl _ (at_other rfl _ (at_other rfl _ (at_same (hz184.put _ _) rfl _))))))))) ⟨b243, 0, none⟩ 1 1 (at_same (((((((((hz184.put _ _).put _ _).put _ _).put _ _).put _ _).put _ _).put _ _).put _ _).put _ _) rfl _) (by kernel_rfl) (info54) (by kernel_rfl) (by decide) hO_248 rfl ⟨[.int .u8 (bi s (k : Int)), .int .u8 (bi s (k : Int))], [], rfl, rfl, rfl⟩ (blk_cells hB245 0 _ rfl) (by omega) (by decide) (by omega) ?_)
                  intro A251 c252 w253 hO254z hF255 hatw253
                  have hsw253 := hF255.size
                  have hB4_256 := hB4_247.fr hF255 (by first | exact own_notin hO_248 (by omega) | exact own_notin2 hO_80 (by omega))
                  have hF_257 := hF_249.own hF255 (own_ge hO_248 (by omega))
                  have hB5_258 := hB5_250.fr hF255 (by first | exact own_notin hO_248 (by omega) | exact own_notin2 hO_80 (by omega))
                  have hO254 := hO254z.zone (Z' := NoZ) (fun _ _ q => q.1) (fun _ _ q => q)
                  refine V.nil ?_
                  refine ⟨trivial, ?_⟩
                  refine V.go (V.pv [(4, .pointer (some ⟨b10, 0, none⟩))] ⟨(at_other rfl _ (at_other rfl _ (at_other rfl _ (at_other rfl _ (at_other rfl _ (at_other rfl _ (at_other rfl _ (at_other rfl _ (at_other rfl _ (at_other rfl _ (at_other rfl _ (s4_188)))))))))))), trivial⟩ (by kernel_rfl) (.pointer (some ⟨b10, 3, none⟩)) (by kernel_rfl) ?_)
                  refine V.nil ?_
                  refine ⟨chk [] trivial (by kernel_rfl), ?_⟩
                  refine V.go (V.stn b10 3 (.slice A251 (acc.length + 1) c252) [.slice A251 (acc.length + 1) c252] (at_same (((((((((((hz184.put _ _).put _ _).put _ _).put _ _).put _ _).put _ _).put _ _).put _ _).put _ _).put _ _).put _ _) rfl _) (at_other rfl _ (at_same ((((((((((hz184.put _ _).put _ _).put _ _).put _ _).put _ _).put _ _).put _ _).put _ _).put _ _).put _ _) rfl _)) rfl rfl (by kernel_rfl) hB4_256 (by simp) [.int .i64 4, .int .u8 0, .bool neg, .slice A251 (acc.length + 1) c252] rfl ?_)
                  intro w259 hB260 hF261 hsw259
                  have hF_262 := hF_257.own hF261 (by simp <;> omega)
                  have hB5_263 := hB5_258.fr1 hF261 (by omega)
                  have hO254_264 := hO254.frn hF261 (fun h => h) (by first | exact own_ne hO254 (by omega) | exact own_ne2 hO254 (by omega))
                  refine V.nil ?_
                  refine ⟨trivial, ?_⟩
                  refine V.nil ?_
                  refine ⟨chk [] trivial (by kernel_rfl), ?_⟩
                  refine V.then_n (hK234 _ _ ?_)
                  refine V.flushW ((((((((((((hz184.put _ _).put _ _).put _ _).put _ _).put _ _).put _ _).put _ _).put _ _).put _ _).put _ _).put _ _).put _ _) (fun a265 hz266 up267 => ?_)
                  have s0_268 : a265.eval (.tmp 0) = (.string s) := up267 _ _ (at_other rfl _ (at_other rfl _ (at_other rfl _ (at_other rfl _ (at_other rfl _ (at_other rfl _ (at_other rfl _ (at_other rfl _ (at_other rfl _ (at_other rfl _ (at_other rfl _ (at_other rfl _ (s0_186)))))))))))))
                  have s2_269 : a265.eval (.tmp 2) = (.pointer (some ⟨b3, 0, none⟩)) := up267 _ _ (at_other rfl _ (at_other rfl _ (at_other rfl _ (at_other rfl _ (at_other rfl _ (at_other rfl _ (at_other rfl _ (at_other rfl _ (at_other rfl _ (at_other rfl _ (at_other rfl _ (at_other rfl _ (s2_187)))))))))))))
                  have s4_270 : a265.eval (.tmp 4) = (.pointer (some ⟨b10, 0, none⟩)) := up267 _ _ (at_other rfl _ (at_other rfl _ (at_other rfl _ (at_other rfl _ (at_other rfl _ (at_other rfl _ (at_other rfl _ (at_other rfl _ (at_other rfl _ (at_other rfl _ (at_other rfl _ (at_other rfl _ (s4_188)))))))))))))
                  have s5_271 : a265.eval (.tmp 5) = (.int .i64 (k : Int)) := up267 _ _ (at_other rfl _ (at_other rfl _ (at_other rfl _ (at_other rfl _ (at_other rfl _ (at_other rfl _ (at_other rfl _ (at_other rfl _ (at_other rfl _ (at_other rfl _ (at_other rfl _ (at_other rfl _ (s5_189)))))))))))))
                  clear up267
                  refine V.region (by kernel_rfl) ?_
                  refine V.go (V.mv (v := (.int .i64 (k : Int))) (s5_271) ?_)
                  refine V.go (V.pvw [(36, .int .i64 (k : Int))] ⟨(at_same hz266 rfl _), trivial⟩ (by kernel_rfl) (.int .i64 (IntKind.i64.wrap ((k : Int) + 1))) (.int .i64 ((k : Int) + 1)) (by kernel_rfl) (V.w_i64 (by omega) (by omega)) ?_)
                  refine V.go (V.asg (v := (.int .i64 ((k : Int) + 1))) (at_same (hz266.put _ _) rfl _) ?_)
                  refine V.nil ?_
                  refine V.blk_n ?_
                  refine V.blk_n ?_
                  refine V.then_n ?_
                  have hstep := sp_one (s := s) (k := k) (by omega) (by omega) (by omega) (by intro h; show bi s ((k : Int) + 1) ≠ 45; omega)
                  rw [hstep] at hsp
                  refine ⟨k + 1, acc ++ [⟨bi s (k : Int), bi s (k : Int)⟩], A251, c252, by omega, ?_⟩
                  refine ⟨(((hz266.put _ _).put _ _).put _ _), ?_, ?_, ?_, ?_, (by simpa using hB260), (by simpa using hO254_264), hF_262, hB5_263, (by omega), (by simp; omega), ⟨by simpa using hsp.1, by have := hsp.2; simp only [] at this; omega⟩⟩
                  · exact (at_other rfl _ (at_other rfl _ (at_other rfl _ (s0_268))))
                  · exact (at_other rfl _ (at_other rfl _ (at_other rfl _ (s2_269))))
                  · exact (at_other rfl _ (at_other rfl _ (at_other rfl _ (s4_270))))
                  · exact Eq.trans (at_same ((hz266.put _ _).put _ _) rfl _) (V.int_eq (by omega))
              ·
                refine V.go_off 80 (by kernel_rfl) (((at_same (((((hz132.put _ _).put _ _).put _ _).put _ _).put _ _) rfl _ : Act.eval _ _ = (.bool (decide (((k : Int) + 2) < (s.size : Int)))))).trans (df hg181)) (by kernel_rfl) ?_
                refine V.go_off 80 (by kernel_rfl) (((at_other rfl _ (at_same (((((hz132.put _ _).put _ _).put _ _).put _ _).put _ _) rfl _) : Act.eval _ _ = (.bool (decide (((k : Int) + 2) < (s.size : Int)))))).trans (df hg181)) (by kernel_rfl) ?_
                refine V.go_off 80 (by kernel_rfl) (((at_other rfl _ (at_other rfl _ (at_same (((((hz132.put _ _).put _ _).put _ _).put _ _).put _ _) rfl _)) : Act.eval _ _ = (.bool (decide (((k : Int) + 2) < (s.size : Int)))))).trans (df hg181)) (by kernel_rfl) ?_
                refine V.go_off 80 (by kernel_rfl) (((at_other rfl _ (at_other rfl _ (at_other rfl _ (at_same (((((hz132.put _ _).put _ _).put _ _).put _ _).put _ _) rfl _))) : Act.eval _ _ = (.bool (decide (((k : Int) + 2) < (s.size : Int)))))).trans (df hg181)) (by kernel_rfl) ?_
                refine V.go_off 80 (by kernel_rfl) (((at_other rfl _ (at_other rfl _ (at_other rfl _ (at_other rfl _ (at_same (((((hz132.put _ _).put _ _).put _ _).put _ _).put _ _) rfl _)))) : Act.eval _ _ = (.bool (decide (((k : Int) + 2) < (s.size : Int)))))).trans (df hg181)) (by kernel_rfl) ?_
                refine V.go (V.pk_f (((at_other rfl _ (at_other rfl _ (at_other rfl _ (at_other rfl _ (at_other rfl _ (at_same (((((hz132.put _ _).put _ _).put _ _).put _ _).put _ _) rfl _))))) : Act.eval _ _ = (.bool (decide (((k : Int) + 2) < (s.size : Int)))))).trans (df hg181)) (v := (.bool false)) evc ?_)
                refine V.go (V.asg (v := (.bool false)) (at_same (((((((((((hz132.put _ _).put _ _).put _ _).put _ _).put _ _).put _ _).put _ _).put _ _).put _ _).put _ _).put _ _) rfl _) ?_)
                refine V.nil ?_
                refine V.then_n (hK180 _ _ ?_)
                refine V.flushW (((((((((((((hz132.put _ _).put _ _).put _ _).put _ _).put _ _).put _ _).put _ _).put _ _).put _ _).put _ _).put _ _).put _ _).put _ _) (fun a272 hz273 up274 => ?_)
                have s0_275 : a272.eval (.tmp 0) = (.string s) := up274 _ _ (at_other rfl _ (at_other rfl _ (at_other rfl _ (at_other rfl _ (at_other rfl _ (at_other rfl _ (at_other rfl _ (at_other rfl _ (at_other rfl _ (at_other rfl _ (at_other rfl _ (at_other rfl _ (at_other rfl _ (s0_134))))))))))))))
                have s2_276 : a272.eval (.tmp 2) = (.pointer (some ⟨b3, 0, none⟩)) := up274 _ _ (at_other rfl _ (at_other rfl _ (at_other rfl _ (at_other rfl _ (at_other rfl _ (at_other rfl _ (at_other rfl _ (at_other rfl _ (at_other rfl _ (at_other rfl _ (at_other rfl _ (at_other rfl _ (at_other rfl _ (s2_135))))))))))))))
                have s4_277 : a272.eval (.tmp 4) = (.pointer (some ⟨b10, 0, none⟩)) := up274 _ _ (at_other rfl _ (at_other rfl _ (at_other rfl _ (at_other rfl _ (at_other rfl _ (at_other rfl _ (at_other rfl _ (at_other rfl _ (at_other rfl _ (at_other rfl _ (at_other rfl _ (at_other rfl _ (at_other rfl _ (s4_136))))))))))))))
                have s5_278 : a272.eval (.tmp 5) = (.int .i64 (k : Int)) := up274 _ _ (at_other rfl _ (at_other rfl _ (at_other rfl _ (at_other rfl _ (at_other rfl _ (at_other rfl _ (at_other rfl _ (at_other rfl _ (at_other rfl _ (at_other rfl _ (at_other rfl _ (at_other rfl _ (at_other rfl _ (s5_137))))))))))))))
                have s74_279 : a272.eval (.tmp 74) = (.bool false) := up274 _ _ (at_same ((((((((((((hz132.put _ _).put _ _).put _ _).put _ _).put _ _).put _ _).put _ _).put _ _).put _ _).put _ _).put _ _).put _ _) rfl _)
                clear up274
                refine V.cond_f (s74_279) ?_
                refine V.seq (fun K280 hK281 => ?_)
                refine V.plan [[], [0], [], [], [2, 3], [], [], [5, 6], [2, 3, 4, 5, 6, 7], [2, 3, 4, 5, 6, 7, 8], [0, 1, 2, 3, 4, 5, 6, 7, 8, 9], [0, 1, 2, 3, 4, 5, 6, 7, 8, 9, 10], [0, 1, 2, 3, 4, 5, 6, 7, 8, 9, 10, 11]] [([0, 1, 2, 3, 4, 5, 6, 7, 8], some (9, [1])), ([], some (10, [])), ([11], some (12, [])), ([], none)] (by kernel_rfl) (by kernel_rfl) (by exact fun _ _ _ _ h => h) ?_
                simp only [Plan.wpSegs, Plan.pickAll, Plan.nth, V.L_eq]
                obtain ⟨w282, hF283e⟩ : ∃ w1, w1 = w73.drew := ⟨_, rfl⟩
                rw [← hF283e]
                have hF283 : Fr [] w73 w282 := by rw [hF283e]; exact Fr.drew _ _
                have hsw282 : w282.heap.size = w73.heap.size := by rw [hF283e]; rfl
                clear hF283e
                have hB4_284 := hB4_79.fr0 hF283
                have hO_285 := hO_80.fr0 hF283
                have hF_286 := hF_81.new hF283
                have hB5_287 := hB5_82.fr0 hF283
                refine V.go (V.pv [(4, .pointer (some ⟨b10, 0, none⟩))] ⟨(s4_277), trivial⟩ (by kernel_rfl) (.pointer (some ⟨b10, 3, none⟩)) (by kernel_rfl) ?_)
                refine V.go (V.ld ⟨b10, 3, none⟩ (.slice A acc.length c) (at_same hz273 rfl _) (by kernel_rfl) (hB4_284.at 3 rfl) ?_)
                refine V.go (V.mv (v := (.string s)) (at_other rfl _ (at_other rfl _ (s0_275))) ?_)
                refine V.go (V.mv (v := (.int .i64 (k : Int))) (at_other rfl _ (at_other rfl _ (at_other rfl _ (s5_278)))) ?_)
                refine V.go (V.ixs s .i64 (k : Int) (at_other rfl _ (at_same ((hz273.put _ _).put _ _) rfl _)) (at_same (((hz273.put _ _).put _ _).put _ _) rfl _) (by omega) (by omega) (by kernel_rfl) ?_)
                have hb288 := byt_lt s (k : Int)
                refine V.go (V.mv (v := (.string s)) (at_other rfl _ (at_other rfl _ (at_other rfl _ (at_other rfl _ (at_other rfl _ (s0_275)))))) ?_)
                refine V.go (V.mv (v := (.int .i64 (k : Int))) (at_other rfl _ (at_other rfl _ (at_other rfl _ (at_other rfl _ (at_other rfl _ (at_other rfl _ (s5_278))))))) ?_)
                refine V.go (V.ixs s .i64 (k : Int) (at_other rfl _ (at_same (((((hz273.put _ _).put _ _).put _ _).put _ _).put _ _) rfl _)) (at_same ((((((hz273.put _ _).put _ _).put _ _).put _ _).put _ _).put _ _) rfl _) (by omega) (by omega) (by kernel_rfl) ?_)
                have hb289 := byt_lt s (k : Int)
                refine V.go (V.pv [(28, .int .u8 (bi s (k : Int))), (31, .int .u8 (bi s (k : Int)))] ⟨(at_other rfl _ (at_other rfl _ (at_other rfl _ (at_same ((((hz273.put _ _).put _ _).put _ _).put _ _) rfl _)))), (at_same (((((((hz273.put _ _).put _ _).put _ _).put _ _).put _ _).put _ _).put _ _) rfl _), trivial⟩ (by kernel_rfl) (.agg #[.int .u8 (bi s (k : Int)), .int .u8 (bi s (k : Int))]) (by kernel_rfl) ?_)
                refine V.nil ?_
                refine ⟨chk [] trivial (by kernel_rfl), ?_⟩
                refine V.go (V.mk [(32, .agg #[.int .u8 (bi s (k : Int)), .int .u8 (bi s (k : Int))])] ⟨(at_same ((((((((hz273.put _ _).put _ _).put _ _).put _ _).put _ _).put _ _).put _ _).put _ _) rfl _), trivial⟩ (by kernel_rfl) [.int .u8 (bi s (k : Int)), .int .u8 (bi s (k : Int))] 54 (fun b => .slice (some ⟨b, 0, none⟩) 1 1) (by kernel_rfl) ?_)
                intro w291 b290 heb290 hB292 hF293 hsb290
                have hB4_294 := hB4_284.fr0 hF293
                have hO_295 := hO_285.fr0 hF293
                have hF_296 := hF_286.new hF293
                have hB5_297 := hB5_287.fr0 hF293
                refine V.nil ?_
                refine ⟨(fun _ => held_blk (n := 1) (hx := (at_other rfl _ (at_other rfl _ (at_other rfl _ (at_other rfl _ (at_other rfl _ (at_other rfl _ (at_other rfl _ (at_other rfl _ (at_same hz273 rfl _)))))))))) hB4_284 hB4_294 (by kernel_rfl) rfl (by simp only [List.length]; omega)), ?_⟩
                refine V.nil ?_
                refine ⟨chk [] trivial (by kernel_rfl), ?_⟩
                refine V.go (V.app (R := spanR) (ys := ([⟨bi s (k : Int), bi s (k : Int)⟩])) (news := [.int .u8 (bi s (k : Int)), .int .u8 (bi s (k : Int))]) (at_other rfl _ (at_other rfl _ (at_other rfl _ (at_other rfl _ (at_other rfl _ (at_other rfl _ (at_other rfl _ (at_other rfl _ (at_same (hz273.put _ _) rfl _))))))))) ⟨b290, 0, none⟩ 1 1 (at_same (((((((((hz273.put _ _).put _ _).put _ _).put _ _).put _ _).put _ _).put _ _).put _ _).put _ _) rfl _) (by kernel_rfl) (info54) (by kernel_rfl) (by decide) hO_295 rfl ⟨[.int .u8 (bi s (k : Int)), .int .u8 (bi s (k : Int))], [], rfl, rfl, rfl⟩ (blk_cells hB292 0 _ rfl) (by omega) (by decide) (by omega) ?_)
                intro A298 c299 w300 hO301z hF302 hatw300
                have hsw300 := hF302.size
                have hB4_303 := hB4_294.fr hF302 (by first | exact own_notin hO_295 (by omega) | exact own_notin2 hO_80 (by omega))
                have hF_304 := hF_296.own hF302 (own_ge hO_295 (by omega))
                have hB5_305 := hB5_297.fr hF302 (by first | exact own_notin hO_295 (by omega) | exact own_notin2 hO_80 (by omega))
                have hO301 := hO301z.zone (Z' := NoZ) (fun _ _ q => q.1) (fun _ _ q => q)
                refine V.nil ?_
                refine ⟨trivial, ?_⟩
                refine V.go (V.pv [(4, .pointer (some ⟨b10, 0, none⟩))] ⟨(at_other rfl _ (at_other rfl _ (at_other rfl _ (at_other rfl _ (at_other rfl _ (at_other rfl _ (at_other rfl _ (at_other rfl _ (at_other rfl _ (at_other rfl _ (at_other rfl _ (s4_277)))))))))))), trivial⟩ (by kernel_rfl) (.pointer (some ⟨b10, 3, none⟩)) (by kernel_rfl) ?_)
                refine V.nil ?_
                refine ⟨chk [] trivial (by kernel_rfl), ?_⟩
                refine V.go (V.stn b10 3 (.slice A298 (acc.length + 1) c299) [.slice A298 (acc.length + 1) c299] (at_same (((((((((((hz273.put _ _).put _ _).put _ _).put _ _).put _ _).put _ _).put _ _).put _ _).put _ _).put _ _).put _ _) rfl _) (at_other rfl _ (at_same ((((((((((hz273.put _ _).put _ _).put _ _).put _ _).put _ _).put _ _).put _ _).put _ _).put _ _).put _ _) rfl _)) rfl rfl (by kernel_rfl) hB4_303 (by simp) [.int .i64 4, .int .u8 0, .bool neg, .slice A298 (acc.length + 1) c299] rfl ?_)
                intro w306 hB307 hF308 hsw306
                have hF_309 := hF_304.own hF308 (by simp <;> omega)
                have hB5_310 := hB5_305.fr1 hF308 (by omega)
                have hO301_311 := hO301.frn hF308 (fun h => h) (by first | exact own_ne hO301 (by omega) | exact own_ne2 hO301 (by omega))
                refine V.nil ?_
                refine ⟨trivial, ?_⟩
                refine V.nil ?_
                refine ⟨chk [] trivial (by kernel_rfl), ?_⟩
                refine V.then_n (hK281 _ _ ?_)
                refine V.flushW ((((((((((((hz273.put _ _).put _ _).put _ _).put _ _).put _ _).put _ _).put _ _).put _ _).put _ _).put _ _).put _ _).put _ _) (fun a312 hz313 up314 => ?_)
                have s0_315 : a312.eval (.tmp 0) = (.string s) := up314 _ _ (at_other rfl _ (at_other rfl _ (at_other rfl _ (at_other rfl _ (at_other rfl _ (at_other rfl _ (at_other rfl _ (at_other rfl _ (at_other rfl _ (at_other rfl _ (at_other rfl _ (at_other rfl _ (s0_275)))))))))))))
                have s2_316 : a312.eval (.tmp 2) = (.pointer (some ⟨b3, 0, none⟩)) := up314 _ _ (at_other rfl _ (at_other rfl _ (at_other rfl _ (at_other rfl _ (at_other rfl _ (at_other rfl _ (at_other rfl _ (at_other rfl _ (at_other rfl _ (at_other rfl _ (at_other rfl _ (at_other rfl _ (s2_276)))))))))))))
                have s4_317 : a312.eval (.tmp 4) = (.pointer (some ⟨b10, 0, none⟩)) := up314 _ _ (at_other rfl _ (at_other rfl _ (at_other rfl _ (at_other rfl _ (at_other rfl _ (at_other rfl _ (at_other rfl _ (at_other rfl _ (at_other rfl _ (at_other rfl _ (at_other rfl _ (at_other rfl _ (s4_277)))))))))))))
                have s5_318 : a312.eval (.tmp 5) = (.int .i64 (k : Int)) := up314 _ _ (at_other rfl _ (at_other rfl _ (at_other rfl _ (at_other rfl _ (at_other rfl _ (at_other rfl _ (at_other rfl _ (at_other rfl _ (at_other rfl _ (at_other rfl _ (at_other rfl _ (at_other rfl _ (s5_278)))))))))))))
                clear up314
                refine V.region (by kernel_rfl) ?_
                refine V.go (V.mv (v := (.int .i64 (k : Int))) (s5_318) ?_)
                refine V.go (V.pvw [(36, .int .i64 (k : Int))] ⟨(at_same hz313 rfl _), trivial⟩ (by kernel_rfl) (.int .i64 (IntKind.i64.wrap ((k : Int) + 1))) (.int .i64 ((k : Int) + 1)) (by kernel_rfl) (V.w_i64 (by omega) (by omega)) ?_)
                refine V.go (V.asg (v := (.int .i64 ((k : Int) + 1))) (at_same (hz313.put _ _) rfl _) ?_)
                refine V.nil ?_
                refine V.blk_n ?_
                refine V.blk_n ?_
                refine V.then_n ?_
                have hstep := sp_one (s := s) (k := k) (by omega) (by omega) (by omega) (by intro h; show bi s ((k : Int) + 1) ≠ 45; omega)
                rw [hstep] at hsp
                refine ⟨k + 1, acc ++ [⟨bi s (k : Int), bi s (k : Int)⟩], A298, c299, by omega, ?_⟩
                refine ⟨(((hz313.put _ _).put _ _).put _ _), ?_, ?_, ?_, ?_, (by simpa using hB307), (by simpa using hO301_311), hF_309, hB5_310, (by omega), (by simp; omega), ⟨by simpa using hsp.1, by have := hsp.2; simp only [] at this; omega⟩⟩
                · exact (at_other rfl _ (at_other rfl _ (at_other rfl _ (s0_315))))
                · exact (at_other rfl _ (at_other rfl _ (at_other rfl _ (s2_316))))
                · exact (at_other rfl _ (at_other rfl _ (at_other rfl _ (s4_317))))
                · exact Eq.trans (at_same ((hz313.put _ _).put _ _) rfl _) (V.int_eq (by omega))
          ·
            refine V.go_off 51 (by kernel_rfl) (((at_same ((((hz103.put _ _).put _ _).put _ _).put _ _) rfl _ : Act.eval _ _ = (.bool (decide ((bi s (k : Int)) = 92))))).trans (df hg130)) (by kernel_rfl) ?_
            refine V.go_off 51 (by kernel_rfl) (((at_other rfl _ (at_same ((((hz103.put _ _).put _ _).put _ _).put _ _) rfl _) : Act.eval _ _ = (.bool (decide ((bi s (k : Int)) = 92))))).trans (df hg130)) (by kernel_rfl) ?_
            refine V.go_off 51 (by kernel_rfl) (((at_other rfl _ (at_other rfl _ (at_same ((((hz103.put _ _).put _ _).put _ _).put _ _) rfl _)) : Act.eval _ _ = (.bool (decide ((bi s (k : Int)) = 92))))).trans (df hg130)) (by kernel_rfl) ?_
            refine V.go_off 51 (by kernel_rfl) (((at_other rfl _ (at_other rfl _ (at_other rfl _ (at_same ((((hz103.put _ _).put _ _).put _ _).put _ _) rfl _))) : Act.eval _ _ = (.bool (decide ((bi s (k : Int)) = 92))))).trans (df hg130)) (by kernel_rfl) ?_
            refine V.go_off 51 (by kernel_rfl) (((at_other rfl _ (at_other rfl _ (at_other rfl _ (at_other rfl _ (at_same ((((hz103.put _ _).put _ _).put _ _).put _ _) rfl _)))) : Act.eval _ _ = (.bool (decide ((bi s (k : Int)) = 92))))).trans (df hg130)) (by kernel_rfl) ?_
            refine V.go (V.pk_f (((at_other rfl _ (at_other rfl _ (at_other rfl _ (at_other rfl _ (at_other rfl _ (at_same ((((hz103.put _ _).put _ _).put _ _).put _ _) rfl _))))) : Act.eval _ _ = (.bool (decide ((bi s (k : Int)) = 92))))).trans (df hg130)) (v := (.bool false)) evc ?_)
            refine V.go (V.asg (v := (.bool false)) (at_same ((((((((((hz103.put _ _).put _ _).put _ _).put _ _).put _ _).put _ _).put _ _).put _ _).put _ _).put _ _) rfl _) ?_)
            refine V.nil ?_
            refine V.then_n (hK128 _ _ ?_)
            refine V.flushW ((((((((((((hz103.put _ _).put _ _).put _ _).put _ _).put _ _).put _ _).put _ _).put _ _).put _ _).put _ _).put _ _).put _ _) (fun a319 hz320 up321 => ?_)
            have s0_322 : a319.eval (.tmp 0) = (.string s) := up321 _ _ (at_other rfl _ (at_other rfl _ (at_other rfl _ (at_other rfl _ (at_other rfl _ (at_other rfl _ (at_other rfl _ (at_other rfl _ (at_other rfl _ (at_other rfl _ (at_other rfl _ (at_other rfl _ (s0_105)))))))))))))
            have s2_323 : a319.eval (.tmp 2) = (.pointer (some ⟨b3, 0, none⟩)) := up321 _ _ (at_other rfl _ (at_other rfl _ (at_other rfl _ (at_other rfl _ (at_other rfl _ (at_other rfl _ (at_other rfl _ (at_other rfl _ (at_other rfl _ (at_other rfl _ (at_other rfl _ (at_other rfl _ (s2_106)))))))))))))
            have s4_324 : a319.eval (.tmp 4) = (.pointer (some ⟨b10, 0, none⟩)) := up321 _ _ (at_other rfl _ (at_other rfl _ (at_other rfl _ (at_other rfl _ (at_other rfl _ (at_other rfl _ (at_other rfl _ (at_other rfl _ (at_other rfl _ (at_other rfl _ (at_other rfl _ (at_other rfl _ (s4_107)))))))))))))
            have s5_325 : a319.eval (.tmp 5) = (.int .i64 (k : Int)) := up321 _ _ (at_other rfl _ (at_other rfl _ (at_other rfl _ (at_other rfl _ (at_other rfl _ (at_other rfl _ (at_other rfl _ (at_other rfl _ (at_other rfl _ (at_other rfl _ (at_other rfl _ (at_other rfl _ (s5_108)))))))))))))
            have s46_326 : a319.eval (.tmp 46) = (.bool false) := up321 _ _ (at_same (((((((((((hz103.put _ _).put _ _).put _ _).put _ _).put _ _).put _ _).put _ _).put _ _).put _ _).put _ _).put _ _) rfl _)
            clear up321
            refine V.cond_f (s46_326) ?_
            refine V.seq (fun K327 hK328 => ?_)
            refine V.region (by kernel_rfl) ?_
            refine V.go (V.mv (v := (.int .i64 (k : Int))) (s5_325) ?_)
            refine V.go (V.pvw [(75, .int .i64 (k : Int))] ⟨(at_same hz320 rfl _), trivial⟩ (by kernel_rfl) (.int .i64 (IntKind.i64.wrap ((k : Int) + 2))) (.int .i64 ((k : Int) + 2)) (by kernel_rfl) (V.w_i64 (by omega) (by omega)) ?_)
            refine V.go (V.mv (v := (.string s)) (at_other rfl _ (at_other rfl _ (s0_322))) ?_)
            refine V.go (V.pv [(77, .string s)] ⟨(at_same ((hz320.put _ _).put _ _) rfl _), trivial⟩ (by kernel_rfl) (.int .i64 (s.size : Int)) (by kernel_rfl) ?_)
            refine V.go (V.pv [(76, .int .i64 ((k : Int) + 2)), (78, .int .i64 (s.size : Int))] ⟨(at_other rfl _ (at_other rfl _ (at_same (hz320.put _ _) rfl _))), (at_same (((hz320.put _ _).put _ _).put _ _) rfl _), trivial⟩ (by kernel_rfl) (.bool (decide (((k : Int) + 2) < (s.size : Int)))) (by kernel_rfl) ?_)
            refine V.go (V.mv (v := (.bool (decide (((k : Int) + 2) < (s.size : Int))))) (at_same ((((hz320.put _ _).put _ _).put _ _).put _ _) rfl _) ?_)
            by_cases hg329 : ((k : Int) + 2) < (s.size : Int)
            ·
              refine V.go_on 80 (by kernel_rfl) (((at_same (((((hz320.put _ _).put _ _).put _ _).put _ _).put _ _) rfl _ : Act.eval _ _ = (.bool (decide (((k : Int) + 2) < (s.size : Int)))))).trans (dt hg329)) (V.mv (v := (.string s)) (at_other rfl _ (at_other rfl _ (at_other rfl _ (at_other rfl _ (at_other rfl _ (at_other rfl _ (s0_322))))))) ?_)
              refine V.go_on 80 (by kernel_rfl) (((at_other rfl _ (at_same (((((hz320.put _ _).put _ _).put _ _).put _ _).put _ _) rfl _) : Act.eval _ _ = (.bool (decide (((k : Int) + 2) < (s.size : Int)))))).trans (dt hg329)) (V.mv (v := (.int .i64 (k : Int))) (at_other rfl _ (at_other rfl _ (at_other rfl _ (at_other rfl _ (at_other rfl _ (at_other rfl _ (at_other rfl _ (s5_325)))))))) ?_)
              refine V.go_on 80 (by kernel_rfl) (((at_other rfl _ (at_other rfl _ (at_same (((((hz320.put _ _).put _ _).put _ _).put _ _).put _ _) rfl _)) : Act.eval _ _ = (.bool (decide (((k : Int) + 2) < (s.size : Int)))))).trans (dt hg329)) (V.pvw [(82, .int .i64 (k : Int))] ⟨(at_same (((((((hz320.put _ _).put _ _).put _ _).put _ _).put _ _).put _ _).put _ _) rfl _), trivial⟩ (by kernel_rfl) (.int .i64 (IntKind.i64.wrap ((k : Int) + 1))) (.int .i64 ((k : Int) + 1)) (by kernel_rfl) (V.w_i64 (by omega) (by omega)) ?_)
              refine V.go_on 80 (by kernel_rfl) (((at_other rfl _ (at_other rfl _ (at_other rfl _ (at_same (((((hz320.put _ _).put _ _).put _ _).put _ _).put _ _) rfl _))) : Act.eval _ _ = (.bool (decide (((k : Int) + 2) < (s.size : Int)))))).trans (dt hg329)) (V.ixs s .i64 ((k : Int) + 1) (at_other rfl _ (at_other rfl _ (at_same ((((((hz320.put _ _).put _ _).put _ _).put _ _).put _ _).put _ _) rfl _))) (at_same ((((((((hz320.put _ _).put _ _).put _ _).put _ _).put _ _).put _ _).put _ _).put _ _) rfl _) (by omega) (by omega) (by kernel_rfl) ?_)
              have hb330 := byt_lt s ((k : Int) + 1)
              refine V.go_on 80 (by kernel_rfl) (((at_other rfl _ (at_other rfl _ (at_other rfl _ (at_other rfl _ (at_same (((((hz320.put _ _).put _ _).put _ _).put _ _).put _ _) rfl _)))) : Act.eval _ _ = (.bool (decide (((k : Int) + 2) < (s.size : Int)))))).trans (dt hg329)) (V.pvw [(84, .int .u8 (bi s ((k : Int) + 1)))] ⟨(at_same (((((((((hz320.put _ _).put _ _).put _ _).put _ _).put _ _).put _ _).put _ _).put _ _).put _ _) rfl _), trivial⟩ (by kernel_rfl) (.bool ((bi s ((k : Int) + 1)) == 45)) (.bool (decide ((bi s ((k : Int) + 1)) = 45))) (by kernel_rfl) V.t_eql ?_)
              refine V.go (V.pk_t (((at_other rfl _ (at_other rfl _ (at_other rfl _ (at_other rfl _ (at_other rfl _ (at_same (((((hz320.put _ _).put _ _).put _ _).put _ _).put _ _) rfl _))))) : Act.eval _ _ = (.bool (decide (((k : Int) + 2) < (s.size : Int)))))).trans (dt hg329)) (v := (.bool (decide ((bi s ((k : Int) + 1)) = 45)))) (at_same ((((((((((hz320.put _ _).put _ _).put _ _).put _ _).put _ _).put _ _).put _ _).put _ _).put _ _).put _ _) rfl _) ?_)
              refine V.go (V.asg (v := (.bool (decide ((bi s ((k : Int) + 1)) = 45)))) (at_same (((((((((((hz320.put _ _).put _ _).put _ _).put _ _).put _ _).put _ _).put _ _).put _ _).put _ _).put _ _).put _ _) rfl _) ?_)
              refine V.nil ?_
              refine V.then_n (hK328 _ _ ?_)
              refine V.flushW (((((((((((((hz320.put _ _).put _ _).put _ _).put _ _).put _ _).put _ _).put _ _).put _ _).put _ _).put _ _).put _ _).put _ _).put _ _) (fun a331 hz332 up333 => ?_)
              have s0_334 : a331.eval (.tmp 0) = (.string s) := up333 _ _ (at_other rfl _ (at_other rfl _ (at_other rfl _ (at_other rfl _ (at_other rfl _ (at_other rfl _ (at_other rfl _ (at_other rfl _ (at_other rfl _ (at_other rfl _ (at_other rfl _ (at_other rfl _ (at_other rfl _ (s0_322))))))))))))))
              have s2_335 : a331.eval (.tmp 2) = (.pointer (some ⟨b3, 0, none⟩)) := up333 _ _ (at_other rfl _ (at_other rfl _ (at_other rfl _ (at_other rfl _ (at_other rfl _ (at_other rfl _ (at_other rfl _ (at_other rfl _ (at_other rfl _ (at_other rfl _ (at_other rfl _ (at_other rfl _ (at_other rfl _ (s2_323))))))))))))))
              have s4_336 : a331.eval (.tmp 4) = (.pointer (some ⟨b10, 0, none⟩)) := up333 _ _ (at_other rfl _ (at_other rfl _ (at_other rfl _ (at_other rfl _ (at_other rfl _ (at_other rfl _ (at_other rfl _ (at_other rfl _ (at_other rfl _ (at_other rfl _ (at_other rfl _ (at_other rfl _ (at_other rfl _ (s4_324))))))))))))))
              have s5_337 : a331.eval (.tmp 5) = (.int .i64 (k : Int)) := up333 _ _ (at_other rfl _ (at_other rfl _ (at_other rfl _ (at_other rfl _ (at_other rfl _ (at_other rfl _ (at_other rfl _ (at_other rfl _ (at_other rfl _ (at_other rfl _ (at_other rfl _ (at_other rfl _ (at_other rfl _ (s5_325))))))))))))))
              have s74_338 : a331.eval (.tmp 74) = (.bool (decide ((bi s ((k : Int) + 1)) = 45))) := up333 _ _ (at_same ((((((((((((hz320.put _ _).put _ _).put _ _).put _ _).put _ _).put _ _).put _ _).put _ _).put _ _).put _ _).put _ _).put _ _) rfl _)
              clear up333
              refine V.condP (p := (bi s ((k : Int) + 1)) = 45) (s74_338) (fun ht339 => ?_) (fun ht339 => ?_)
              ·
                refine V.seq (fun K340 hK341 => ?_)
                refine V.plan [[], [0], [], [], [2, 3], [], [], [6], [5, 6, 7], [2, 3, 4, 5, 6, 7, 8], [], [], [10, 11], [], [], [14], [13, 14, 15], [10, 11, 12, 13, 14, 15, 16], [2, 3, 4, 5, 6, 7, 8, 9, 10, 11, 12, 13, 14, 15, 16, 17], [2, 3, 4, 5, 6, 7, 8, 9, 10, 11, 12, 13, 14, 15, 16, 17, 18], [0, 1, 2, 3, 4, 5, 6, 7, 8, 9, 10, 11, 12, 13, 14, 15, 16, 17, 18, 19], [0, 1, 2, 3, 4, 5, 6, 7, 8, 9, 10, 11, 12, 13, 14, 15, 16, 17, 18, 19, 20], [0, 1, 2, 3, 4, 5, 6, 7, 8, 9, 10, 11, 12, 13, 14, 15, 16, 17, 18, 19, 20, 21]] [([0, 1, 2, 3, 4, 5, 6, 7, 8, 9, 10, 11, 12, 13, 14, 15, 16, 17, 18], some (19, [1])), ([], some (20, [])), ([21], some (22, [])), ([], none)] (by kernel_rfl) (by kernel_rfl) (by exact fun _ _ _ _ h => h) ?_
                simp only [Plan.wpSegs, Plan.pickAll, Plan.nth, V.L_eq]
                obtain ⟨w342, hF343e⟩ : ∃ w1, w1 = w73.drew := ⟨_, rfl⟩
                rw [← hF343e]
                have hF343 : Fr [] w73 w342 := by rw [hF343e]; exact Fr.drew _ _
                have hsw342 : w342.heap.size = w73.heap.size := by rw [hF343e]; rfl
                clear hF343e
                have hB4_344 := hB4_79.fr0 hF343
                have hO_345 := hO_80.fr0 hF343
                have hF_346 := hF_81.new hF343
                have hB5_347 := hB5_82.fr0 hF343
                refine V.go (V.pv [(4, .pointer (some ⟨b10, 0, none⟩))] ⟨(s4_336), trivial⟩ (by kernel_rfl) (.pointer (some ⟨b10, 3, none⟩)) (by kernel_rfl) ?_)
                refine V.go (V.ld ⟨b10, 3, none⟩ (.slice A acc.length c) (at_same hz332 rfl _) (by kernel_rfl) (hB4_344.at 3 rfl) ?_)
                refine V.go (V.mv (v := (.string s)) (at_other rfl _ (at_other rfl _ (s0_334))) ?_)
                refine V.go (V.mv (v := (.int .i64 (k : Int))) (at_other rfl _ (at_other rfl _ (at_other rfl _ (s5_337)))) ?_)
                refine V.go (V.ixs s .i64 (k : Int) (at_other rfl _ (at_same ((hz332.put _ _).put _ _) rfl _)) (at_same (((hz332.put _ _).put _ _).put _ _) rfl _) (by omega) (by omega) (by kernel_rfl) ?_)
                have hb348 := byt_lt s (k : Int)
                refine V.go (V.mv (v := (.string s)) (at_other rfl _ (at_other rfl _ (at_other rfl _ (at_other rfl _ (at_other rfl _ (s0_334)))))) ?_)
                refine V.go (V.mv (v := (.int .i64 (k : Int))) (at_other rfl _ (at_other rfl _ (at_other rfl _ (at_other rfl _ (at_other rfl _ (at_other rfl _ (s5_337))))))) ?_)
                refine V.go (V.pvw [(93, .int .i64 (k : Int))] ⟨(at_same ((((((hz332.put _ _).put _ _).put _ _).put _ _).put _ _).put _ _) rfl _), trivial⟩ (by kernel_rfl) (.int .i64 (IntKind.i64.wrap ((k : Int) + 2))) (.int .i64 ((k : Int) + 2)) (by kernel_rfl) (V.w_i64 (by omega) (by omega)) ?_)
                refine V.go (V.ixs s .i64 ((k : Int) + 2) (at_other rfl _ (at_other rfl _ (at_same (((((hz332.put _ _).put _ _).put _ _).put _ _).put _ _) rfl _))) (at_same (((((((hz332.put _ _).put _ _).put _ _).put _ _).put _ _).put _ _).put _ _) rfl _) (by omega) (by omega) (by kernel_rfl) ?_)
                have hb349 := byt_lt s ((k : Int) + 2)
                refine V.go (V.pvw [(91, .int .u8 (bi s (k : Int))), (95, .int .u8 (bi s ((k : Int) + 2)))] ⟨(at_other rfl _ (at_other rfl _ (at_other rfl _ (at_other rfl _ (at_same ((((hz332.put _ _).put _ _).put _ _).put _ _) rfl _))))), (at_same ((((((((hz332.put _ _).put _ _).put _ _).put _ _).put _ _).put _ _).put _ _).put _ _) rfl _), trivial⟩ (by kernel_rfl) (.int .u8 (if (bi s ((k : Int) + 2)) < (bi s (k : Int)) then (bi s ((k : Int) + 2)) else (bi s (k : Int)))) (.int .u8 (min (bi s (k : Int)) (bi s ((k : Int) + 2)))) (by kernel_rfl) V.min_int ?_)
                refine V.go (V.mv (v := (.string s)) (at_other rfl _ (at_other rfl _ (at_other rfl _ (at_other rfl _ (at_other rfl _ (at_other rfl _ (at_other rfl _ (at_other rfl _ (at_other rfl _ (at_other rfl _ (s0_334))))))))))) ?_)
                refine V.go (V.mv (v := (.int .i64 (k : Int))) (at_other rfl _ (at_other rfl _ (at_other rfl _ (at_other rfl _ (at_other rfl _ (at_other rfl _ (at_other rfl _ (at_other rfl _ (at_other rfl _ (at_other rfl _ (at_other rfl _ (s5_337)))))))))))) ?_)
                refine V.go (V.ixs s .i64 (k : Int) (at_other rfl _ (at_same ((((((((((hz332.put _ _).put _ _).put _ _).put _ _).put _ _).put _ _).put _ _).put _ _).put _ _).put _ _) rfl _)) (at_same (((((((((((hz332.put _ _).put _ _).put _ _).put _ _).put _ _).put _ _).put _ _).put _ _).put _ _).put _ _).put _ _) rfl _) (by omega) (by omega) (by kernel_rfl) ?_)
                have hb350 := byt_lt s (k : Int)
                refine V.go (V.mv (v := (.string s)) (at_other rfl _ (at_other rfl _ (at_other rfl _ (at_other rfl _ (at_other rfl _ (at_other rfl _ (at_other rfl _ (at_other rfl _ (at_other rfl _ (at_other rfl _ (at_other rfl _ (at_other rfl _ (at_other rfl _ (s0_334)))))))))))))) ?_)
                refine V.go (V.mv (v := (.int .i64 (k : Int))) (at_other rfl _ (at_other rfl _ (at_other rfl _ (at_other rfl _ (at_other rfl _ (at_other rfl _ (at_other rfl _ (at_other rfl _ (at_other rfl _ (at_other rfl _ (at_other rfl _ (at_other rfl _ (at_other rfl _ (at_other rfl _ (s5_337))))))))))))))) ?_)
                refine V.go (V.pvw [(101, .int .i64 (k : Int))] ⟨(at_same ((((((((((((((hz332.put _ _).put _ _).put _ _).put _ _).put _ _).put _ _).put _ _).put _ _).put _ _).put _ _).put _ _).put _ _).put _ _).put _ _) rfl _), trivial⟩ (by kernel_rfl) (.int .i64 (IntKind.i64.wrap ((k : Int) + 2))) (.int .i64 ((k : Int) + 2)) (by kernel_rfl) (V.w_i64 (by omega) (by omega)) ?_)
                refine V.go (V.ixs s .i64 ((k : Int) + 2) (at_other rfl _ (at_other rfl _ (at_same (((((((((((((hz332.put _ _).put _ _).put _ _).put _ _).put _ _).put _ _).put _ _).put _ _).put _ _).put _ _).put _ _).put _ _).put _ _) rfl _))) (at_same (((((((((((((((hz332.put _ _).put _ _).put _ _).put _ _).put _ _).put _ _).put _ _).put _ _).put _ _).put _ _).put _ _).put _ _).put _ _).put _ _).put _ _) rfl _) (by omega) (by omega) (by kernel_rfl) ?_)
                have hb351 := byt_lt s ((k : Int) + 2)
                refine V.go (V.pvw [(99, .int .u8 (bi s (k : Int))), (103, .int .u8 (bi s ((k : Int) + 2)))] ⟨(at_other rfl _ (at_other rfl _ (at_other rfl _ (at_other rfl _ (at_same ((((((((((((hz332.put _ _).put _ _).put _ _).put _ _).put _ _).put _ _).put _ _).put _ _).put _ _).put _ _).put _ _).put _ _) rfl _))))), (at_same ((((((((((((((((hz332.put _ _).put _ _).put _ _).put _ _).put _ _).put _ _).put _ _).put _ _).put _ _).put _ _).put _ _).put _ _).put _ _).put _ _).put _ _).put _ _) rfl _), trivial⟩ (by kernel_rfl) (.int .u8 (if (bi s ((k : Int) + 2)) > (bi s (k : Int)) then (bi s ((k : Int) + 2)) else (bi s (k : Int)))) (.int .u8 (max (bi s (k : Int)) (bi s ((k : Int) + 2)))) (by kernel_rfl) V.max_int ?_)
                refine V.go (V.pv [(96, .int .u8 (min (bi s (k : Int)) (bi s ((k : Int) + 2)))), (104, .int .u8 (max (bi s (k : Int)) (bi s ((k : Int) + 2))))] ⟨(at_other rfl _ (at_other rfl _ (at_other rfl _ (at_other rfl _ (at_other rfl _ (at_other rfl _ (at_other rfl _ (at_other rfl _ (at_same (((((((((hz332.put _ _).put _ _).put _ _).put _ _).put _ _).put _ _).put _ _).put _ _).put _ _) rfl _))))))))), (at_same (((((((((((((((((hz332.put _ _).put _ _).put _ _).put _ _).put _ _).put _ _).put _ _).put _ _).put _ _).put _ _).put _ _).put _ _).put _ _).put _ _).put _ _).put _ _).put _ _) rfl _), trivial⟩ (by kernel_rfl) (.agg #[.int .u8 (min (bi s (k : Int)) (bi s ((k : Int) + 2))), .int .u8 (max (bi s (k : Int)) (bi s ((k : Int) + 2)))]) (by kernel_rfl) ?_)
                refine V.nil ?_
                refine ⟨chk [(93, .int .i64 (k : Int)), (91, .int .u8 (bi s (k : Int))), (95, .int .u8 (bi s ((k : Int) + 2))), (101, .int .i64 (k : Int)), (99, .int .u8 (bi s (k : Int))), (103, .int .u8 (bi s ((k : Int) + 2)))] ⟨(at_other rfl _ (at_other rfl _ (at_other rfl _ (at_other rfl _ (at_other rfl _ (at_other rfl _ (at_other rfl _ (at_other rfl _ (at_other rfl _ (at_other rfl _ (at_other rfl _ (at_other rfl _ (at_same ((((((hz332.put _ _).put _ _).put _ _).put _ _).put _ _).put _ _) rfl _))))))))))))), (at_other rfl _ (at_other rfl _ (at_other rfl _ (at_other rfl _ (at_other rfl _ (at_other rfl _ (at_other rfl _ (at_other rfl _ (at_other rfl _ (at_other rfl _ (at_other rfl _ (at_other rfl _ (at_other rfl _ (at_other rfl _ (at_same ((((hz332.put _ _).put _ _).put _ _).put _ _) rfl _))))))))))))))), (at_other rfl _ (at_other rfl _ (at_other rfl _ (at_other rfl _ (at_other rfl _ (at_other rfl _ (at_other rfl _ (at_other rfl _ (at_other rfl _ (at_other rfl _ (at_same ((((((((hz332.put _ _).put _ _).put _ _).put _ _).put _ _).put _ _).put _ _).put _ _) rfl _))))))))))), (at_other rfl _ (at_other rfl _ (at_other rfl _ (at_other rfl _ (at_same ((((((((((((((hz332.put _ _).put _ _).put _ _).put _ _).put _ _).put _ _).put _ _).put _ _).put _ _).put _ _).put _ _).put _ _).put _ _).put _ _) rfl _))))), (at_other rfl _ (at_other rfl _ (at_other rfl _ (at_other rfl _ (at_other rfl _ (at_other rfl _ (at_same ((((((((((((hz332.put _ _).put _ _).put _ _).put _ _).put _ _).put _ _).put _ _).put _ _).put _ _).put _ _).put _ _).put _ _) rfl _))))))), (at_other rfl _ (at_other rfl _ (at_same ((((((((((((((((hz332.put _ _).put _ _).put _ _).put _ _).put _ _).put _ _).put _ _).put _ _).put _ _).put _ _).put _ _).put _ _).put _ _).put _ _).put _ _).put _ _) rfl _))), trivial⟩ (by kernel_rfl), ?_⟩
                refine V.go (V.mk [(105, .agg #[.int .u8 (min (bi s (k : Int)) (bi s ((k : Int) + 2))), .int .u8 (max (bi s (k : Int)) (bi s ((k : Int) + 2)))])] ⟨(at_same ((((((((((((((((((hz332.put _ _).put _ _).put _ _).put _ _).put _ _).put _ _).put _ _).put _ _).put _ _).put _ _).put _ _).put _ _).put _ _).put _ _).put _ _).put _ _).put _ _).put _ _) rfl _), trivial⟩ (by kernel_rfl) [.int .u8 (min (bi s (k : Int)) (bi s ((k : Int) + 2))), .int .u8 (max (bi s (k : Int)) (bi s ((k : Int) + 2)))] 54 (fun b => .slice (some ⟨b, 0, none⟩) 1 1) (by kernel_rfl) ?_)
                intro w353 b352 heb352 hB354 hF355 hsb352
                have hB4_356 := hB4_344.fr0 hF355
                have hO_357 := hO_345.fr0 hF355
                have hF_358 := hF_346.new hF355
                have hB5_359 := hB5_347.fr0 hF355
                refine V.nil ?_
                refine ⟨(fun _ => held_blk (n := 1) (hx := (at_other rfl _ (at_other rfl _ (at_other rfl _ (at_other rfl _ (at_other rfl _ (at_other rfl _ (at_other rfl _ (at_other rfl _ (at_other rfl _ (at_other rfl _ (at_other rfl _ (at_other rfl _ (at_other rfl _ (at_other rfl _ (at_other rfl _ (at_other rfl _ (at_other rfl _ (at_other rfl _ (at_same hz332 rfl _)))))))))))))))))))) hB4_344 hB4_356 (by kernel_rfl) rfl (by simp only [List.length]; omega)), ?_⟩
                refine V.nil ?_
                refine ⟨chk [] trivial (by kernel_rfl), ?_⟩
                refine V.go (V.app (R := spanR) (ys := ([⟨min (bi s (k : Int)) (bi s ((k : Int) + 2)), max (bi s (k : Int)) (bi s ((k : Int) + 2))⟩])) (news := [.int .u8 (min (bi s (k : Int)) (bi s ((k : Int) + 2))), .int .u8 (max (bi s (k : Int)) (bi s ((k : Int) + 2)))]) (at_other rfl _ (at_other rfl _ (at_other rfl _ (at_other rfl _ (at_other rfl _ (at_other rfl _ (at_other rfl _ (at_other rfl _ (at_other rfl _ (at_other rfl _ (at_other rfl _ (at_other rfl _ (at_other rfl _ (at_other rfl _ (at_other rfl _ (at_other rfl _ (at_other rfl _ (at_other rfl _ (at_same (hz332.put _ _) rfl _))))))))))))))))))) ⟨b352, 0, none⟩ 1 1 (at_same (((((((((((((((((((hz332.put _ _).put _ _).put _ _).put _ _).put _ _).put _ _).put _ _).put _ _).put _ _).put _ _).put _ _).put _ _).put _ _).put _ _).put _ _).put _ _).put _ _).put _ _).put _ _) rfl _) (by kernel_rfl) (info54) (by kernel_rfl) (by decide) hO_357 rfl ⟨[.int .u8 (min (bi s (k : Int)) (bi s ((k : Int) + 2))), .int .u8 (max (bi s (k : Int)) (bi s ((k : Int) + 2)))], [], rfl, rfl, rfl⟩ (blk_cells hB354 0 _ rfl) (by omega) (by decide) (by omega) ?_)
                intro A360 c361 w362 hO363z hF364 hatw362
                have hsw362 := hF364.size
                have hB4_365 := hB4_356.fr hF364 (by first | exact own_notin hO_357 (by omega) | exact own_notin2 hO_80 (by omega))
                have hF_366 := hF_358.own hF364 (own_ge hO_357 (by omega))
                have hB5_367 := hB5_359.fr hF364 (by first | exact own_notin hO_357 (by omega) | exact own_notin2 hO_80 (by omega))
                have hO363 := hO363z.zone (Z' := NoZ) (fun _ _ q => q.1) (fun _ _ q => q)
                refine V.nil ?_
                refine ⟨trivial, ?_⟩
                refine V.go (V.pv [(4, .pointer (some ⟨b10, 0, none⟩))] ⟨(at_other rfl _ (at_other rfl _ (at_other rfl _ (at_other rfl _ (at_other rfl _ (at_other rfl _ (at_other rfl _ (at_other rfl _ (at_other rfl _ (at_other rfl _ (at_other rfl _ (at_other rfl _ (at_other rfl _ (at_other rfl _ (at_other rfl _ (at_other rfl _ (at_other rfl _ (at_other rfl _ (at_other rfl _ (at_other rfl _ (at_other rfl _ (s4_336)))))))))))))))))))))), trivial⟩ (by kernel_rfl) (.pointer (some ⟨b10, 3, none⟩)) (by kernel_rfl) ?_)
                refine V.nil ?_
                refine ⟨chk [] trivial (by kernel_rfl), ?_⟩
                refine V.go (V.stn b10 3 (.slice A360 (acc.length + 1) c361) [.slice A360 (acc.length + 1) c361] (at_same (((((((((((((((((((((hz332.put _ _).put _ _).put _ _).put _ _).put _ _).put _ _).put _ _).put _ _).put _ _).put _ _).put _ _).put _ _).put _ _).put _ _).put _ _).put _ _).put _ _).put _ _).put _ _).put _ _).put _ _) rfl _) (at_other rfl _ (at_same ((((((((((((((((((((hz332.put _ _).put _ _).put _ _).put _ _).put _ _).put _ _).put _ _).put _ _).put _ _).put _ _).put _ _).put _ _).put _ _).put _ _).put _ _).put _ _).put _ _).put _ _).put _ _).put _ _) rfl _)) rfl rfl (by kernel_rfl) hB4_365 (by simp) [.int .i64 4, .int .u8 0, .bool neg, .slice A360 (acc.length + 1) c361] rfl ?_)
                intro w368 hB369 hF370 hsw368
                have hF_371 := hF_366.own hF370 (by simp <;> omega)
                have hB5_372 := hB5_367.fr1 hF370 (by omega)
                have hO363_373 := hO363.frn hF370 (fun h => h) (by first | exact own_ne hO363 (by omega) | exact own_ne2 hO363 (by omega))
                refine V.nil ?_
                refine ⟨trivial, ?_⟩
                refine V.nil ?_
                refine ⟨chk [] trivial (by kernel_rfl), ?_⟩
                refine V.then_n (hK341 _ _ ?_)
                refine V.flushW ((((((((((((((((((((((hz332.put _ _).put _ _).put _ _).put _ _).put _ _).put _ _).put _ _).put _ _).put _ _).put _ _).put _ _).put _ _).put _ _).put _ _).put _ _).put _ _).put _ _).put _ _).put _ _).put _ _).put _ _).put _ _) (fun a374 hz375 up376 => ?_)
                have s0_377 : a374.eval (.tmp 0) = (.string s) := up376 _ _ (at_other rfl _ (at_other rfl _ (at_other rfl _ (at_other rfl _ (at_other rfl _ (at_other rfl _ (at_other rfl _ (at_other rfl _ (at_other rfl _ (at_other rfl _ (at_other rfl _ (at_other rfl _ (at_other rfl _ (at_other rfl _ (at_other rfl _ (at_other rfl _ (at_other rfl _ (at_other rfl _ (at_other rfl _ (at_other rfl _ (at_other rfl _ (at_other rfl _ (s0_334)))))))))))))))))))))))
                have s2_378 : a374.eval (.tmp 2) = (.pointer (some ⟨b3, 0, none⟩)) := up376 _ _ (at_other rfl _ (at_other rfl _ (at_other rfl _ (at_other rfl _ (at_other rfl _ (at_other rfl _ (at_other rfl _ (at_other rfl _ (at_other rfl _ (at_other rfl _ (at_other rfl _ (at_other rfl _ (at_other rfl _ (at_other rfl _ (at_other rfl _ (at_other rfl _ (at_other rfl _ (at_other rfl _ (at_other rfl _ (at_other rfl _ (at_other rfl _ (at_other rfl _ (s2_335)))))))))))))))))))))))
                have s4_379 : a374.eval (.tmp 4) = (.pointer (some ⟨b10, 0, none⟩)) := up376 _ _ (at_other rfl _ (at_other rfl _ (at_other rfl _ (at_other rfl _ (at_other rfl _ (at_other rfl _ (at_other rfl _ (at_other rfl _ (at_other rfl _ (at_other rfl _ (at_other rfl _ (at_other rfl _ (at_other rfl _ (at_other rfl _ (at_other rfl _ (at_other rfl _ (at_other rfl _ (at_other rfl _ (at_other rfl _ (at_other rfl _ (at_other rfl _ (at_other rfl _ (s4_336)))))))))))))))))))))))
                have s5_380 : a374.eval (.tmp 5) = (.int .i64 (k : Int)) := up376 _ _ (at_other rfl _ (at_other rfl _ (at_other rfl _ (at_other rfl _ (at_other rfl _ (at_other rfl _ (at_other rfl _ (at_other rfl _ (at_other rfl _ (at_other rfl _ (at_other rfl _ (at_other rfl _ (at_other rfl _ (at_other rfl _ (at_other rfl _ (at_other rfl _ (at_other rfl _ (at_other rfl _ (at_other rfl _ (at_other rfl _ (at_other rfl _ (at_other rfl _ (s5_337)))))))))))))))))))))))
                clear up376
                refine V.region (by kernel_rfl) ?_
                refine V.go (V.mv (v := (.int .i64 (k : Int))) (s5_380) ?_)
                refine V.go (V.pvw [(109, .int .i64 (k : Int))] ⟨(at_same hz375 rfl _), trivial⟩ (by kernel_rfl) (.int .i64 (IntKind.i64.wrap ((k : Int) + 3))) (.int .i64 ((k : Int) + 3)) (by kernel_rfl) (V.w_i64 (by omega) (by omega)) ?_)
                refine V.go (V.asg (v := (.int .i64 ((k : Int) + 3))) (at_same (hz375.put _ _) rfl _) ?_)
                refine V.nil ?_
                refine V.blk_n ?_
                refine V.blk_n ?_
                refine V.then_n ?_
                have hstep := sp_range (s := s) (k := k) (by omega) (by omega) (by omega) (by show bi s ((k : Int) + 1) = 45; assumption)
                rw [hstep] at hsp
                refine ⟨k + 3, acc ++ [⟨min (bi s (k : Int)) (bi s ((k : Int) + 2)), max (bi s (k : Int)) (bi s ((k : Int) + 2))⟩], A360, c361, by omega, ?_⟩
                refine ⟨(((hz375.put _ _).put _ _).put _ _), ?_, ?_, ?_, ?_, (by simpa using hB369), (by simpa using hO363_373), hF_371, hB5_372, (by omega), (by simp; omega), ⟨by simpa using hsp.1, by have := hsp.2; simp only [] at this; omega⟩⟩
                · exact (at_other rfl _ (at_other rfl _ (at_other rfl _ (s0_377))))
                · exact (at_other rfl _ (at_other rfl _ (at_other rfl _ (s2_378))))
                · exact (at_other rfl _ (at_other rfl _ (at_other rfl _ (s4_379))))
                · exact Eq.trans (at_same ((hz375.put _ _).put _ _) rfl _) (V.int_eq (by omega))
              ·
                refine V.seq (fun K381 hK382 => ?_)
                refine V.plan [[], [0], [], [], [2, 3], [], [], [5, 6], [2, 3, 4, 5, 6, 7], [2, 3, 4, 5, 6, 7, 8], [0, 1, 2, 3, 4, 5, 6, 7, 8, 9], [0, 1, 2, 3, 4, 5, 6, 7, 8, 9, 10], [0, 1, 2, 3, 4, 5, 6, 7, 8, 9, 10, 11]] [([0, 1, 2, 3, 4, 5, 6, 7, 8], some (9, [1])), ([], some (10, [])), ([11], some (12, [])), ([], none)] (by kernel_rfl) (by kernel_rfl) (by exact fun _ _ _ _ h => h) ?_
                simp only [Plan.wpSegs, Plan.pickAll, Plan.nth, V.L_eq]
                obtain ⟨w383, hF384e⟩ : ∃ w1, w1 = w73.drew := ⟨_, rfl⟩
                rw [← hF384e]
                have hF384 : Fr [] w73 w383 := by rw [hF384e]; exact Fr.drew _ _
                have hsw383 : w383.heap.size = w73.heap.size := by rw [hF384e]; rfl
                clear hF384e
                have hB4_385 := hB4_79.fr0 hF384
                have hO_386 := hO_80.fr0 hF384
                have hF_387 := hF_81.new hF384
                have hB5_388 := hB5_82.fr0 hF384
                refine V.go (V.pv [(4, .pointer (some ⟨b10, 0, none⟩))] ⟨(s4_336), trivial⟩ (by kernel_rfl) (.pointer (some ⟨b10, 3, none⟩)) (by kernel_rfl) ?_)
                refine V.go (V.ld ⟨b10, 3, none⟩ (.slice A acc.length c) (at_same hz332 rfl _) (by kernel_rfl) (hB4_385.at 3 rfl) ?_)
                refine V.go (V.mv (v := (.string s)) (at_other rfl _ (at_other rfl _ (s0_334))) ?_)
                refine V.go (V.mv (v := (.int .i64 (k : Int))) (at_other rfl _ (at_other rfl _ (at_other rfl _ (s5_337)))) ?_)
                refine V.go (V.ixs s .i64 (k : Int) (at_other rfl _ (at_same ((hz332.put _ _).put _ _) rfl _)) (at_same (((hz332.put _ _).put _ _).put _ _) rfl _) (by omega) (by omega) (by kernel_rfl) ?_)
                have hb389 := byt_lt s (k : Int)
                refine V.go (V.mv (v := (.string s)) (at_other rfl _ (at_other rfl _ (at_other rfl _ (at_other rfl _ (at_other rfl _ (s0_334)))))) ?_)
                refine V.go (V.mv (v := (.int .i64 (k : Int))) (at_other rfl _ (at_other rfl _ (at_other rfl _ (at_other rfl _ (at_other rfl _ (at_other rfl _ (s5_337))))))) ?_)
                refine V.go (V.ixs s .i64 (k : Int) (at_other rfl _ (at_same (((((hz332.put _ _).put _ _).put _ _).put _ _).put _ _) rfl _)) (at_same ((((((hz332.put _ _).put _ _).put _ _).put _ _).put _ _).put _ _) rfl _) (by omega) (by omega) (by kernel_rfl) ?_)
                have hb390 := byt_lt s (k : Int)
                refine V.go (V.pv [(28, .int .u8 (bi s (k : Int))), (31, .int .u8 (bi s (k : Int)))] ⟨(at_other rfl _ (at_other rfl _ (at_other rfl _ (at_same ((((hz332.put _ _).put _ _).put _ _).put _ _) rfl _)))), (at_same (((((((hz332.put _ _).put _ _).put _ _).put _ _).put _ _).put _ _).put _ _) rfl _), trivial⟩ (by kernel_rfl) (.agg #[.int .u8 (bi s (k : Int)), .int .u8 (bi s (k : Int))]) (by kernel_rfl) ?_)
                refine V.nil ?_
                refine ⟨chk [] trivial (by kernel_rfl), ?_⟩
                refine V.go (V.mk [(32, .agg #[.int .u8 (bi s (k : Int)), .int .u8 (bi s (k : Int))])] ⟨(at_same ((((((((hz332.put _ _).put _ _).put _ _).put _ _).put _ _).put _ _).put _ _).put _ _) rfl _), trivial⟩ (by kernel_rfl) [.int .u8 (bi s (k : Int)), .int .u8 (bi s (k : Int))] 54 (fun b => .slice (some ⟨b, 0, none⟩) 1 1) (by kernel_rfl) ?_)
                intro w392 b391 heb391 hB393 hF394 hsb391
                have hB4_395 := hB4_385.fr0 hF394
                have hO_396 := hO_386.fr0 hF394
                have hF_397 := hF_387.new hF394
                have hB5_398 := hB5_388.fr0 hF394
                refine V.nil ?_
                refine ⟨(fun _ => held_blk (n := 1) (hx := (at_other rfl _ (at_other rfl _ (at_other rfl _ (at_other rfl _ (at_other rfl _ (at_other rfl _ (at_other rfl _ (at_other rfl _ (at_same hz332 rfl _)))))))))) hB4_385 hB4_395 (by kernel_rfl) rfl (by simp only [List.length]; omega)), ?_⟩
                refine V.nil ?_
                refine ⟨chk [] trivial (by kernel_rfl), ?_⟩
                refine V.go (V.app (R := spanR) (ys := ([⟨bi s (k : Int), bi s (k : Int)⟩])) (news := [.int .u8 (bi s (k : Int)), .int .u8 (bi s (k : Int))]) (at_other rfl _ (at_other rfl _ (at_other rfl _ (at_other rfl _ (at_other rfl _ (at_other rfl _ (at_other rfl _ (at_other rfl _ (at_same (hz332.put _ _) rfl _))))))))) ⟨b391, 0, none⟩ 1 1 (at_same (((((((((hz332.put _ _).put _ _).put _ _).put _ _).put _ _).put _ _).put _ _).put _ _).put _ _) rfl _) (by kernel_rfl) (info54) (by kernel_rfl) (by decide) hO_396 rfl ⟨[.int .u8 (bi s (k : Int)), .int .u8 (bi s (k : Int))], [], rfl, rfl, rfl⟩ (blk_cells hB393 0 _ rfl) (by omega) (by decide) (by omega) ?_)
                intro A399 c400 w401 hO402z hF403 hatw401
                have hsw401 := hF403.size
                have hB4_404 := hB4_395.fr hF403 (by first | exact own_notin hO_396 (by omega) | exact own_notin2 hO_80 (by omega))
                have hF_405 := hF_397.own hF403 (own_ge hO_396 (by omega))
                have hB5_406 := hB5_398.fr hF403 (by first | exact own_notin hO_396 (by omega) | exact own_notin2 hO_80 (by omega))
                have hO402 := hO402z.zone (Z' := NoZ) (fun _ _ q => q.1) (fun _ _ q => q)
                refine V.nil ?_
                refine ⟨trivial, ?_⟩
                refine V.go (V.pv [(4, .pointer (some ⟨b10, 0, none⟩))] ⟨(at_other rfl _ (at_other rfl _ (at_other rfl _ (at_other rfl _ (at_other rfl _ (at_other rfl _ (at_other rfl _ (at_other rfl _ (at_other rfl _ (at_other rfl _ (at_other rfl _ (s4_336)))))))))))), trivial⟩ (by kernel_rfl) (.pointer (some ⟨b10, 3, none⟩)) (by kernel_rfl) ?_)
                refine V.nil ?_
                refine ⟨chk [] trivial (by kernel_rfl), ?_⟩
                refine V.go (V.stn b10 3 (.slice A399 (acc.length + 1) c400) [.slice A399 (acc.length + 1) c400] (at_same (((((((((((hz332.put _ _).put _ _).put _ _).put _ _).put _ _).put _ _).put _ _).put _ _).put _ _).put _ _).put _ _) rfl _) (at_other rfl _ (at_same ((((((((((hz332.put _ _).put _ _).put _ _).put _ _).put _ _).put _ _).put _ _).put _ _).put _ _).put _ _) rfl _)) rfl rfl (by kernel_rfl) hB4_404 (by simp) [.int .i64 4, .int .u8 0, .bool neg, .slice A399 (acc.length + 1) c400] rfl ?_)
                intro w407 hB408 hF409 hsw407
                have hF_410 := hF_405.own hF409 (by simp <;> omega)
                have hB5_411 := hB5_406.fr1 hF409 (by omega)
                have hO402_412 := hO402.frn hF409 (fun h => h) (by first | exact own_ne hO402 (by omega) | exact own_ne2 hO402 (by omega))
                refine V.nil ?_
                refine ⟨trivial, ?_⟩
                refine V.nil ?_
                refine ⟨chk [] trivial (by kernel_rfl), ?_⟩
                refine V.then_n (hK382 _ _ ?_)
                refine V.flushW ((((((((((((hz332.put _ _).put _ _).put _ _).put _ _).put _ _).put _ _).put _ _).put _ _).put _ _).put _ _).put _ _).put _ _) (fun a413 hz414 up415 => ?_)
                have s0_416 : a413.eval (.tmp 0) = (.string s) := up415 _ _ (at_other rfl _ (at_other rfl _ (at_other rfl _ (at_other rfl _ (at_other rfl _ (at_other rfl _ (at_other rfl _ (at_other rfl _ (at_other rfl _ (at_other rfl _ (at_other rfl _ (at_other rfl _ (s0_334)))))))))))))
                have s2_417 : a413.eval (.tmp 2) = (.pointer (some ⟨b3, 0, none⟩)) := up415 _ _ (at_other rfl _ (at_other rfl _ (at_other rfl _ (at_other rfl _ (at_other rfl _ (at_other rfl _ (at_other rfl _ (at_other rfl _ (at_other rfl _ (at_other rfl _ (at_other rfl _ (at_other rfl _ (s2_335)))))))))))))
                have s4_418 : a413.eval (.tmp 4) = (.pointer (some ⟨b10, 0, none⟩)) := up415 _ _ (at_other rfl _ (at_other rfl _ (at_other rfl _ (at_other rfl _ (at_other rfl _ (at_other rfl _ (at_other rfl _ (at_other rfl _ (at_other rfl _ (at_other rfl _ (at_other rfl _ (at_other rfl _ (s4_336)))))))))))))
                have s5_419 : a413.eval (.tmp 5) = (.int .i64 (k : Int)) := up415 _ _ (at_other rfl _ (at_other rfl _ (at_other rfl _ (at_other rfl _ (at_other rfl _ (at_other rfl _ (at_other rfl _ (at_other rfl _ (at_other rfl _ (at_other rfl _ (at_other rfl _ (at_other rfl _ (s5_337)))))))))))))
                clear up415
                refine V.region (by kernel_rfl) ?_
                refine V.go (V.mv (v := (.int .i64 (k : Int))) (s5_419) ?_)
                refine V.go (V.pvw [(36, .int .i64 (k : Int))] ⟨(at_same hz414 rfl _), trivial⟩ (by kernel_rfl) (.int .i64 (IntKind.i64.wrap ((k : Int) + 1))) (.int .i64 ((k : Int) + 1)) (by kernel_rfl) (V.w_i64 (by omega) (by omega)) ?_)
                refine V.go (V.asg (v := (.int .i64 ((k : Int) + 1))) (at_same (hz414.put _ _) rfl _) ?_)
                refine V.nil ?_
                refine V.blk_n ?_
                refine V.blk_n ?_
                refine V.then_n ?_
                have hstep := sp_one (s := s) (k := k) (by omega) (by omega) (by omega) (by intro h; show bi s ((k : Int) + 1) ≠ 45; omega)
                rw [hstep] at hsp
                refine ⟨k + 1, acc ++ [⟨bi s (k : Int), bi s (k : Int)⟩], A399, c400, by omega, ?_⟩
                refine ⟨(((hz414.put _ _).put _ _).put _ _), ?_, ?_, ?_, ?_, (by simpa using hB408), (by simpa using hO402_412), hF_410, hB5_411, (by omega), (by simp; omega), ⟨by simpa using hsp.1, by have := hsp.2; simp only [] at this; omega⟩⟩
                · exact (at_other rfl _ (at_other rfl _ (at_other rfl _ (s0_416))))
                · exact (at_other rfl _ (at_other rfl _ (at_other rfl _ (s2_417))))
                · exact (at_other rfl _ (at_other rfl _ (at_other rfl _ (s4_418))))
                · exact Eq.trans (at_same ((hz414.put _ _).put _ _) rfl _) (V.int_eq (by omega))
            ·
              refine V.go_off 80 (by kernel_rfl) (((at_same (((((hz320.put _ _).put _ _).put _ _).put _ _).put _ _) rfl _ : Act.eval _ _ = (.bool (decide (((k : Int) + 2) < (s.size : Int)))))).trans (df hg329)) (by kernel_rfl) ?_
              refine V.go_off 80 (by kernel_rfl) (((at_other rfl _ (at_same (((((hz320.put _ _).put _ _).put _ _).put _ _).put _ _) rfl _) : Act.eval _ _ = (.bool (decide (((k : Int) + 2) < (s.size : Int)))))).trans (df hg329)) (by kernel_rfl) ?_
              refine V.go_off 80 (by kernel_rfl) (((at_other rfl _ (at_other rfl _ (at_same (((((hz320.put _ _).put _ _).put _ _).put _ _).put _ _) rfl _)) : Act.eval _ _ = (.bool (decide (((k : Int) + 2) < (s.size : Int)))))).trans (df hg329)) (by kernel_rfl) ?_
              refine V.go_off 80 (by kernel_rfl) (((at_other rfl _ (at_other rfl _ (at_other rfl _ (at_same (((((hz320.put _ _).put _ _).put _ _).put _ _).put _ _) rfl _))) : Act.eval _ _ = (.bool (decide (((k : Int) + 2) < (s.size : Int)))))).trans (df hg329)) (by kernel_rfl) ?_
              refine V.go_off 80 (by kernel_rfl) (((at_other rfl _ (at_other rfl _ (at_other rfl _ (at_other rfl _ (at_same (((((hz320.put _ _).put _ _).put _ _).put _ _).put _ _) rfl _)))) : Act.eval _ _ = (.bool (decide (((k : Int) + 2) < (s.size : Int)))))).trans (df hg329)) (by kernel_rfl) ?_
              refine V.go (V.pk_f (((at_other rfl _ (at_other rfl _ (at_other rfl _ (at_other rfl _ (at_other rfl _ (at_same (((((hz320.put _ _).put _ _).put _ _).put _ _).put _ _) rfl _))))) : Act.eval _ _ = (.bool (decide (((k : Int) + 2) < (s.size : Int)))))).trans (df hg329)) (v := (.bool false)) evc ?_)
              refine V.go (V.asg (v := (.bool false)) (at_same (((((((((((hz320.put _ _).put _ _).put _ _).put _ _).put _ _).put _ _).put _ _).put _ _).put _ _).put _ _).put _ _) rfl _) ?_)
              refine V.nil ?_
              refine V.then_n (hK328 _ _ ?_)
              refine V.flushW (((((((((((((hz320.put _ _).put _ _).put _ _).put _ _).put _ _).put _ _).put _ _).put _ _).put _ _).put _ _).put _ _).put _ _).put _ _) (fun a420 hz421 up422 => ?_)
              have s0_423 : a420.eval (.tmp 0) = (.string s) := up422 _ _ (at_other rfl _ (at_other rfl _ (at_other rfl _ (at_other rfl _ (at_other rfl _ (at_other rfl _ (at_other rfl _ (at_other rfl _ (at_other rfl _ (at_other rfl _ (at_other rfl _ (at_other rfl _ (at_other rfl _ (s0_322))))))))))))))
              have s2_424 : a420.eval (.tmp 2) = (.pointer (some ⟨b3, 0, none⟩)) := up422 _ _ (at_other rfl _ (at_other rfl _ (at_other rfl _ (at_other rfl _ (at_other rfl _ (at_other rfl _ (at_other rfl _ (at_other rfl _ (at_other rfl _ (at_other rfl _ (at_other rfl _ (at_other rfl _ (at_other rfl _ (s2_323))))))))))))))
              have s4_425 : a420.eval (.tmp 4) = (.pointer (some ⟨b10, 0, none⟩)) := up422 _ _ (at_other rfl _ (at_other rfl _ (at_other rfl _ (at_other rfl _ (at_other rfl _ (at_other rfl _ (at_other rfl _ (at_other rfl _ (at_other rfl _ (at_other rfl _ (at_other rfl _ (at_other rfl _ (at_other rfl _ (s4_324))))))))))))))
              have s5_426 : a420.eval (.tmp 5) = (.int .i64 (k : Int)) := up422 _ _ (at_other rfl _ (at_other rfl _ (at_other rfl _ (at_other rfl _ (at_other rfl _ (at_other rfl _ (at_other rfl _ (at_other rfl _ (at_other rfl _ (at_other rfl _ (at_other rfl _ (at_other rfl _ (at_other rfl _ (s5_325))))))))))))))
              have s74_427 : a420.eval (.tmp 74) = (.bool false) := up422 _ _ (at_same ((((((((((((hz320.put _ _).put _ _).put _ _).put _ _).put _ _).put _ _).put _ _).put _ _).put _ _).put _ _).put _ _).put _ _) rfl _)
              clear up422
              refine V.cond_f (s74_427) ?_
              refine V.seq (fun K428 hK429 => ?_)
              refine V.plan [[], [0], [], [], [2, 3], [], [], [5, 6], [2, 3, 4, 5, 6, 7], [2, 3, 4, 5, 6, 7, 8], [0, 1, 2, 3, 4, 5, 6, 7, 8, 9], [0, 1, 2, 3, 4, 5, 6, 7, 8, 9, 10], [0, 1, 2, 3, 4, 5, 6, 7, 8, 9, 10, 11]] [([0, 1, 2, 3, 4, 5, 6, 7, 8], some (9, [1])), ([], some (10, [])), ([11], some (12, [])), ([], none)] (by kernel_rfl) (by kernel_rfl) (by exact fun _ _ _ _ h => h) ?_
              simp only [Plan.wpSegs, Plan.pickAll, Plan.nth, V.L_eq]
              obtain ⟨w430, hF431e⟩ : ∃ w1, w1 = w73.drew := ⟨_, rfl⟩
              rw [← hF431e]
              have hF431 : Fr [] w73 w430 := by rw [hF431e]; exact Fr.drew _ _
              have hsw430 : w430.heap.size = w73.heap.size := by rw [hF431e]; rfl
              clear hF431e
              have hB4_432 := hB4_79.fr0 hF431
              have hO_433 := hO_80.fr0 hF431
              have hF_434 := hF_81.new hF431
              have hB5_435 := hB5_82.fr0 hF431
              refine V.go (V.pv [(4, .pointer (some ⟨b10, 0, none⟩))] ⟨(s4_425), trivial⟩ (by kernel_rfl) (.pointer (some ⟨b10, 3, none⟩)) (by kernel_rfl) ?_)
              refine V.go (V.ld ⟨b10, 3, none⟩ (.slice A acc.length c) (at_same hz421 rfl _) (by kernel_rfl) (hB4_432.at 3 rfl) ?_)
              refine V.go (V.mv (v := (.string s)) (at_other rfl _ (at_other rfl _ (s0_423))) ?_)
              refine V.go (V.mv (v := (.int .i64 (k : Int))) (at_other rfl _ (at_other rfl _ (at_other rfl _ (s5_426)))) ?_)
              refine V.go (V.ixs s .i64 (k : Int) (at_other rfl _ (at_same ((hz421.put _ _).put _ _) rfl _)) (at_same (((hz421.put _ _).put _ _).put _ _) rfl _) (by omega) (by omega) (by kernel_rfl) ?_)
              have hb436 := byt_lt s (k : Int)
              refine V.go (V.mv (v := (.string s)) (at_other rfl _ (at_other rfl _ (at_other rfl _ (at_other rfl _ (at_other rfl _ (s0_423)))))) ?_)
              refine V.go (V.mv (v := (.int .i64 (k : Int))) (at_other rfl _ (at_other rfl _ (at_other rfl _ (at_other rfl _ (at_other rfl _ (at_other rfl _ (s5_426))))))) ?_)
              refine V.go (V.ixs s .i64 (k : Int) (at_other rfl _ (at_same (((((hz421.put _ _).put _ _).put _ _).put _ _).put _ _) rfl _)) (at_same ((((((hz421.put _ _).put _ _).put _ _).put _ _).put _ _).put _ _) rfl _) (by omega) (by omega) (by kernel_rfl) ?_)
              have hb437 := byt_lt s (k : Int)
              refine V.go (V.pv [(28, .int .u8 (bi s (k : Int))), (31, .int .u8 (bi s (k : Int)))] ⟨(at_other rfl _ (at_other rfl _ (at_other rfl _ (at_same ((((hz421.put _ _).put _ _).put _ _).put _ _) rfl _)))), (at_same (((((((hz421.put _ _).put _ _).put _ _).put _ _).put _ _).put _ _).put _ _) rfl _), trivial⟩ (by kernel_rfl) (.agg #[.int .u8 (bi s (k : Int)), .int .u8 (bi s (k : Int))]) (by kernel_rfl) ?_)
              refine V.nil ?_
              refine ⟨chk [] trivial (by kernel_rfl), ?_⟩
              refine V.go (V.mk [(32, .agg #[.int .u8 (bi s (k : Int)), .int .u8 (bi s (k : Int))])] ⟨(at_same ((((((((hz421.put _ _).put _ _).put _ _).put _ _).put _ _).put _ _).put _ _).put _ _) rfl _), trivial⟩ (by kernel_rfl) [.int .u8 (bi s (k : Int)), .int .u8 (bi s (k : Int))] 54 (fun b => .slice (some ⟨b, 0, none⟩) 1 1) (by kernel_rfl) ?_)
              intro w439 b438 heb438 hB440 hF441 hsb438
              have hB4_442 := hB4_432.fr0 hF441
              have hO_443 := hO_433.fr0 hF441
              have hF_444 := hF_434.new hF441
              have hB5_445 := hB5_435.fr0 hF441
              refine V.nil ?_
              refine ⟨(fun _ => held_blk (n := 1) (hx := (at_other rfl _ (at_other rfl _ (at_other rfl _ (at_other rfl _ (at_other rfl _ (at_other rfl _ (at_other rfl _ (at_other rfl _ (at_same hz421 rfl _)))))))))) hB4_432 hB4_442 (by kernel_rfl) rfl (by simp only [List.length]; omega)), ?_⟩
              refine V.nil ?_
              refine ⟨chk [] trivial (by kernel_rfl), ?_⟩
              refine V.go (V.app (R := spanR) (ys := ([⟨bi s (k : Int), bi s (k : Int)⟩])) (news := [.int .u8 (bi s (k : Int)), .int .u8 (bi s (k : Int))]) (at_other rfl _ (at_other rfl _ (at_other rfl _ (at_other rfl _ (at_other rfl _ (at_other rfl _ (at_other rfl _ (at_other rfl _ (at_same (hz421.put _ _) rfl _))))))))) ⟨b438, 0, none⟩ 1 1 (at_same (((((((((hz421.put _ _).put _ _).put _ _).put _ _).put _ _).put _ _).put _ _).put _ _).put _ _) rfl _) (by kernel_rfl) (info54) (by kernel_rfl) (by decide) hO_443 rfl ⟨[.int .u8 (bi s (k : Int)), .int .u8 (bi s (k : Int))], [], rfl, rfl, rfl⟩ (blk_cells hB440 0 _ rfl) (by omega) (by decide) (by omega) ?_)
              intro A446 c447 w448 hO449z hF450 hatw448
              have hsw448 := hF450.size
              have hB4_451 := hB4_442.fr hF450 (by first | exact own_notin hO_443 (by omega) | exact own_notin2 hO_80 (by omega))
              have hF_452 := hF_444.own hF450 (own_ge hO_443 (by omega))
              have hB5_453 := hB5_445.fr hF450 (by first | exact own_notin hO_443 (by omega) | exact own_notin2 hO_80 (by omega))
              have hO449 := hO449z.zone (Z' := NoZ) (fun _ _ q => q.1) (fun _ _ q => q)
              refine V.nil ?_
              refine ⟨trivial, ?_⟩
              refine V.go (V.pv [(4, .pointer (some ⟨b10, 0, none⟩))] ⟨(at_other rfl _ (at_other rfl _ (at_other rfl _ (at_other rfl _ (at_other rfl _ (at_other rfl _ (at_other rfl _ (at_other rfl _ (at_other rfl _ (at_other rfl _ (at_other rfl _ (s4_425)))))))))))), trivial⟩ (by kernel_rfl) (.pointer (some ⟨b10, 3, none⟩)) (by kernel_rfl) ?_)
              refine V.nil ?_
              refine ⟨chk [] trivial (by kernel_rfl), ?_⟩
              refine V.go (V.stn b10 3 (.slice A446 (acc.length + 1) c447) [.slice A446 (acc.length + 1) c447] (at_same (((((((((((hz421.put _ _).put _ _).put _ _).put _ _).put _ _).put _ _).put _ _).put _ _).put _ _).put _ _).put _ _) rfl _) (at_other rfl _ (at_same ((((((((((hz421.put _ _).put _ _).put _ _).put _ _).put _ _).put _ _).put _ _).put _ _).put _ _).put _ _) rfl _)) rfl rfl (by kernel_rfl) hB4_451 (by simp) [.int .i64 4, .int .u8 0, .bool neg, .slice A446 (acc.length + 1) c447] rfl ?_)
              intro w454 hB455 hF456 hsw454
              have hF_457 := hF_452.own hF456 (by simp <;> omega)
              have hB5_458 := hB5_453.fr1 hF456 (by omega)
              have hO449_459 := hO449.frn hF456 (fun h => h) (by first | exact own_ne hO449 (by omega) | exact own_ne2 hO449 (by omega))
              refine V.nil ?_
              refine ⟨trivial, ?_⟩
              refine V.nil ?_
              refine ⟨chk [] trivial (by kernel_rfl), ?_⟩
              refine V.then_n (hK429 _ _ ?_)
              refine V.flushW ((((((((((((hz421.put _ _).put _ _).put _ _).put _ _).put _ _).put _ _).put _ _).put _ _).put _ _).put _ _).put _ _).put _ _) (fun a460 hz461 up462 => ?_)
              have s0_463 : a460.eval (.tmp 0) = (.string s) := up462 _ _ (at_other rfl _ (at_other rfl _ (at_other rfl _ (at_other rfl _ (at_other rfl _ (at_other rfl _ (at_other rfl _ (at_other rfl _ (at_other rfl _ (at_other rfl _ (at_other rfl _ (at_other rfl _ (s0_423)))))))))))))
              have s2_464 : a460.eval (.tmp 2) = (.pointer (some ⟨b3, 0, none⟩)) := up462 _ _ (at_other rfl _ (at_other rfl _ (at_other rfl _ (at_other rfl _ (at_other rfl _ (at_other rfl _ (at_other rfl _ (at_other rfl _ (at_other rfl _ (at_other rfl _ (at_other rfl _ (at_other rfl _ (s2_424)))))))))))))
              have s4_465 : a460.eval (.tmp 4) = (.pointer (some ⟨b10, 0, none⟩)) := up462 _ _ (at_other rfl _ (at_other rfl _ (at_other rfl _ (at_other rfl _ (at_other rfl _ (at_other rfl _ (at_other rfl _ (at_other rfl _ (at_other rfl _ (at_other rfl _ (at_other rfl _ (at_other rfl _ (s4_425)))))))))))))
              have s5_466 : a460.eval (.tmp 5) = (.int .i64 (k : Int)) := up462 _ _ (at_other rfl _ (at_other rfl _ (at_other rfl _ (at_other rfl _ (at_other rfl _ (at_other rfl _ (at_other rfl _ (at_other rfl _ (at_other rfl _ (at_other rfl _ (at_other rfl _ (at_other rfl _ (s5_426)))))))))))))
              clear up462
              refine V.region (by kernel_rfl) ?_
              refine V.go (V.mv (v := (.int .i64 (k : Int))) (s5_466) ?_)
              refine V.go (V.pvw [(36, .int .i64 (k : Int))] ⟨(at_same hz461 rfl _), trivial⟩ (by kernel_rfl) (.int .i64 (IntKind.i64.wrap ((k : Int) + 1))) (.int .i64 ((k : Int) + 1)) (by kernel_rfl) (V.w_i64 (by omega) (by omega)) ?_)
              refine V.go (V.asg (v := (.int .i64 ((k : Int) + 1))) (at_same (hz461.put _ _) rfl _) ?_)
              refine V.nil ?_
              refine V.blk_n ?_
              refine V.blk_n ?_
              refine V.then_n ?_
              have hstep := sp_one (s := s) (k := k) (by omega) (by omega) (by omega) (by intro h; show bi s ((k : Int) + 1) ≠ 45; omega)
              rw [hstep] at hsp
              refine ⟨k + 1, acc ++ [⟨bi s (k : Int), bi s (k : Int)⟩], A446, c447, by omega, ?_⟩
              refine ⟨(((hz461.put _ _).put _ _).put _ _), ?_, ?_, ?_, ?_, (by simpa using hB455), (by simpa using hO449_459), hF_457, hB5_458, (by omega), (by simp; omega), ⟨by simpa using hsp.1, by have := hsp.2; simp only [] at this; omega⟩⟩
              · exact (at_other rfl _ (at_other rfl _ (at_other rfl _ (s0_463))))
              · exact (at_other rfl _ (at_other rfl _ (at_other rfl _ (s2_464))))
              · exact (at_other rfl _ (at_other rfl _ (at_other rfl _ (s4_465))))
              · exact Eq.trans (at_same ((hz461.put _ _).put _ _) rfl _) (V.int_eq (by omega))
      ·
        refine V.exit ?_
        refine V.then_e ?_
        refine V.then_e ?_
        refine V.blk_hit ?_
        refine V.then_n (hK71 _ _ ?_)
        refine V.seq (fun K467 hK468 => ?_)
        refine V.region (by kernel_rfl) ?_
        refine V.go (V.lds ⟨b10, 0, none⟩ [.int .i64 4, .int .u8 0, .bool neg, .slice A acc.length c] (s4_95) (by kernel_rfl) (blk_cells hB4_79 0 _ rfl) ?_)
        refine V.go (V.mv (v := (.int .i64 (k : Int))) (at_other rfl _ (s5_96)) ?_)
        refine V.go (V.stn b3 0 (.agg #[.int .i64 4, .int .u8 0, .bool neg, .slice A acc.length c]) [.int .i64 4, .int .u8 0, .bool neg, .slice A acc.length c] (at_other rfl _ (at_other rfl _ (s2_94))) (at_other rfl _ (at_same hz91 rfl _)) rfl rfl (by kernel_rfl) hB5_82 (by simp) [.int .i64 4, .int .u8 0, .bool neg, .slice A acc.length c] rfl ?_)
        intro w469 hB470 hF471 hsw469
        have hB4_472 := hB4_79.fr1 hF471 (by omega)
        have hO_473 := hO_80.frn hF471 (fun h => h) (by first | exact own_ne hO_80 (by omega) | exact own_ne2 hO_80 (by omega))
        have hF_474 := hF_81.own hF471 (by simp <;> omega)
        refine V.go (V.asg (v := (.int .i64 (k : Int))) (at_same (hz91.put _ _) rfl _) ?_)
        refine V.nil ?_
        refine V.then_n (hK468 _ _ ?_)
        refine V.ret ?_
        refine V.retCT (((hz91.put _ _).put _ _).put _ _) rfl _ (at_other rfl _ (at_other rfl _ (at_other rfl _ (s2_94)))) (V.run_loadVar_agg (cs := [.int .i64 4, .int .u8 0, .bool neg, .slice A acc.length c]) (by kernel_rfl) (blk_cells hB470 0 _ rfl)) (at_same ((hz91.put _ _).put _ _) rfl _) ?_
        rw [sp_end (s := s) (k := k) (by omega)] at hsp
        have hc := cls_at (s := s) neg i0 hneg
        obtain ⟨hsp1, hsp2⟩ := hsp
        simp only [List.append_nil] at hsp1
        refine ⟨A, c, ?_, ?_, hF_474⟩
        · rw [hc, ← hsp1]; exact congrArg Ending.returned (congrArg Value.tuple (by simp only [Array.mk.injEq, List.cons.injEq, Value.int.injEq, and_true, true_and] <;> omega))
        · rw [hc, ← hsp1]; exact (hO_473.read (fun _ _ h => h.elim) (fun b hb _ => by omega))
end Go.Proofs.Ytmlohijidjbbjaa
