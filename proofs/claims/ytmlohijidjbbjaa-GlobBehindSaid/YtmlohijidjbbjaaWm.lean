/- Walks: ends, GlobBehind. -/
import Derived.Test.YtmlohijidjbbjaaProg
import Derived.Test.YtmlohijidjbbjaaWl
import Derived.Test.YtmlohijidjbbjaaBh
import Derived.Test.YtmlohijidjbbjaaCat
namespace Go.Proofs.Ytmlohijidjbbjaa
open Go.V Go.Base
attribute [local irreducible] Act.put Act.eval
set_option linter.unusedVariables false
set_option linter.unusedSimpArgs false
set_option maxHeartbeats 4000000 in
set_option maxRecDepth 20000 in
theorem ends_any (w : World) (p : ByteArray) (hp : p.size ≤ 65536) : Calls Try.prog 13 #[.string p] w (fun e w' => e = .returned (.bool (endsB p)) ∧ Fr [] w w') := by
  have hF := Fr.refl [] w
  have hlit : (⟨#[93, 120]⟩ : ByteArray).size = 2 := rfl
  refine V.enter 29 Try.func13 rfl rfl ?_
  intro a hz ha
  have s0 : a.eval (.tmp 0) = (.string p) := ha 0 _ rfl
  clear ha
  refine V.seq (fun K1 hK2 => ?_)
  refine V.region (by kernel_rfl) ?_
  refine V.go (V.asg (v := (.bool false)) evc ?_)
  refine V.nil ?_
  refine V.then_n (hK2 _ _ ?_)
  refine V.seq (fun K3 hK4 => ?_)
  refine V.region (by kernel_rfl) ?_
  refine V.go (V.mv (v := (.string p)) (at_other rfl _ (s0)) ?_)
  refine V.go (V.call 22 #[] #[.string p] evf (args1 (at_same (hz.put _ _) rfl _)) (Go.Proofs.enters_of Try.func22 (by kernel_rfl) rfl) (rparse_any w p (by omega)) ?_)
  rintro _ w9 ⟨A5, c6, rfl, hps7, hF8⟩
  refine ⟨_, rfl, ?_⟩
  have hsw9 := hF8.size
  have hF_10 := hF.new hF8
  have hpl8 := parse_length (ints p); rw [ints_length] at hpl8
  refine V.go (V.asg (v := (.slice A5 ((parse (ints p)).length) c6)) (at_same ((hz.put _ _).put _ _) rfl _) ?_)
  refine V.nil ?_
  refine V.then_n (hK4 _ _ ?_)
  refine V.flushW ((((hz.put _ _).put _ _).put _ _).put _ _) (fun a11 hz12 up13 => ?_)
  have s0_14 : a11.eval (.tmp 0) = (.string p) := up13 _ _ (at_other rfl _ (at_other rfl _ (at_other rfl _ (at_other rfl _ (s0)))))
  have s3_15 : a11.eval (.tmp 3) = (.slice A5 ((parse (ints p)).length) c6) := up13 _ _ (at_same (((hz.put _ _).put _ _).put _ _) rfl _)
  clear up13
  refine V.seq (fun K16 hK17 => ?_)
  refine V.region (by kernel_rfl) ?_
  refine V.go (V.mv (v := (.string p)) (s0_14) ?_)
  obtain ⟨cat18, hcat19⟩ : ∃ z : ByteArray, z = p ++ (⟨#[93, 120]⟩ : ByteArray) := ⟨_, rfl⟩
  have hszcat18 : cat18.size = p.size + (⟨#[93, 120]⟩ : ByteArray).size := by rw [hcat19, ByteArray.size_append]
  refine V.go (V.catg hcat19 (at_same hz12 rfl _) evc (by omega) ?_)
  refine V.go (V.call 22 #[] #[.string cat18] evf (args1 (at_same (hz12.put _ _) rfl _)) (Go.Proofs.enters_of Try.func22 (by kernel_rfl) rfl) (rparse_any w9 cat18 (by omega)) ?_)
  rintro _ w24 ⟨A20, c21, rfl, hps22, hF23⟩
  refine ⟨_, rfl, ?_⟩
  have hsw24 := hF23.size
  have hF_25 := hF_10.new hF23
  have hps7_26 := hps7.fr0 hF23
  have hpl23 := parse_length (ints cat18); rw [ints_length] at hpl23
  refine V.go (V.asg (v := (.slice A20 ((parse (ints cat18)).length) c21)) (at_same ((hz12.put _ _).put _ _) rfl _) ?_)
  refine V.nil ?_
  refine V.then_n (hK17 _ _ ?_)
  refine V.flushW ((((hz12.put _ _).put _ _).put _ _).put _ _) (fun a27 hz28 up29 => ?_)
  have s0_30 : a27.eval (.tmp 0) = (.string p) := up29 _ _ (at_other rfl _ (at_other rfl _ (at_other rfl _ (at_other rfl _ (s0_14)))))
  have s3_31 : a27.eval (.tmp 3) = (.slice A5 ((parse (ints p)).length) c6) := up29 _ _ (at_other rfl _ (at_other rfl _ (at_other rfl _ (at_other rfl _ (s3_15)))))
  have s4_32 : a27.eval (.tmp 4) = (.slice A20 ((parse (ints cat18)).length) c21) := up29 _ _ (at_same (((hz12.put _ _).put _ _).put _ _) rfl _)
  clear up29
  refine V.seq (fun K33 hK34 => ?_)
  refine V.region (by kernel_rfl) ?_
  refine V.go (V.mv (v := (.string p)) (s0_30) ?_)
  refine V.go (V.pv [(10, .string p)] ⟨(at_same hz28 rfl _), trivial⟩ (by kernel_rfl) (.int .i64 (p.size : Int)) (by kernel_rfl) ?_)
  refine V.go (V.pv [(11, .int .i64 (p.size : Int))] ⟨(at_same (hz28.put _ _) rfl _), trivial⟩ (by kernel_rfl) (.bool (decide ((p.size : Int) > 0))) (by kernel_rfl) ?_)
  refine V.go (V.mv (v := (.bool (decide ((p.size : Int) > 0)))) (at_same ((hz28.put _ _).put _ _) rfl _) ?_)
  by_cases hg35 : (p.size : Int) > 0
  ·
    refine V.go_on 13 (by kernel_rfl) (((at_same (((hz28.put _ _).put _ _).put _ _) rfl _ : Act.eval _ _ = (.bool (decide ((p.size : Int) > 0))))).trans (dt hg35)) (V.mv (v := (.string p)) (at_other rfl _ (at_other rfl _ (at_other rfl _ (at_other rfl _ (s0_30))))) ?_)
    refine V.go_on 13 (by kernel_rfl) (((at_other rfl _ (at_same (((hz28.put _ _).put _ _).put _ _) rfl _) : Act.eval _ _ = (.bool (decide ((p.size : Int) > 0))))).trans (dt hg35)) (V.mv (v := (.string p)) (at_other rfl _ (at_other rfl _ (at_other rfl _ (at_other rfl _ (at_other rfl _ (s0_30)))))) ?_)
    refine V.go_on 13 (by kernel_rfl) (((at_other rfl _ (at_other rfl _ (at_same (((hz28.put _ _).put _ _).put _ _) rfl _)) : Act.eval _ _ = (.bool (decide ((p.size : Int) > 0))))).trans (dt hg35)) (V.pv [(15, .string p)] ⟨(at_same (((((hz28.put _ _).put _ _).put _ _).put _ _).put _ _) rfl _), trivial⟩ (by kernel_rfl) (.int .i64 (p.size : Int)) (by kernel_rfl) ?_)
    refine V.go_on 13 (by kernel_rfl) (((at_other rfl _ (at_other rfl _ (at_other rfl _ (at_same (((hz28.put _ _).put _ _).put _ _) rfl _))) : Act.eval _ _ = (.bool (decide ((p.size : Int) > 0))))).trans (dt hg35)) (V.pvw [(16, .int .i64 (p.size : Int))] ⟨(at_same ((((((hz28.put _ _).put _ _).put _ _).put _ _).put _ _).put _ _) rfl _), trivial⟩ (by kernel_rfl) (.int .i64 (IntKind.i64.wrap ((p.size : Int) - 1))) (.int .i64 ((p.size : Int) - 1)) (by kernel_rfl) (V.w_i64 (by omega) (by omega)) ?_)
    refine V.go_on 13 (by kernel_rfl) (((at_other rfl _ (at_other rfl _ (at_other rfl _ (at_other rfl _ (at_same (((hz28.put _ _).put _ _).put _ _) rfl _)))) : Act.eval _ _ = (.bool (decide ((p.size : Int) > 0))))).trans (dt hg35)) (V.ixs p .i64 ((p.size : Int) - 1) (at_other rfl _ (at_other rfl _ (at_other rfl _ (at_same ((((hz28.put _ _).put _ _).put _ _).put _ _) rfl _)))) (at_same (((((((hz28.put _ _).put _ _).put _ _).put _ _).put _ _).put _ _).put _ _) rfl _) (by omega) (by omega) (by kernel_rfl) ?_)
    have hb36 := byt_lt p ((p.size : Int) - 1)
    refine V.go_on 13 (by kernel_rfl) (((at_other rfl _ (at_other rfl _ (at_other rfl _ (at_other rfl _ (at_other rfl _ (at_same (((hz28.put _ _).put _ _).put _ _) rfl _))))) : Act.eval _ _ = (.bool (decide ((p.size : Int) > 0))))).trans (dt hg35)) (V.pvw [(18, .int .u8 (bi p ((p.size : Int) - 1)))] ⟨(at_same ((((((((hz28.put _ _).put _ _).put _ _).put _ _).put _ _).put _ _).put _ _).put _ _) rfl _), trivial⟩ (by kernel_rfl) (.bool ((bi p ((p.size : Int) - 1)) == 92)) (.bool (decide ((bi p ((p.size : Int) - 1)) = 92))) (by kernel_rfl) V.t_eql ?_)
    refine V.go (V.pk_t (((at_other rfl _ (at_other rfl _ (at_other rfl _ (at_other rfl _ (at_other rfl _ (at_other rfl _ (at_same (((hz28.put _ _).put _ _).put _ _) rfl _)))))) : Act.eval _ _ = (.bool (decide ((p.size : Int) > 0))))).trans (dt hg35)) (v := (.bool (decide ((bi p ((p.size : Int) - 1)) = 92)))) (at_same (((((((((hz28.put _ _).put _ _).put _ _).put _ _).put _ _).put _ _).put _ _).put _ _).put _ _) rfl _) ?_)
    refine V.go (V.mv (v := (.bool (decide ((bi p ((p.size : Int) - 1)) = 92)))) (at_same ((((((((((hz28.put _ _).put _ _).put _ _).put _ _).put _ _).put _ _).put _ _).put _ _).put _ _).put _ _) rfl _) ?_)
    by_cases hg37 : (bi p ((p.size : Int) - 1)) = 92
    ·
      refine V.go_off 21 (by kernel_rfl) (((at_same (((((((((((hz28.put _ _).put _ _).put _ _).put _ _).put _ _).put _ _).put _ _).put _ _).put _ _).put _ _).put _ _) rfl _ : Act.eval _ _ = (.bool (decide ((bi p ((p.size : Int) - 1)) = 92))))).trans (dt hg37)) (by kernel_rfl) ?_
      refine V.go_off 21 (by kernel_rfl) (((at_other rfl _ (at_same (((((((((((hz28.put _ _).put _ _).put _ _).put _ _).put _ _).put _ _).put _ _).put _ _).put _ _).put _ _).put _ _) rfl _) : Act.eval _ _ = (.bool (decide ((bi p ((p.size : Int) - 1)) = 92))))).trans (dt hg37)) (by kernel_rfl) ?_
      refine V.go_off 21 (by kernel_rfl) (((at_other rfl _ (at_other rfl _ (at_same (((((((((((hz28.put _ _).put _ _).put _ _).put _ _).put _ _).put _ _).put _ _).put _ _).put _ _).put _ _).put _ _) rfl _)) : Act.eval _ _ = (.bool (decide ((bi p ((p.size : Int) - 1)) = 92))))).trans (dt hg37)) (by kernel_rfl) ?_
      refine V.go_off 21 (by kernel_rfl) (((at_other rfl _ (at_other rfl _ (at_other rfl _ (at_same (((((((((((hz28.put _ _).put _ _).put _ _).put _ _).put _ _).put _ _).put _ _).put _ _).put _ _).put _ _).put _ _) rfl _))) : Act.eval _ _ = (.bool (decide ((bi p ((p.size : Int) - 1)) = 92))))).trans (dt hg37)) (by kernel_rfl) ?_
      refine V.go_off 21 (by kernel_rfl) (((at_other rfl _ (at_other rfl _ (at_other rfl _ (at_other rfl _ (at_same (((((((((((hz28.put _ _).put _ _).put _ _).put _ _).put _ _).put _ _).put _ _).put _ _).put _ _).put _ _).put _ _) rfl _)))) : Act.eval _ _ = (.bool (decide ((bi p ((p.size : Int) - 1)) = 92))))).trans (dt hg37)) (by kernel_rfl) ?_
      refine V.go_off 21 (by kernel_rfl) (((at_other rfl _ (at_other rfl _ (at_other rfl _ (at_other rfl _ (at_other rfl _ (at_same (((((((((((hz28.put _ _).put _ _).put _ _).put _ _).put _ _).put _ _).put _ _).put _ _).put _ _).put _ _).put _ _) rfl _))))) : Act.eval _ _ = (.bool (decide ((bi p ((p.size : Int) - 1)) = 92))))).trans (dt hg37)) (by kernel_rfl) ?_
      refine V.go (V.pk_t (((at_other rfl _ (at_other rfl _ (at_other rfl _ (at_other rfl _ (at_other rfl _ (at_other rfl _ (at_same (((((((((((hz28.put _ _).put _ _).put _ _).put _ _).put _ _).put _ _).put _ _).put _ _).put _ _).put _ _).put _ _) rfl _)))))) : Act.eval _ _ = (.bool (decide ((bi p ((p.size : Int) - 1)) = 92))))).trans (dt hg37)) (v := (.bool true)) evc ?_)
      refine V.go (V.asg (v := (.bool true)) (at_same ((((((((((((((((((hz28.put _ _).put _ _).put _ _).put _ _).put _ _).put _ _).put _ _).put _ _).put _ _).put _ _).put _ _).put _ _).put _ _).put _ _).put _ _).put _ _).put _ _).put _ _) rfl _) ?_)
      refine V.nil ?_
      refine V.then_n (hK34 _ _ ?_)
      refine V.flushW ((((((((((((((((((((hz28.put _ _).put _ _).put _ _).put _ _).put _ _).put _ _).put _ _).put _ _).put _ _).put _ _).put _ _).put _ _).put _ _).put _ _).put _ _).put _ _).put _ _).put _ _).put _ _).put _ _) (fun a38 hz39 up40 => ?_)
      have s2_41 : a38.eval (.tmp 2) = (.bool true) := up40 _ _ (at_same (((((((((((((((((((hz28.put _ _).put _ _).put _ _).put _ _).put _ _).put _ _).put _ _).put _ _).put _ _).put _ _).put _ _).put _ _).put _ _).put _ _).put _ _).put _ _).put _ _).put _ _).put _ _) rfl _)
      clear up40
      refine V.ret ?_
      refine V.ret1 hz39 rfl (s2_41) ?_
      refine ⟨congrArg Ending.returned (congrArg Value.bool ?_), hF_25⟩
      unfold endsB
      rw [decide_eq_true (show p.size > 0 by omega), decide_eq_true (show bi p ((p.size : Int) - 1) = 92 from hg37)]
      rfl
    ·
      refine V.go_on 21 (by kernel_rfl) (((at_same (((((((((((hz28.put _ _).put _ _).put _ _).put _ _).put _ _).put _ _).put _ _).put _ _).put _ _).put _ _).put _ _) rfl _ : Act.eval _ _ = (.bool (decide ((bi p ((p.size : Int) - 1)) = 92))))).trans (df hg37)) (V.mv (v := (.slice A20 ((parse (ints cat18)).length) c21)) (at_other rfl _ (at_other rfl _ (at_other rfl _ (at_other rfl _ (at_other rfl _ (at_other rfl _ (at_other rfl _ (at_other rfl _ (at_other rfl _ (at_other rfl _ (at_other rfl _ (at_other rfl _ (s4_32))))))))))))) ?_)
      refine V.go_on 21 (by kernel_rfl) (((at_other rfl _ (at_same (((((((((((hz28.put _ _).put _ _).put _ _).put _ _).put _ _).put _ _).put _ _).put _ _).put _ _).put _ _).put _ _) rfl _) : Act.eval _ _ = (.bool (decide ((bi p ((p.size : Int) - 1)) = 92))))).trans (df hg37)) (V.pv [(22, .slice A20 ((parse (ints cat18)).length) c21)] ⟨(at_same ((((((((((((hz28.put _ _).put _ _).put _ _).put _ _).put _ _).put _ _).put _ _).put _ _).put _ _).put _ _).put _ _).put _ _) rfl _), trivial⟩ (by kernel_rfl) (.int .i64 (((parse (ints cat18)).length : Nat) : Int)) (by kernel_rfl) ?_)
      refine V.go_on 21 (by kernel_rfl) (((at_other rfl _ (at_other rfl _ (at_same (((((((((((hz28.put _ _).put _ _).put _ _).put _ _).put _ _).put _ _).put _ _).put _ _).put _ _).put _ _).put _ _) rfl _)) : Act.eval _ _ = (.bool (decide ((bi p ((p.size : Int) - 1)) = 92))))).trans (df hg37)) (V.mv (v := (.slice A5 ((parse (ints p)).length) c6)) (at_other rfl _ (at_other rfl _ (at_other rfl _ (at_other rfl _ (at_other rfl _ (at_other rfl _ (at_other rfl _ (at_other rfl _ (at_other rfl _ (at_other rfl _ (at_other rfl _ (at_other rfl _ (at_other rfl _ (at_other rfl _ (s3_31))))))))))))))) ?_)
      refine V.go_on 21 (by kernel_rfl) (((at_other rfl _ (at_other rfl _ (at_other rfl _ (at_same (((((((((((hz28.put _ _).put _ _).put _ _).put _ _).put _ _).put _ _).put _ _).put _ _).put _ _).put _ _).put _ _) rfl _))) : Act.eval _ _ = (.bool (decide ((bi p ((p.size : Int) - 1)) = 92))))).trans (df hg37)) (V.pv [(24, .slice A5 ((parse (ints p)).length) c6)] ⟨(at_same ((((((((((((((hz28.put _ _).put _ _).put _ _).put _ _).put _ _).put _ _).put _ _).put _ _).put _ _).put _ _).put _ _).put _ _).put _ _).put _ _) rfl _), trivial⟩ (by kernel_rfl) (.int .i64 (((parse (ints p)).length : Nat) : Int)) (by kernel_rfl) ?_)
      refine V.go_on 21 (by kernel_rfl) (((at_other rfl _ (at_other rfl _ (at_other rfl _ (at_other rfl _ (at_same (((((((((((hz28.put _ _).put _ _).put _ _).put _ _).put _ _).put _ _).put _ _).put _ _).put _ _).put _ _).put _ _) rfl _)))) : Act.eval _ _ = (.bool (decide ((bi p ((p.size : Int) - 1)) = 92))))).trans (df hg37)) (V.pvw [(25, .int .i64 (((parse (ints p)).length : Nat) : Int))] ⟨(at_same (((((((((((((((hz28.put _ _).put _ _).put _ _).put _ _).put _ _).put _ _).put _ _).put _ _).put _ _).put _ _).put _ _).put _ _).put _ _).put _ _).put _ _) rfl _), trivial⟩ (by kernel_rfl) (.int .i64 (IntKind.i64.wrap ((((parse (ints p)).length : Nat) : Int) + 2))) (.int .i64 ((((parse (ints p)).length : Nat) : Int) + 2)) (by kernel_rfl) (V.w_i64 (by omega) (by omega)) ?_)
      refine V.go_on 21 (by kernel_rfl) (((at_other rfl _ (at_other rfl _ (at_other rfl _ (at_other rfl _ (at_other rfl _ (at_same (((((((((((hz28.put _ _).put _ _).put _ _).put _ _).put _ _).put _ _).put _ _).put _ _).put _ _).put _ _).put _ _) rfl _))))) : Act.eval _ _ = (.bool (decide ((bi p ((p.size : Int) - 1)) = 92))))).trans (df hg37)) (V.pvw [(23, .int .i64 (((parse (ints cat18)).length : Nat) : Int)), (26, .int .i64 ((((parse (ints p)).length : Nat) : Int) + 2))] ⟨(at_other rfl _ (at_other rfl _ (at_other rfl _ (at_same (((((((((((((hz28.put _ _).put _ _).put _ _).put _ _).put _ _).put _ _).put _ _).put _ _).put _ _).put _ _).put _ _).put _ _).put _ _) rfl _)))), (at_same ((((((((((((((((hz28.put _ _).put _ _).put _ _).put _ _).put _ _).put _ _).put _ _).put _ _).put _ _).put _ _).put _ _).put _ _).put _ _).put _ _).put _ _).put _ _) rfl _), trivial⟩ (by kernel_rfl) (.bool ((((parse (ints cat18)).length : Nat) : Int) != ((((parse (ints p)).length : Nat) : Int) + 2))) (.bool (decide (¬ (((parse (ints cat18)).length : Nat) : Int) = ((((parse (ints p)).length : Nat) : Int) + 2)))) (by kernel_rfl) V.t_neq ?_)
      refine V.go (V.pk_f (((at_other rfl _ (at_other rfl _ (at_other rfl _ (at_other rfl _ (at_other rfl _ (at_other rfl _ (at_same (((((((((((hz28.put _ _).put _ _).put _ _).put _ _).put _ _).put _ _).put _ _).put _ _).put _ _).put _ _).put _ _) rfl _)))))) : Act.eval _ _ = (.bool (decide ((bi p ((p.size : Int) - 1)) = 92))))).trans (df hg37)) (v := (.bool (decide (¬ (((parse (ints cat18)).length : Nat) : Int) = ((((parse (ints p)).length : Nat) : Int) + 2))))) (at_same (((((((((((((((((hz28.put _ _).put _ _).put _ _).put _ _).put _ _).put _ _).put _ _).put _ _).put _ _).put _ _).put _ _).put _ _).put _ _).put _ _).put _ _).put _ _).put _ _) rfl _) ?_)
      refine V.go (V.asg (v := (.bool (decide (¬ (((parse (ints cat18)).length : Nat) : Int) = ((((parse (ints p)).length : Nat) : Int) + 2))))) (at_same ((((((((((((((((((hz28.put _ _).put _ _).put _ _).put _ _).put _ _).put _ _).put _ _).put _ _).put _ _).put _ _).put _ _).put _ _).put _ _).put _ _).put _ _).put _ _).put _ _).put _ _) rfl _) ?_)
      refine V.nil ?_
      refine V.then_n (hK34 _ _ ?_)
      refine V.flushW ((((((((((((((((((((hz28.put _ _).put _ _).put _ _).put _ _).put _ _).put _ _).put _ _).put _ _).put _ _).put _ _).put _ _).put _ _).put _ _).put _ _).put _ _).put _ _).put _ _).put _ _).put _ _).put _ _) (fun a42 hz43 up44 => ?_)
      have s2_45 : a42.eval (.tmp 2) = (.bool (decide (¬ (((parse (ints cat18)).length : Nat) : Int) = ((((parse (ints p)).length : Nat) : Int) + 2)))) := up44 _ _ (at_same (((((((((((((((((((hz28.put _ _).put _ _).put _ _).put _ _).put _ _).put _ _).put _ _).put _ _).put _ _).put _ _).put _ _).put _ _).put _ _).put _ _).put _ _).put _ _).put _ _).put _ _).put _ _) rfl _)
      clear up44
      refine V.ret ?_
      refine V.ret1 hz43 rfl (s2_45) ?_
      refine ⟨congrArg Ending.returned (congrArg Value.bool ?_), hF_25⟩
      unfold endsB
      rw [decide_eq_true (show p.size > 0 by omega), decide_eq_false (show ¬ bi p ((p.size : Int) - 1) = 92 from hg37)]
      simp only [Bool.true_and, Bool.false_and, Bool.and_false, Bool.false_or]
      rw [← hcat19, decide_eq_decide]
      omega
  ·
    refine V.go_off 13 (by kernel_rfl) (((at_same (((hz28.put _ _).put _ _).put _ _) rfl _ : Act.eval _ _ = (.bool (decide ((p.size : Int) > 0))))).trans (df hg35)) (by kernel_rfl) ?_
    refine V.go_off 13 (by kernel_rfl) (((at_other rfl _ (at_same (((hz28.put _ _).put _ _).put _ _) rfl _) : Act.eval _ _ = (.bool (decide ((p.size : Int) > 0))))).trans (df hg35)) (by kernel_rfl) ?_
    refine V.go_off 13 (by kernel_rfl) (((at_other rfl _ (at_other rfl _ (at_same (((hz28.put _ _).put _ _).put _ _) rfl _)) : Act.eval _ _ = (.bool (decide ((p.size : Int) > 0))))).trans (df hg35)) (by kernel_rfl) ?_
    refine V.go_off 13 (by kernel_rfl) (((at_other rfl _ (at_other rfl _ (at_other rfl _ (at_same (((hz28.put _ _).put _ _).put _ _) rfl _))) : Act.eval _ _ = (.bool (decide ((p.size : Int) > 0))))).trans (df hg35)) (by kernel_rfl) ?_
    refine V.go_off 13 (by kernel_rfl) (((at_other rfl _ (at_other rfl _ (at_other rfl _ (at_other rfl _ (at_same (((hz28.put _ _).put _ _).put _ _) rfl _)))) : Act.eval _ _ = (.bool (decide ((p.size : Int) > 0))))).trans (df hg35)) (by kernel_rfl) ?_
    refine V.go_off 13 (by kernel_rfl) (((at_other rfl _ (at_other rfl _ (at_other rfl _ (at_other rfl _ (at_other rfl _ (at_same (((hz28.put _ _).put _ _).put _ _) rfl _))))) : Act.eval _ _ = (.bool (decide ((p.size : Int) > 0))))).trans (df hg35)) (by kernel_rfl) ?_
    refine V.go (V.pk_f (((at_other rfl _ (at_other rfl _ (at_other rfl _ (at_other rfl _ (at_other rfl _ (at_other rfl _ (at_same (((hz28.put _ _).put _ _).put _ _) rfl _)))))) : Act.eval _ _ = (.bool (decide ((p.size : Int) > 0))))).trans (df hg35)) (v := (.bool false)) evc ?_)
    refine V.go (V.mv (v := (.bool false)) (at_same ((((((((((hz28.put _ _).put _ _).put _ _).put _ _).put _ _).put _ _).put _ _).put _ _).put _ _).put _ _) rfl _) ?_)
    refine V.go_on 21 (by kernel_rfl) (at_same (((((((((((hz28.put _ _).put _ _).put _ _).put _ _).put _ _).put _ _).put _ _).put _ _).put _ _).put _ _).put _ _) rfl _) (V.mv (v := (.slice A20 ((parse (ints cat18)).length) c21)) (at_other rfl _ (at_other rfl _ (at_other rfl _ (at_other rfl _ (at_other rfl _ (at_other rfl _ (at_other rfl _ (at_other rfl _ (at_other rfl _ (at_other rfl _ (at_other rfl _ (at_other rfl _ (s4_32))))))))))))) ?_)
    refine V.go_on 21 (by kernel_rfl) (at_other rfl _ (at_same (((((((((((hz28.put _ _).put _ _).put _ _).put _ _).put _ _).put _ _).put _ _).put _ _).put _ _).put _ _).put _ _) rfl _)) (V.pv [(22, .slice A20 ((parse (ints cat18)).length) c21)] ⟨(at_same ((((((((((((hz28.put _ _).put _ _).put _ _).put _ _).put _ _).put _ _).put _ _).put _ _).put _ _).put _ _).put _ _).put _ _) rfl _), trivial⟩ (by kernel_rfl) (.int .i64 (((parse (ints cat18)).length : Nat) : Int)) (by kernel_rfl) ?_)
    refine V.go_on 21 (by kernel_rfl) (at_other rfl _ (at_other rfl _ (at_same (((((((((((hz28.put _ _).put _ _).put _ _).put _ _).put _ _).put _ _).put _ _).put _ _).put _ _).put _ _).put _ _) rfl _))) (V.mv (v := (.slice A5 ((parse (ints p)).length) c6)) (at_other rfl _ (at_other rfl _ (at_other rfl _ (at_other rfl _ (at_other rfl _ (at_other rfl _ (at_other rfl _ (at_other rfl _ (at_other rfl _ (at_other rfl _ (at_other rfl _ (at_other rfl _ (at_other rfl _ (at_other rfl _ (s3_31))))))))))))))) ?_)
    refine V.go_on 21 (by kernel_rfl) (at_other rfl _ (at_other rfl _ (at_other rfl _ (at_same (((((((((((hz28.put _ _).put _ _).put _ _).put _ _).put _ _).put _ _).put _ _).put _ _).put _ _).put _ _).put _ _) rfl _)))) (V.pv [(24, .slice A5 ((parse (ints p)).length) c6)] ⟨(at_same ((((((((((((((hz28.put _ _).put _ _).put _ _).put _ _).put _ _).put _ _).put _ _).put _ _).put _ _).put _ _).put _ _).put _ _).put _ _).put _ _) rfl _), trivial⟩ (by kernel_rfl) (.int .i64 (((parse (ints p)).length : Nat) : Int)) (by kernel_rfl) ?_)
    refine V.go_on 21 (by kernel_rfl) (at_other rfl _ (at_other rfl _ (at_other rfl _ (at_other rfl _ (at_same (((((((((((hz28.put _ _).put _ _).put _ _).put _ _).put _ _).put _ _).put _ _).put _ _).put _ _).put _ _).put _ _) rfl _))))) (V.pvw [(25, .int .i64 (((parse (ints p)).length : Nat) : Int))] ⟨(at_same (((((((((((((((hz28.put _ _).put _ _).put _ _).put _ _).put _ _).put _ _).put _ _).put _ _).put _ _).put _ _).put _ _).put _ _).put _ _).put _ _).put _ _) rfl _), trivial⟩ (by kernel_rfl) (.int .i64 (IntKind.i64.wrap ((((parse (ints p)).length : Nat) : Int) + 2))) (.int .i64 ((((parse (ints p)).length : Nat) : Int) + 2)) (by kernel_rfl) (V.w_i64 (by omega) (by omega)) ?_)
    refine V.go_on 21 (by kernel_rfl) (at_other rfl _ (at_other rfl _ (at_other rfl _ (at_other rfl _ (at_other rfl _ (at_same (((((((((((hz28.put _ _).put _ _).put _ _).put _ _).put _ _).put _ _).put _ _).put _ _).put _ _).put _ _).put _ _) rfl _)))))) (V.pvw [(23, .int .i64 (((parse (ints cat18)).length : Nat) : Int)), (26, .int .i64 ((((parse (ints p)).length : Nat) : Int) + 2))] ⟨(at_other rfl _ (at_other rfl _ (at_other rfl _ (at_same (((((((((((((hz28.put _ _).put _ _).put _ _).put _ _).put _ _).put _ _).put _ _).put _ _).put _ _).put _ _).put _ _).put _ _).put _ _) rfl _)))), (at_same ((((((((((((((((hz28.put _ _).put _ _).put _ _).put _ _).put _ _).put _ _).put _ _).put _ _).put _ _).put _ _).put _ _).put _ _).put _ _).put _ _).put _ _).put _ _) rfl _), trivial⟩ (by kernel_rfl) (.bool ((((parse (ints cat18)).length : Nat) : Int) != ((((parse (ints p)).length : Nat) : Int) + 2))) (.bool (decide (¬ (((parse (ints cat18)).length : Nat) : Int) = ((((parse (ints p)).length : Nat) : Int) + 2)))) (by kernel_rfl) V.t_neq ?_)
    refine V.go (V.pk_f (at_other rfl _ (at_other rfl _ (at_other rfl _ (at_other rfl _ (at_other rfl _ (at_other rfl _ (at_same (((((((((((hz28.put _ _).put _ _).put _ _).put _ _).put _ _).put _ _).put _ _).put _ _).put _ _).put _ _).put _ _) rfl _))))))) (v := (.bool (decide (¬ (((parse (ints cat18)).length : Nat) : Int) = ((((parse (ints p)).length : Nat) : Int) + 2))))) (at_same (((((((((((((((((hz28.put _ _).put _ _).put _ _).put _ _).put _ _).put _ _).put _ _).put _ _).put _ _).put _ _).put _ _).put _ _).put _ _).put _ _).put _ _).put _ _).put _ _) rfl _) ?_)
    refine V.go (V.asg (v := (.bool (decide (¬ (((parse (ints cat18)).length : Nat) : Int) = ((((parse (ints p)).length : Nat) : Int) + 2))))) (at_same ((((((((((((((((((hz28.put _ _).put _ _).put _ _).put _ _).put _ _).put _ _).put _ _).put _ _).put _ _).put _ _).put _ _).put _ _).put _ _).put _ _).put _ _).put _ _).put _ _).put _ _) rfl _) ?_)
    refine V.nil ?_
    refine V.then_n (hK34 _ _ ?_)
    refine V.flushW ((((((((((((((((((((hz28.put _ _).put _ _).put _ _).put _ _).put _ _).put _ _).put _ _).put _ _).put _ _).put _ _).put _ _).put _ _).put _ _).put _ _).put _ _).put _ _).put _ _).put _ _).put _ _).put _ _) (fun a46 hz47 up48 => ?_)
    have s2_49 : a46.eval (.tmp 2) = (.bool (decide (¬ (((parse (ints cat18)).length : Nat) : Int) = ((((parse (ints p)).length : Nat) : Int) + 2)))) := up48 _ _ (at_same (((((((((((((((((((hz28.put _ _).put _ _).put _ _).put _ _).put _ _).put _ _).put _ _).put _ _).put _ _).put _ _).put _ _).put _ _).put _ _).put _ _).put _ _).put _ _).put _ _).put _ _).put _ _) rfl _)
    clear up48
    refine V.ret ?_
    refine V.ret1 hz47 rfl (s2_49) ?_
    refine ⟨congrArg Ending.returned (congrArg Value.bool ?_), hF_25⟩
    unfold endsB
    rw [decide_eq_false (show ¬ p.size > 0 by omega)]
    simp only [Bool.true_and, Bool.false_and, Bool.and_false, Bool.false_or]
    rw [← hcat19, decide_eq_decide]
    omega
set_option maxHeartbeats 4000000 in
set_option maxRecDepth 20000 in
theorem globBehind_any (w : World) (p s q t : ByteArray) : Calls Try.prog 4 #[.string p, .string s, .string q, .string t] w (fun e w' => e = .returned (.bool true) ∧ Fr [] w w') := by
  have hF := Fr.refl [] w
  have hlit : (⟨#[42]⟩ : ByteArray).size = 1 := rfl
  refine V.enter 56 Try.func4 rfl rfl ?_
  intro a hz ha
  have s0 : a.eval (.tmp 0) = (.string p) := ha 0 _ rfl
  have s1 : a.eval (.tmp 1) = (.string s) := ha 1 _ rfl
  have s2 : a.eval (.tmp 2) = (.string q) := ha 2 _ rfl
  have s3 : a.eval (.tmp 3) = (.string t) := ha 3 _ rfl
  clear ha
  refine V.seq (fun K1 hK2 => ?_)
  refine V.region (by kernel_rfl) ?_
  refine V.go (V.asg (v := (.bool false)) evc ?_)
  refine V.nil ?_
  refine V.then_n (hK2 _ _ ?_)
  refine V.seq (fun K3 hK4 => ?_)
  refine V.seq (fun K5 hK6 => ?_)
  refine V.region (by kernel_rfl) ?_
  refine V.go (V.call 12 #[] #[] evf (args0) (Go.Proofs.enters_of Try.func12 (by kernel_rfl) rfl) (awake_any w) ?_)
  rintro _ w8 ⟨rfl, hF7⟩
  refine ⟨_, rfl, ?_⟩
  have hsw8 := hF7.size
  have hF_9 := hF.new hF7
  refine V.go (V.pv [(9, .bool true)] ⟨(at_same (hz.put _ _) rfl _), trivial⟩ (by kernel_rfl) (.bool false) (by kernel_rfl) ?_)
  refine V.nil ?_
  refine V.then_n (hK6 _ _ ?_)
  refine V.cond_f (at_same ((hz.put _ _).put _ _) rfl _) ?_
  refine V.skip ?_
  refine V.then_n (hK4 _ _ ?_)
  refine V.seq (fun K10 hK11 => ?_)
  refine V.region (by kernel_rfl) ?_
  refine V.go (V.mv (v := (.string p)) (at_other rfl _ (at_other rfl _ (at_other rfl _ (s0)))) ?_)
  refine V.go (V.call 9 #[] #[.string p] evf (args1 (at_same (((hz.put _ _).put _ _).put _ _) rfl _)) (Go.Proofs.enters_of Try.func9 (by kernel_rfl) rfl) (cut_any w8 p) ?_)
  rintro _ w13 ⟨rfl, hF12⟩
  refine ⟨_, rfl, ?_⟩
  have hsw13 := hF12.size
  have hF_14 := hF_9.new hF12
  have hcut12 := cutS_le p
  refine V.go (V.mv (v := (.string s)) (at_other rfl _ (at_other rfl _ (at_other rfl _ (at_other rfl _ (at_other rfl _ (s1)))))) ?_)
  refine V.go (V.call 9 #[] #[.string s] evf (args1 (at_same (((((hz.put _ _).put _ _).put _ _).put _ _).put _ _) rfl _)) (Go.Proofs.enters_of Try.func9 (by kernel_rfl) rfl) (cut_any w13 s) ?_)
  rintro _ w16 ⟨rfl, hF15⟩
  refine ⟨_, rfl, ?_⟩
  have hsw16 := hF15.size
  have hF_17 := hF_14.new hF15
  have hcut15 := cutS_le s
  refine V.go (V.mv (v := (.string q)) (at_other rfl _ (at_other rfl _ (at_other rfl _ (at_other rfl _ (at_other rfl _ (at_other rfl _ (at_other rfl _ (s2)))))))) ?_)
  refine V.go (V.call 9 #[] #[.string q] evf (args1 (at_same (((((((hz.put _ _).put _ _).put _ _).put _ _).put _ _).put _ _).put _ _) rfl _)) (Go.Proofs.enters_of Try.func9 (by kernel_rfl) rfl) (cut_any w16 q) ?_)
  rintro _ w19 ⟨rfl, hF18⟩
  refine ⟨_, rfl, ?_⟩
  have hsw19 := hF18.size
  have hF_20 := hF_17.new hF18
  have hcut18 := cutS_le q
  refine V.go (V.mv (v := (.string t)) (at_other rfl _ (at_other rfl _ (at_other rfl _ (at_other rfl _ (at_other rfl _ (at_other rfl _ (at_other rfl _ (at_other rfl _ (at_other rfl _ (s3)))))))))) ?_)
  refine V.go (V.call 9 #[] #[.string t] evf (args1 (at_same (((((((((hz.put _ _).put _ _).put _ _).put _ _).put _ _).put _ _).put _ _).put _ _).put _ _) rfl _)) (Go.Proofs.enters_of Try.func9 (by kernel_rfl) rfl) (cut_any w19 t) ?_)
  rintro _ w22 ⟨rfl, hF21⟩
  refine ⟨_, rfl, ?_⟩
  have hsw22 := hF21.size
  have hF_23 := hF_20.new hF21
  have hcut21 := cutS_le t
  refine V.go (V.asg (v := (.string (cutS p))) (at_other rfl _ (at_other rfl _ (at_other rfl _ (at_other rfl _ (at_other rfl _ (at_other rfl _ (at_same ((((hz.put _ _).put _ _).put _ _).put _ _) rfl _))))))) ?_)
  refine V.go (V.asg (v := (.string (cutS s))) (at_other rfl _ (at_other rfl _ (at_other rfl _ (at_other rfl _ (at_other rfl _ (at_same ((((((hz.put _ _).put _ _).put _ _).put _ _).put _ _).put _ _) rfl _)))))) ?_)
  refine V.go (V.asg (v := (.string (cutS q))) (at_other rfl _ (at_other rfl _ (at_other rfl _ (at_other rfl _ (at_same ((((((((hz.put _ _).put _ _).put _ _).put _ _).put _ _).put _ _).put _ _).put _ _) rfl _))))) ?_)
  refine V.go (V.asg (v := (.string (cutS t))) (at_other rfl _ (at_other rfl _ (at_other rfl _ (at_same ((((((((((hz.put _ _).put _ _).put _ _).put _ _).put _ _).put _ _).put _ _).put _ _).put _ _).put _ _) rfl _)))) ?_)
  refine V.nil ?_
  refine V.then_n (hK11 _ _ ?_)
  refine V.flushW (((((((((((((((hz.put _ _).put _ _).put _ _).put _ _).put _ _).put _ _).put _ _).put _ _).put _ _).put _ _).put _ _).put _ _).put _ _).put _ _).put _ _) (fun a24 hz25 up26 => ?_)
  have s0_27 : a24.eval (.tmp 0) = (.string (cutS p)) := up26 _ _ (at_other rfl _ (at_other rfl _ (at_other rfl _ (at_same (((((((((((hz.put _ _).put _ _).put _ _).put _ _).put _ _).put _ _).put _ _).put _ _).put _ _).put _ _).put _ _) rfl _))))
  have s1_28 : a24.eval (.tmp 1) = (.string (cutS s)) := up26 _ _ (at_other rfl _ (at_other rfl _ (at_same ((((((((((((hz.put _ _).put _ _).put _ _).put _ _).put _ _).put _ _).put _ _).put _ _).put _ _).put _ _).put _ _).put _ _) rfl _)))
  have s2_29 : a24.eval (.tmp 2) = (.string (cutS q)) := up26 _ _ (at_other rfl _ (at_same (((((((((((((hz.put _ _).put _ _).put _ _).put _ _).put _ _).put _ _).put _ _).put _ _).put _ _).put _ _).put _ _).put _ _).put _ _) rfl _))
  have s3_30 : a24.eval (.tmp 3) = (.string (cutS t)) := up26 _ _ (at_same ((((((((((((((hz.put _ _).put _ _).put _ _).put _ _).put _ _).put _ _).put _ _).put _ _).put _ _).put _ _).put _ _).put _ _).put _ _).put _ _) rfl _)
  clear up26
  refine V.seq (fun K31 hK32 => ?_)
  refine V.seq (fun K33 hK34 => ?_)
  refine V.region (by kernel_rfl) ?_
  refine V.go (V.mv (v := (.string (cutS p))) (s0_27) ?_)
  refine V.go (V.call 13 #[] #[.string (cutS p)] evf (args1 (at_same hz25 rfl _)) (Go.Proofs.enters_of Try.func13 (by kernel_rfl) rfl) (ends_any w22 (cutS p) (by omega)) ?_)
  rintro _ w36 ⟨rfl, hF35⟩
  refine ⟨_, rfl, ?_⟩
  have hsw36 := hF35.size
  have hF_37 := hF_23.new hF35
  refine V.go (V.mv (v := (.bool (endsB (cutS p)))) (at_same (hz25.put _ _) rfl _) ?_)
  by_cases hg38 : (endsB (cutS p)) = true
  ·
    refine V.go_off 21 (by kernel_rfl) (((at_same ((hz25.put _ _).put _ _) rfl _ : Act.eval _ _ = (.bool (endsB (cutS p))))).trans (bt hg38)) (by kernel_rfl) ?_
    refine V.go_off 21 (by kernel_rfl) (((at_other rfl _ (at_same ((hz25.put _ _).put _ _) rfl _) : Act.eval _ _ = (.bool (endsB (cutS p))))).trans (bt hg38)) (by kernel_rfl) ?_
    refine V.go_off 21 (by kernel_rfl) (((at_other rfl _ (at_other rfl _ (at_same ((hz25.put _ _).put _ _) rfl _)) : Act.eval _ _ = (.bool (endsB (cutS p))))).trans (bt hg38)) (by kernel_rfl) ?_
    refine V.go_off 21 (by kernel_rfl) (((at_other rfl _ (at_other rfl _ (at_other rfl _ (at_same ((hz25.put _ _).put _ _) rfl _))) : Act.eval _ _ = (.bool (endsB (cutS p))))).trans (bt hg38)) (by kernel_rfl) ?_
    refine V.go (V.pk_t (((at_other rfl _ (at_other rfl _ (at_other rfl _ (at_other rfl _ (at_same ((hz25.put _ _).put _ _) rfl _)))) : Act.eval _ _ = (.bool (endsB (cutS p))))).trans (bt hg38)) (v := (.bool true)) evc ?_)
    refine V.go (V.mv (v := (.bool true)) (at_same (((((((hz25.put _ _).put _ _).put _ _).put _ _).put _ _).put _ _).put _ _) rfl _) ?_)
    refine V.go_off 27 (by kernel_rfl) (at_same ((((((((hz25.put _ _).put _ _).put _ _).put _ _).put _ _).put _ _).put _ _).put _ _) rfl _) (by kernel_rfl) ?_
    refine V.go_off 27 (by kernel_rfl) (at_other rfl _ (at_same ((((((((hz25.put _ _).put _ _).put _ _).put _ _).put _ _).put _ _).put _ _).put _ _) rfl _)) (by kernel_rfl) ?_
    refine V.go_off 27 (by kernel_rfl) (at_other rfl _ (at_other rfl _ (at_same ((((((((hz25.put _ _).put _ _).put _ _).put _ _).put _ _).put _ _).put _ _).put _ _) rfl _))) (by kernel_rfl) ?_
    refine V.go_off 27 (by kernel_rfl) (at_other rfl _ (at_other rfl _ (at_other rfl _ (at_same ((((((((hz25.put _ _).put _ _).put _ _).put _ _).put _ _).put _ _).put _ _).put _ _) rfl _)))) (by kernel_rfl) ?_
    refine V.go (V.pk_t (at_other rfl _ (at_other rfl _ (at_other rfl _ (at_other rfl _ (at_same ((((((((hz25.put _ _).put _ _).put _ _).put _ _).put _ _).put _ _).put _ _).put _ _) rfl _))))) (v := (.bool true)) evc ?_)
    refine V.nil ?_
    refine V.then_n (hK34 _ _ ?_)
    refine V.flushW ((((((((((((((hz25.put _ _).put _ _).put _ _).put _ _).put _ _).put _ _).put _ _).put _ _).put _ _).put _ _).put _ _).put _ _).put _ _).put _ _) (fun a39 hz40 up41 => ?_)
    have s0_42 : a39.eval (.tmp 0) = (.string (cutS p)) := up41 _ _ (at_other rfl _ (at_other rfl _ (at_other rfl _ (at_other rfl _ (at_other rfl _ (at_other rfl _ (at_other rfl _ (at_other rfl _ (at_other rfl _ (at_other rfl _ (at_other rfl _ (at_other rfl _ (at_other rfl _ (at_other rfl _ (s0_27)))))))))))))))
    have s1_43 : a39.eval (.tmp 1) = (.string (cutS s)) := up41 _ _ (at_other rfl _ (at_other rfl _ (at_other rfl _ (at_other rfl _ (at_other rfl _ (at_other rfl _ (at_other rfl _ (at_other rfl _ (at_other rfl _ (at_other rfl _ (at_other rfl _ (at_other rfl _ (at_other rfl _ (at_other rfl _ (s1_28)))))))))))))))
    have s2_44 : a39.eval (.tmp 2) = (.string (cutS q)) := up41 _ _ (at_other rfl _ (at_other rfl _ (at_other rfl _ (at_other rfl _ (at_other rfl _ (at_other rfl _ (at_other rfl _ (at_other rfl _ (at_other rfl _ (at_other rfl _ (at_other rfl _ (at_other rfl _ (at_other rfl _ (at_other rfl _ (s2_29)))))))))))))))
    have s3_45 : a39.eval (.tmp 3) = (.string (cutS t)) := up41 _ _ (at_other rfl _ (at_other rfl _ (at_other rfl _ (at_other rfl _ (at_other rfl _ (at_other rfl _ (at_other rfl _ (at_other rfl _ (at_other rfl _ (at_other rfl _ (at_other rfl _ (at_other rfl _ (at_other rfl _ (at_other rfl _ (s3_30)))))))))))))))
    have s32_46 : a39.eval (.tmp 32) = (.bool true) := up41 _ _ (at_same (((((((((((((hz25.put _ _).put _ _).put _ _).put _ _).put _ _).put _ _).put _ _).put _ _).put _ _).put _ _).put _ _).put _ _).put _ _) rfl _)
    clear up41
    refine V.cond_t (s32_46) ?_
    refine V.seq (fun K47 hK48 => ?_)
    refine V.region (by kernel_rfl) ?_
    refine V.go (V.asg (v := (.bool true)) evc ?_)
    refine V.nil ?_
    refine V.then_n (hK48 _ _ ?_)
    refine V.ret ?_
    refine V.then_r ?_
    refine V.ret1 (hz40.put _ _) rfl (at_same hz40 rfl _) ?_
    exact ⟨rfl, hF_37⟩
  ·
    refine V.go_on 21 (by kernel_rfl) (((at_same ((hz25.put _ _).put _ _) rfl _ : Act.eval _ _ = (.bool (endsB (cutS p))))).trans (bf hg38)) (V.mv (v := (.string (cutS p))) (at_other rfl _ (at_other rfl _ (at_other rfl _ (s0_27)))) ?_)
    refine V.go_on 21 (by kernel_rfl) (((at_other rfl _ (at_same ((hz25.put _ _).put _ _) rfl _) : Act.eval _ _ = (.bool (endsB (cutS p))))).trans (bf hg38)) (V.mv (v := (.string (cutS s))) (at_other rfl _ (at_other rfl _ (at_other rfl _ (at_other rfl _ (s1_28))))) ?_)
    refine V.go_on 21 (by kernel_rfl) (((at_other rfl _ (at_other rfl _ (at_same ((hz25.put _ _).put _ _) rfl _)) : Act.eval _ _ = (.bool (endsB (cutS p))))).trans (bf hg38)) (V.call 10 #[] #[.string (cutS p), .string (cutS s), .bool false] evf (args3 (at_other rfl _ (at_same (((hz25.put _ _).put _ _).put _ _) rfl _)) (at_same ((((hz25.put _ _).put _ _).put _ _).put _ _) rfl _) evc) (Go.Proofs.enters_of Try.func10 (by kernel_rfl) rfl) (match_any w36 (cutS p) (cutS s) false) ?_)
    rintro _ w50 ⟨rfl, hF49⟩
    refine ⟨_, rfl, ?_⟩
    have hsw50 := hF49.size
    have hF_51 := hF_37.new hF49
    refine V.go_on 21 (by kernel_rfl) (((at_other rfl _ (at_other rfl _ (at_other rfl _ (at_same ((hz25.put _ _).put _ _) rfl _))) : Act.eval _ _ = (.bool (endsB (cutS p))))).trans (bf hg38)) (V.pv [(24, .bool (rmat (cutS p) (cutS s) false))] ⟨(at_same (((((hz25.put _ _).put _ _).put _ _).put _ _).put _ _) rfl _), trivial⟩ (by kernel_rfl) (.bool (!(rmat (cutS p) (cutS s) false))) (by kernel_rfl) ?_)
    refine V.go (V.pk_f (((at_other rfl _ (at_other rfl _ (at_other rfl _ (at_other rfl _ (at_same ((hz25.put _ _).put _ _) rfl _)))) : Act.eval _ _ = (.bool (endsB (cutS p))))).trans (bf hg38)) (v := (.bool (!(rmat (cutS p) (cutS s) false)))) (at_same ((((((hz25.put _ _).put _ _).put _ _).put _ _).put _ _).put _ _) rfl _) ?_)
    refine V.go (V.mv (v := (.bool (!(rmat (cutS p) (cutS s) false)))) (at_same (((((((hz25.put _ _).put _ _).put _ _).put _ _).put _ _).put _ _).put _ _) rfl _) ?_)
    by_cases hg52 : (!(rmat (cutS p) (cutS s) false)) = true
    ·
      refine V.go_off 27 (by kernel_rfl) (((at_same ((((((((hz25.put _ _).put _ _).put _ _).put _ _).put _ _).put _ _).put _ _).put _ _) rfl _ : Act.eval _ _ = (.bool (!(rmat (cutS p) (cutS s) false))))).trans (bt hg52)) (by kernel_rfl) ?_
      refine V.go_off 27 (by kernel_rfl) (((at_other rfl _ (at_same ((((((((hz25.put _ _).put _ _).put _ _).put _ _).put _ _).put _ _).put _ _).put _ _) rfl _) : Act.eval _ _ = (.bool (!(rmat (cutS p) (cutS s) false))))).trans (bt hg52)) (by kernel_rfl) ?_
      refine V.go_off 27 (by kernel_rfl) (((at_other rfl _ (at_other rfl _ (at_same ((((((((hz25.put _ _).put _ _).put _ _).put _ _).put _ _).put _ _).put _ _).put _ _) rfl _)) : Act.eval _ _ = (.bool (!(rmat (cutS p) (cutS s) false))))).trans (bt hg52)) (by kernel_rfl) ?_
      refine V.go_off 27 (by kernel_rfl) (((at_other rfl _ (at_other rfl _ (at_other rfl _ (at_same ((((((((hz25.put _ _).put _ _).put _ _).put _ _).put _ _).put _ _).put _ _).put _ _) rfl _))) : Act.eval _ _ = (.bool (!(rmat (cutS p) (cutS s) false))))).trans (bt hg52)) (by kernel_rfl) ?_
      refine V.go (V.pk_t (((at_other rfl _ (at_other rfl _ (at_other rfl _ (at_other rfl _ (at_same ((((((((hz25.put _ _).put _ _).put _ _).put _ _).put _ _).put _ _).put _ _).put _ _) rfl _)))) : Act.eval _ _ = (.bool (!(rmat (cutS p) (cutS s) false))))).trans (bt hg52)) (v := (.bool true)) evc ?_)
      refine V.nil ?_
      refine V.then_n (hK34 _ _ ?_)
      refine V.flushW ((((((((((((((hz25.put _ _).put _ _).put _ _).put _ _).put _ _).put _ _).put _ _).put _ _).put _ _).put _ _).put _ _).put _ _).put _ _).put _ _) (fun a53 hz54 up55 => ?_)
      have s0_56 : a53.eval (.tmp 0) = (.string (cutS p)) := up55 _ _ (at_other rfl _ (at_other rfl _ (at_other rfl _ (at_other rfl _ (at_other rfl _ (at_other rfl _ (at_other rfl _ (at_other rfl _ (at_other rfl _ (at_other rfl _ (at_other rfl _ (at_other rfl _ (at_other rfl _ (at_other rfl _ (s0_27)))))))))))))))
      have s1_57 : a53.eval (.tmp 1) = (.string (cutS s)) := up55 _ _ (at_other rfl _ (at_other rfl _ (at_other rfl _ (at_other rfl _ (at_other rfl _ (at_other rfl _ (at_other rfl _ (at_other rfl _ (at_other rfl _ (at_other rfl _ (at_other rfl _ (at_other rfl _ (at_other rfl _ (at_other rfl _ (s1_28)))))))))))))))
      have s2_58 : a53.eval (.tmp 2) = (.string (cutS q)) := up55 _ _ (at_other rfl _ (at_other rfl _ (at_other rfl _ (at_other rfl _ (at_other rfl _ (at_other rfl _ (at_other rfl _ (at_other rfl _ (at_other rfl _ (at_other rfl _ (at_other rfl _ (at_other rfl _ (at_other rfl _ (at_other rfl _ (s2_29)))))))))))))))
      have s3_59 : a53.eval (.tmp 3) = (.string (cutS t)) := up55 _ _ (at_other rfl _ (at_other rfl _ (at_other rfl _ (at_other rfl _ (at_other rfl _ (at_other rfl _ (at_other rfl _ (at_other rfl _ (at_other rfl _ (at_other rfl _ (at_other rfl _ (at_other rfl _ (at_other rfl _ (at_other rfl _ (s3_30)))))))))))))))
      have s32_60 : a53.eval (.tmp 32) = (.bool true) := up55 _ _ (at_same (((((((((((((hz25.put _ _).put _ _).put _ _).put _ _).put _ _).put _ _).put _ _).put _ _).put _ _).put _ _).put _ _).put _ _).put _ _) rfl _)
      clear up55
      refine V.cond_t (s32_60) ?_
      refine V.seq (fun K61 hK62 => ?_)
      refine V.region (by kernel_rfl) ?_
      refine V.go (V.asg (v := (.bool true)) evc ?_)
      refine V.nil ?_
      refine V.then_n (hK62 _ _ ?_)
      refine V.ret ?_
      refine V.then_r ?_
      refine V.ret1 (hz54.put _ _) rfl (at_same hz54 rfl _) ?_
      exact ⟨rfl, hF_51⟩
    ·
      refine V.go_on 27 (by kernel_rfl) (((at_same ((((((((hz25.put _ _).put _ _).put _ _).put _ _).put _ _).put _ _).put _ _).put _ _) rfl _ : Act.eval _ _ = (.bool (!(rmat (cutS p) (cutS s) false))))).trans (bf hg52)) (V.mv (v := (.string (cutS q))) (at_other rfl _ (at_other rfl _ (at_other rfl _ (at_other rfl _ (at_other rfl _ (at_other rfl _ (at_other rfl _ (at_other rfl _ (at_other rfl _ (s2_29)))))))))) ?_)
      refine V.go_on 27 (by kernel_rfl) (((at_other rfl _ (at_same ((((((((hz25.put _ _).put _ _).put _ _).put _ _).put _ _).put _ _).put _ _).put _ _) rfl _) : Act.eval _ _ = (.bool (!(rmat (cutS p) (cutS s) false))))).trans (bf hg52)) (V.mv (v := (.string (cutS t))) (at_other rfl _ (at_other rfl _ (at_other rfl _ (at_other rfl _ (at_other rfl _ (at_other rfl _ (at_other rfl _ (at_other rfl _ (at_other rfl _ (at_other rfl _ (s3_30))))))))))) ?_)
      refine V.go_on 27 (by kernel_rfl) (((at_other rfl _ (at_other rfl _ (at_same ((((((((hz25.put _ _).put _ _).put _ _).put _ _).put _ _).put _ _).put _ _).put _ _) rfl _)) : Act.eval _ _ = (.bool (!(rmat (cutS p) (cutS s) false))))).trans (bf hg52)) (V.call 10 #[] #[.string (cutS q), .string (cutS t), .bool false] evf (args3 (at_other rfl _ (at_same (((((((((hz25.put _ _).put _ _).put _ _).put _ _).put _ _).put _ _).put _ _).put _ _).put _ _) rfl _)) (at_same ((((((((((hz25.put _ _).put _ _).put _ _).put _ _).put _ _).put _ _).put _ _).put _ _).put _ _).put _ _) rfl _) evc) (Go.Proofs.enters_of Try.func10 (by kernel_rfl) rfl) (match_any w50 (cutS q) (cutS t) false) ?_)
      rintro _ w64 ⟨rfl, hF63⟩
      refine ⟨_, rfl, ?_⟩
      have hsw64 := hF63.size
      have hF_65 := hF_51.new hF63
      refine V.go_on 27 (by kernel_rfl) (((at_other rfl _ (at_other rfl _ (at_other rfl _ (at_same ((((((((hz25.put _ _).put _ _).put _ _).put _ _).put _ _).put _ _).put _ _).put _ _) rfl _))) : Act.eval _ _ = (.bool (!(rmat (cutS p) (cutS s) false))))).trans (bf hg52)) (V.pv [(30, .bool (rmat (cutS q) (cutS t) false))] ⟨(at_same (((((((((((hz25.put _ _).put _ _).put _ _).put _ _).put _ _).put _ _).put _ _).put _ _).put _ _).put _ _).put _ _) rfl _), trivial⟩ (by kernel_rfl) (.bool (!(rmat (cutS q) (cutS t) false))) (by kernel_rfl) ?_)
      refine V.go (V.pk_f (((at_other rfl _ (at_other rfl _ (at_other rfl _ (at_other rfl _ (at_same ((((((((hz25.put _ _).put _ _).put _ _).put _ _).put _ _).put _ _).put _ _).put _ _) rfl _)))) : Act.eval _ _ = (.bool (!(rmat (cutS p) (cutS s) false))))).trans (bf hg52)) (v := (.bool (!(rmat (cutS q) (cutS t) false)))) (at_same ((((((((((((hz25.put _ _).put _ _).put _ _).put _ _).put _ _).put _ _).put _ _).put _ _).put _ _).put _ _).put _ _).put _ _) rfl _) ?_)
      refine V.nil ?_
      refine V.then_n (hK34 _ _ ?_)
      refine V.flushW ((((((((((((((hz25.put _ _).put _ _).put _ _).put _ _).put _ _).put _ _).put _ _).put _ _).put _ _).put _ _).put _ _).put _ _).put _ _).put _ _) (fun a66 hz67 up68 => ?_)
      have s0_69 : a66.eval (.tmp 0) = (.string (cutS p)) := up68 _ _ (at_other rfl _ (at_other rfl _ (at_other rfl _ (at_other rfl _ (at_other rfl _ (at_other rfl _ (at_other rfl _ (at_other rfl _ (at_other rfl _ (at_other rfl _ (at_other rfl _ (at_other rfl _ (at_other rfl _ (at_other rfl _ (s0_27)))))))))))))))
      have s1_70 : a66.eval (.tmp 1) = (.string (cutS s)) := up68 _ _ (at_other rfl _ (at_other rfl _ (at_other rfl _ (at_other rfl _ (at_other rfl _ (at_other rfl _ (at_other rfl _ (at_other rfl _ (at_other rfl _ (at_other rfl _ (at_other rfl _ (at_other rfl _ (at_other rfl _ (at_other rfl _ (s1_28)))))))))))))))
      have s2_71 : a66.eval (.tmp 2) = (.string (cutS q)) := up68 _ _ (at_other rfl _ (at_other rfl _ (at_other rfl _ (at_other rfl _ (at_other rfl _ (at_other rfl _ (at_other rfl _ (at_other rfl _ (at_other rfl _ (at_other rfl _ (at_other rfl _ (at_other rfl _ (at_other rfl _ (at_other rfl _ (s2_29)))))))))))))))
      have s3_72 : a66.eval (.tmp 3) = (.string (cutS t)) := up68 _ _ (at_other rfl _ (at_other rfl _ (at_other rfl _ (at_other rfl _ (at_other rfl _ (at_other rfl _ (at_other rfl _ (at_other rfl _ (at_other rfl _ (at_other rfl _ (at_other rfl _ (at_other rfl _ (at_other rfl _ (at_other rfl _ (s3_30)))))))))))))))
      have s32_73 : a66.eval (.tmp 32) = (.bool (!(rmat (cutS q) (cutS t) false))) := up68 _ _ (at_same (((((((((((((hz25.put _ _).put _ _).put _ _).put _ _).put _ _).put _ _).put _ _).put _ _).put _ _).put _ _).put _ _).put _ _).put _ _) rfl _)
      clear up68
      refine V.cond (s32_73) (fun ht74 => ?_) (fun ht74q => ?_)
      ·
        refine V.seq (fun K75 hK76 => ?_)
        refine V.region (by kernel_rfl) ?_
        refine V.go (V.asg (v := (.bool true)) evc ?_)
        refine V.nil ?_
        refine V.then_n (hK76 _ _ ?_)
        refine V.ret ?_
        refine V.then_r ?_
        refine V.ret1 (hz67.put _ _) rfl (at_same hz67 rfl _) ?_
        exact ⟨rfl, hF_65⟩
      ·
        have ht74 : ¬ ((!(rmat (cutS q) (cutS t) false)) = true) := by rw [ht74q]; simp
        refine V.skip ?_
        refine V.then_n (hK32 _ _ ?_)
        refine V.seq (fun K77 hK78 => ?_)
        refine V.region (by kernel_rfl) ?_
        refine V.go (V.mv (v := (.string (cutS p))) (s0_69) ?_)
        refine V.go (V.mv (v := (.string (cutS q))) (at_other rfl _ (s2_71)) ?_)
        obtain ⟨cat79, hcat80⟩ : ∃ z : ByteArray, z = (cutS p) ++ (cutS q) := ⟨_, rfl⟩
        have hszcat79 : cat79.size = (cutS p).size + (cutS q).size := by rw [hcat80, ByteArray.size_append]
        refine V.go (V.catg hcat80 (at_other rfl _ (at_same hz67 rfl _)) (at_same (hz67.put _ _) rfl _) (by omega) ?_)
        refine V.go (V.mv (v := (.string (cutS s))) (at_other rfl _ (at_other rfl _ (at_other rfl _ (s1_70)))) ?_)
        refine V.go (V.mv (v := (.string (cutS t))) (at_other rfl _ (at_other rfl _ (at_other rfl _ (at_other rfl _ (s3_72))))) ?_)
        obtain ⟨cat81, hcat82⟩ : ∃ z : ByteArray, z = (cutS s) ++ (cutS t) := ⟨_, rfl⟩
        have hszcat81 : cat81.size = (cutS s).size + (cutS t).size := by rw [hcat82, ByteArray.size_append]
        refine V.go (V.catg hcat82 (at_other rfl _ (at_same (((hz67.put _ _).put _ _).put _ _) rfl _)) (at_same ((((hz67.put _ _).put _ _).put _ _).put _ _) rfl _) (by omega) ?_)
        refine V.go (V.call 10 #[] #[.string cat79, .string cat81, .bool false] evf (args3 (at_other rfl _ (at_other rfl _ (at_other rfl _ (at_same ((hz67.put _ _).put _ _) rfl _)))) (at_same (((((hz67.put _ _).put _ _).put _ _).put _ _).put _ _) rfl _) evc) (Go.Proofs.enters_of Try.func10 (by kernel_rfl) rfl) (match_any w64 cat79 cat81 false) ?_)
        rintro _ w84 ⟨rfl, hF83⟩
        refine ⟨_, rfl, ?_⟩
        have hsw84 := hF83.size
        have hF_85 := hF_65.new hF83
        refine V.go (V.mv (v := (.bool (rmat cat79 cat81 false))) (at_same ((((((hz67.put _ _).put _ _).put _ _).put _ _).put _ _).put _ _) rfl _) ?_)
        by_cases hg86 : (rmat cat79 cat81 false) = true
        ·
          refine V.go_on 40 (by kernel_rfl) (((at_same (((((((hz67.put _ _).put _ _).put _ _).put _ _).put _ _).put _ _).put _ _) rfl _ : Act.eval _ _ = (.bool (rmat cat79 cat81 false)))).trans (bt hg86)) (V.mv (v := (.string (cutS q))) (at_other rfl _ (at_other rfl _ (at_other rfl _ (at_other rfl _ (at_other rfl _ (at_other rfl _ (at_other rfl _ (at_other rfl _ (s2_71))))))))) ?_)
          obtain ⟨cat87, hcat88⟩ : ∃ z : ByteArray, z = (⟨#[42]⟩ : ByteArray) ++ (cutS q) := ⟨_, rfl⟩
          have hszcat87 : cat87.size = (⟨#[42]⟩ : ByteArray).size + (cutS q).size := by rw [hcat88, ByteArray.size_append]
          refine V.go_on 40 (by kernel_rfl) (((at_other rfl _ (at_same (((((((hz67.put _ _).put _ _).put _ _).put _ _).put _ _).put _ _).put _ _) rfl _) : Act.eval _ _ = (.bool (rmat cat79 cat81 false)))).trans (bt hg86)) (V.catg hcat88 evc (at_same ((((((((hz67.put _ _).put _ _).put _ _).put _ _).put _ _).put _ _).put _ _).put _ _) rfl _) (by omega) ?_)
          refine V.go_on 40 (by kernel_rfl) (((at_other rfl _ (at_other rfl _ (at_same (((((((hz67.put _ _).put _ _).put _ _).put _ _).put _ _).put _ _).put _ _) rfl _)) : Act.eval _ _ = (.bool (rmat cat79 cat81 false)))).trans (bt hg86)) (V.mv (v := (.string (cutS s))) (at_other rfl _ (at_other rfl _ (at_other rfl _ (at_other rfl _ (at_other rfl _ (at_other rfl _ (at_other rfl _ (at_other rfl _ (at_other rfl _ (at_other rfl _ (s1_70))))))))))) ?_)
          refine V.go_on 40 (by kernel_rfl) (((at_other rfl _ (at_other rfl _ (at_other rfl _ (at_same (((((((hz67.put _ _).put _ _).put _ _).put _ _).put _ _).put _ _).put _ _) rfl _))) : Act.eval _ _ = (.bool (rmat cat79 cat81 false)))).trans (bt hg86)) (V.mv (v := (.string (cutS t))) (at_other rfl _ (at_other rfl _ (at_other rfl _ (at_other rfl _ (at_other rfl _ (at_other rfl _ (at_other rfl _ (at_other rfl _ (at_other rfl _ (at_other rfl _ (at_other rfl _ (s3_72)))))))))))) ?_)
          obtain ⟨cat89, hcat90⟩ : ∃ z : ByteArray, z = (cutS s) ++ (cutS t) := ⟨_, rfl⟩
          have hszcat89 : cat89.size = (cutS s).size + (cutS t).size := by rw [hcat90, ByteArray.size_append]
          refine V.go_on 40 (by kernel_rfl) (((at_other rfl _ (at_other rfl _ (at_other rfl _ (at_other rfl _ (at_same (((((((hz67.put _ _).put _ _).put _ _).put _ _).put _ _).put _ _).put _ _) rfl _)))) : Act.eval _ _ = (.bool (rmat cat79 cat81 false)))).trans (bt hg86)) (V.catg hcat90 (at_other rfl _ (at_same ((((((((((hz67.put _ _).put _ _).put _ _).put _ _).put _ _).put _ _).put _ _).put _ _).put _ _).put _ _) rfl _)) (at_same (((((((((((hz67.put _ _).put _ _).put _ _).put _ _).put _ _).put _ _).put _ _).put _ _).put _ _).put _ _).put _ _) rfl _) (by omega) ?_)
          refine V.go_on 40 (by kernel_rfl) (((at_other rfl _ (at_other rfl _ (at_other rfl _ (at_other rfl _ (at_other rfl _ (at_same (((((((hz67.put _ _).put _ _).put _ _).put _ _).put _ _).put _ _).put _ _) rfl _))))) : Act.eval _ _ = (.bool (rmat cat79 cat81 false)))).trans (bt hg86)) (V.call 10 #[] #[.string cat87, .string cat89, .bool false] evf (args3 (at_other rfl _ (at_other rfl _ (at_other rfl _ (at_same (((((((((hz67.put _ _).put _ _).put _ _).put _ _).put _ _).put _ _).put _ _).put _ _).put _ _) rfl _)))) (at_same ((((((((((((hz67.put _ _).put _ _).put _ _).put _ _).put _ _).put _ _).put _ _).put _ _).put _ _).put _ _).put _ _).put _ _) rfl _) evc) (Go.Proofs.enters_of Try.func10 (by kernel_rfl) rfl) (match_any w84 cat87 cat89 false) ?_)
          rintro _ w92 ⟨rfl, hF91⟩
          refine ⟨_, rfl, ?_⟩
          have hsw92 := hF91.size
          have hF_93 := hF_85.new hF91
          refine V.go (V.pk_t (((at_other rfl _ (at_other rfl _ (at_other rfl _ (at_other rfl _ (at_other rfl _ (at_other rfl _ (at_same (((((((hz67.put _ _).put _ _).put _ _).put _ _).put _ _).put _ _).put _ _) rfl _)))))) : Act.eval _ _ = (.bool (rmat cat79 cat81 false)))).trans (bt hg86)) (v := (.bool (rmat cat87 cat89 false))) (at_same (((((((((((((hz67.put _ _).put _ _).put _ _).put _ _).put _ _).put _ _).put _ _).put _ _).put _ _).put _ _).put _ _).put _ _).put _ _) rfl _) ?_)
          refine V.go (V.mv (v := (.bool (rmat cat87 cat89 false))) (at_same ((((((((((((((hz67.put _ _).put _ _).put _ _).put _ _).put _ _).put _ _).put _ _).put _ _).put _ _).put _ _).put _ _).put _ _).put _ _).put _ _) rfl _) ?_)
          by_cases hg94 : (rmat cat87 cat89 false) = true
          ·
            refine V.go_on 48 (by kernel_rfl) (((at_same (((((((((((((((hz67.put _ _).put _ _).put _ _).put _ _).put _ _).put _ _).put _ _).put _ _).put _ _).put _ _).put _ _).put _ _).put _ _).put _ _).put _ _) rfl _ : Act.eval _ _ = (.bool (rmat cat87 cat89 false)))).trans (bt hg94)) (V.mv (v := (.string (cutS p))) (at_other rfl _ (at_other rfl _ (at_other rfl _ (at_other rfl _ (at_other rfl _ (at_other rfl _ (at_other rfl _ (at_other rfl _ (at_other rfl _ (at_other rfl _ (at_other rfl _ (at_other rfl _ (at_other rfl _ (at_other rfl _ (at_other rfl _ (at_other rfl _ (s0_69))))))))))))))))) ?_)
            obtain ⟨cat95, hcat96⟩ : ∃ z : ByteArray, z = (cutS p) ++ (⟨#[42]⟩ : ByteArray) := ⟨_, rfl⟩
            have hszcat95 : cat95.size = (cutS p).size + (⟨#[42]⟩ : ByteArray).size := by rw [hcat96, ByteArray.size_append]
            refine V.go_on 48 (by kernel_rfl) (((at_other rfl _ (at_same (((((((((((((((hz67.put _ _).put _ _).put _ _).put _ _).put _ _).put _ _).put _ _).put _ _).put _ _).put _ _).put _ _).put _ _).put _ _).put _ _).put _ _) rfl _) : Act.eval _ _ = (.bool (rmat cat87 cat89 false)))).trans (bt hg94)) (V.catg hcat96 (at_same ((((((((((((((((hz67.put _ _).put _ _).put _ _).put _ _).put _ _).put _ _).put _ _).put _ _).put _ _).put _ _).put _ _).put _ _).put _ _).put _ _).put _ _).put _ _) rfl _) evc (by omega) ?_)
            refine V.go_on 48 (by kernel_rfl) (((at_other rfl _ (at_other rfl _ (at_same (((((((((((((((hz67.put _ _).put _ _).put _ _).put _ _).put _ _).put _ _).put _ _).put _ _).put _ _).put _ _).put _ _).put _ _).put _ _).put _ _).put _ _) rfl _)) : Act.eval _ _ = (.bool (rmat cat87 cat89 false)))).trans (bt hg94)) (V.mv (v := (.string (cutS s))) (at_other rfl _ (at_other rfl _ (at_other rfl _ (at_other rfl _ (at_other rfl _ (at_other rfl _ (at_other rfl _ (at_other rfl _ (at_other rfl _ (at_other rfl _ (at_other rfl _ (at_other rfl _ (at_other rfl _ (at_other rfl _ (at_other rfl _ (at_other rfl _ (at_other rfl _ (at_other rfl _ (s1_70))))))))))))))))))) ?_)
            refine V.go_on 48 (by kernel_rfl) (((at_other rfl _ (at_other rfl _ (at_other rfl _ (at_same (((((((((((((((hz67.put _ _).put _ _).put _ _).put _ _).put _ _).put _ _).put _ _).put _ _).put _ _).put _ _).put _ _).put _ _).put _ _).put _ _).put _ _) rfl _))) : Act.eval _ _ = (.bool (rmat cat87 cat89 false)))).trans (bt hg94)) (V.mv (v := (.string (cutS t))) (at_other rfl _ (at_other rfl _ (at_other rfl _ (at_other rfl _ (at_other rfl _ (at_other rfl _ (at_other rfl _ (at_other rfl _ (at_other rfl _ (at_other rfl _ (at_other rfl _ (at_other rfl _ (at_other rfl _ (at_other rfl _ (at_other rfl _ (at_other rfl _ (at_other rfl _ (at_other rfl _ (at_other rfl _ (s3_72)))))))))))))))))))) ?_)
            obtain ⟨cat97, hcat98⟩ : ∃ z : ByteArray, z = (cutS s) ++ (cutS t) := ⟨_, rfl⟩
            have hszcat97 : cat97.size = (cutS s).size + (cutS t).size := by rw [hcat98, ByteArray.size_append]
            refine V.go_on 48 (by kernel_rfl) (((at_other rfl _ (at_other rfl _ (at_other rfl _ (at_other rfl _ (at_same (((((((((((((((hz67.put _ _).put _ _).put _ _).put _ _).put _ _).put _ _).put _ _).put _ _).put _ _).put _ _).put _ _).put _ _).put _ _).put _ _).put _ _) rfl _)))) : Act.eval _ _ = (.bool (rmat cat87 cat89 false)))).trans (bt hg94)) (V.catg hcat98 (at_other rfl _ (at_same ((((((((((((((((((hz67.put _ _).put _ _).put _ _).put _ _).put _ _).put _ _).put _ _).put _ _).put _ _).put _ _).put _ _).put _ _).put _ _).put _ _).put _ _).put _ _).put _ _).put _ _) rfl _)) (at_same (((((((((((((((((((hz67.put _ _).put _ _).put _ _).put _ _).put _ _).put _ _).put _ _).put _ _).put _ _).put _ _).put _ _).put _ _).put _ _).put _ _).put _ _).put _ _).put _ _).put _ _).put _ _) rfl _) (by omega) ?_)
            refine V.go_on 48 (by kernel_rfl) (((at_other rfl _ (at_other rfl _ (at_other rfl _ (at_other rfl _ (at_other rfl _ (at_same (((((((((((((((hz67.put _ _).put _ _).put _ _).put _ _).put _ _).put _ _).put _ _).put _ _).put _ _).put _ _).put _ _).put _ _).put _ _).put _ _).put _ _) rfl _))))) : Act.eval _ _ = (.bool (rmat cat87 cat89 false)))).trans (bt hg94)) (V.call 10 #[] #[.string cat95, .string cat97, .bool false] evf (args3 (at_other rfl _ (at_other rfl _ (at_other rfl _ (at_same (((((((((((((((((hz67.put _ _).put _ _).put _ _).put _ _).put _ _).put _ _).put _ _).put _ _).put _ _).put _ _).put _ _).put _ _).put _ _).put _ _).put _ _).put _ _).put _ _) rfl _)))) (at_same ((((((((((((((((((((hz67.put _ _).put _ _).put _ _).put _ _).put _ _).put _ _).put _ _).put _ _).put _ _).put _ _).put _ _).put _ _).put _ _).put _ _).put _ _).put _ _).put _ _).put _ _).put _ _).put _ _) rfl _) evc) (Go.Proofs.enters_of Try.func10 (by kernel_rfl) rfl) (match_any w92 cat95 cat97 false) ?_)
            rintro _ w100 ⟨rfl, hF99⟩
            refine ⟨_, rfl, ?_⟩
            have hsw100 := hF99.size
            have hF_101 := hF_93.new hF99
            refine V.go (V.pk_t (((at_other rfl _ (at_other rfl _ (at_other rfl _ (at_other rfl _ (at_other rfl _ (at_other rfl _ (at_same (((((((((((((((hz67.put _ _).put _ _).put _ _).put _ _).put _ _).put _ _).put _ _).put _ _).put _ _).put _ _).put _ _).put _ _).put _ _).put _ _).put _ _) rfl _)))))) : Act.eval _ _ = (.bool (rmat cat87 cat89 false)))).trans (bt hg94)) (v := (.bool (rmat cat95 cat97 false))) (at_same (((((((((((((((((((((hz67.put _ _).put _ _).put _ _).put _ _).put _ _).put _ _).put _ _).put _ _).put _ _).put _ _).put _ _).put _ _).put _ _).put _ _).put _ _).put _ _).put _ _).put _ _).put _ _).put _ _).put _ _) rfl _) ?_)
            refine V.go (V.asg (v := (.bool (rmat cat95 cat97 false))) (at_same ((((((((((((((((((((((hz67.put _ _).put _ _).put _ _).put _ _).put _ _).put _ _).put _ _).put _ _).put _ _).put _ _).put _ _).put _ _).put _ _).put _ _).put _ _).put _ _).put _ _).put _ _).put _ _).put _ _).put _ _).put _ _) rfl _) ?_)
            refine V.nil ?_
            refine V.then_n (hK78 _ _ ?_)
            refine V.flushW ((((((((((((((((((((((((hz67.put _ _).put _ _).put _ _).put _ _).put _ _).put _ _).put _ _).put _ _).put _ _).put _ _).put _ _).put _ _).put _ _).put _ _).put _ _).put _ _).put _ _).put _ _).put _ _).put _ _).put _ _).put _ _).put _ _).put _ _) (fun a102 hz103 up104 => ?_)
            have s8_105 : a102.eval (.tmp 8) = (.bool (rmat cat95 cat97 false)) := up104 _ _ (at_same (((((((((((((((((((((((hz67.put _ _).put _ _).put _ _).put _ _).put _ _).put _ _).put _ _).put _ _).put _ _).put _ _).put _ _).put _ _).put _ _).put _ _).put _ _).put _ _).put _ _).put _ _).put _ _).put _ _).put _ _).put _ _).put _ _) rfl _)
            clear up104
            refine V.ret ?_
            refine V.ret1 hz103 rfl (s8_105) ?_
            exact ⟨congrArg Ending.returned (congrArg Value.bool (by rw [hcat96, hcat98]; exact behind3 (cutS_le p) (cutS_le s) (cutS_le t) (Bool.not_eq_true _ ▸ hg38) (by simpa using hg52))), hF_101⟩
          ·
            refine V.go_off 48 (by kernel_rfl) (((at_same (((((((((((((((hz67.put _ _).put _ _).put _ _).put _ _).put _ _).put _ _).put _ _).put _ _).put _ _).put _ _).put _ _).put _ _).put _ _).put _ _).put _ _) rfl _ : Act.eval _ _ = (.bool (rmat cat87 cat89 false)))).trans (bf hg94)) (by kernel_rfl) ?_
            refine V.go_off 48 (by kernel_rfl) (((at_other rfl _ (at_same (((((((((((((((hz67.put _ _).put _ _).put _ _).put _ _).put _ _).put _ _).put _ _).put _ _).put _ _).put _ _).put _ _).put _ _).put _ _).put _ _).put _ _) rfl _) : Act.eval _ _ = (.bool (rmat cat87 cat89 false)))).trans (bf hg94)) (by kernel_rfl) ?_
            refine V.go_off 48 (by kernel_rfl) (((at_other rfl _ (at_other rfl _ (at_same (((((((((((((((hz67.put _ _).put _ _).put _ _).put _ _).put _ _).put _ _).put _ _).put _ _).put _ _).put _ _).put _ _).put _ _).put _ _).put _ _).put _ _) rfl _)) : Act.eval _ _ = (.bool (rmat cat87 cat89 false)))).trans (bf hg94)) (by kernel_rfl) ?_
            refine V.go_off 48 (by kernel_rfl) (((at_other rfl _ (at_other rfl _ (at_other rfl _ (at_same (((((((((((((((hz67.put _ _).put _ _).put _ _).put _ _).put _ _).put _ _).put _ _).put _ _).put _ _).put _ _).put _ _).put _ _).put _ _).put _ _).put _ _) rfl _))) : Act.eval _ _ = (.bool (rmat cat87 cat89 false)))).trans (bf hg94)) (by kernel_rfl) ?_
            refine V.go_off 48 (by kernel_rfl) (((at_other rfl _ (at_other rfl _ (at_other rfl _ (at_other rfl _ (at_same (((((((((((((((hz67.put _ _).put _ _).put _ _).put _ _).put _ _).put _ _).put _ _).put _ _).put _ _).put _ _).put _ _).put _ _).put _ _).put _ _).put _ _) rfl _)))) : Act.eval _ _ = (.bool (rmat cat87 cat89 false)))).trans (bf hg94)) (by kernel_rfl) ?_
            refine V.go_off 48 (by kernel_rfl) (((at_other rfl _ (at_other rfl _ (at_other rfl _ (at_other rfl _ (at_other rfl _ (at_same (((((((((((((((hz67.put _ _).put _ _).put _ _).put _ _).put _ _).put _ _).put _ _).put _ _).put _ _).put _ _).put _ _).put _ _).put _ _).put _ _).put _ _) rfl _))))) : Act.eval _ _ = (.bool (rmat cat87 cat89 false)))).trans (bf hg94)) (by kernel_rfl) ?_
            refine V.go (V.pk_f (((at_other rfl _ (at_other rfl _ (at_other rfl _ (at_other rfl _ (at_other rfl _ (at_other rfl _ (at_same (((((((((((((((hz67.put _ _).put _ _).put _ _).put _ _).put _ _).put _ _).put _ _).put _ _).put _ _).put _ _).put _ _).put _ _).put _ _).put _ _).put _ _) rfl _)))))) : Act.eval _ _ = (.bool (rmat cat87 cat89 false)))).trans (bf hg94)) (v := (.bool false)) evc ?_)
            refine V.go (V.asg (v := (.bool false)) (at_same ((((((((((((((((((((((hz67.put _ _).put _ _).put _ _).put _ _).put _ _).put _ _).put _ _).put _ _).put _ _).put _ _).put _ _).put _ _).put _ _).put _ _).put _ _).put _ _).put _ _).put _ _).put _ _).put _ _).put _ _).put _ _) rfl _) ?_)
            refine V.nil ?_
            refine V.then_n (hK78 _ _ ?_)
            refine V.flushW ((((((((((((((((((((((((hz67.put _ _).put _ _).put _ _).put _ _).put _ _).put _ _).put _ _).put _ _).put _ _).put _ _).put _ _).put _ _).put _ _).put _ _).put _ _).put _ _).put _ _).put _ _).put _ _).put _ _).put _ _).put _ _).put _ _).put _ _) (fun a106 hz107 up108 => ?_)
            have s8_109 : a106.eval (.tmp 8) = (.bool false) := up108 _ _ (at_same (((((((((((((((((((((((hz67.put _ _).put _ _).put _ _).put _ _).put _ _).put _ _).put _ _).put _ _).put _ _).put _ _).put _ _).put _ _).put _ _).put _ _).put _ _).put _ _).put _ _).put _ _).put _ _).put _ _).put _ _).put _ _).put _ _) rfl _)
            clear up108
            refine V.ret ?_
            refine V.ret1 hz107 rfl (s8_109) ?_
            exact absurd (by rw [hcat88, hcat90]; exact behind2 (cutS_le s) (cutS_le q) (cutS_le t) (by simpa using ht74)) hg94
        ·
          refine V.go_off 40 (by kernel_rfl) (((at_same (((((((hz67.put _ _).put _ _).put _ _).put _ _).put _ _).put _ _).put _ _) rfl _ : Act.eval _ _ = (.bool (rmat cat79 cat81 false)))).trans (bf hg86)) (by kernel_rfl) ?_
          refine V.go_off 40 (by kernel_rfl) (((at_other rfl _ (at_same (((((((hz67.put _ _).put _ _).put _ _).put _ _).put _ _).put _ _).put _ _) rfl _) : Act.eval _ _ = (.bool (rmat cat79 cat81 false)))).trans (bf hg86)) (by kernel_rfl) ?_
          refine V.go_off 40 (by kernel_rfl) (((at_other rfl _ (at_other rfl _ (at_same (((((((hz67.put _ _).put _ _).put _ _).put _ _).put _ _).put _ _).put _ _) rfl _)) : Act.eval _ _ = (.bool (rmat cat79 cat81 false)))).trans (bf hg86)) (by kernel_rfl) ?_
          refine V.go_off 40 (by kernel_rfl) (((at_other rfl _ (at_other rfl _ (at_other rfl _ (at_same (((((((hz67.put _ _).put _ _).put _ _).put _ _).put _ _).put _ _).put _ _) rfl _))) : Act.eval _ _ = (.bool (rmat cat79 cat81 false)))).trans (bf hg86)) (by kernel_rfl) ?_
          refine V.go_off 40 (by kernel_rfl) (((at_other rfl _ (at_other rfl _ (at_other rfl _ (at_other rfl _ (at_same (((((((hz67.put _ _).put _ _).put _ _).put _ _).put _ _).put _ _).put _ _) rfl _)))) : Act.eval _ _ = (.bool (rmat cat79 cat81 false)))).trans (bf hg86)) (by kernel_rfl) ?_
          refine V.go_off 40 (by kernel_rfl) (((at_other rfl _ (at_other rfl _ (at_other rfl _ (at_other rfl _ (at_other rfl _ (at_same (((((((hz67.put _ _).put _ _).put _ _).put _ _).put _ _).put _ _).put _ _) rfl _))))) : Act.eval _ _ = (.bool (rmat cat79 cat81 false)))).trans (bf hg86)) (by kernel_rfl) ?_
          refine V.go (V.pk_f (((at_other rfl _ (at_other rfl _ (at_other rfl _ (at_other rfl _ (at_other rfl _ (at_other rfl _ (at_same (((((((hz67.put _ _).put _ _).put _ _).put _ _).put _ _).put _ _).put _ _) rfl _)))))) : Act.eval _ _ = (.bool (rmat cat79 cat81 false)))).trans (bf hg86)) (v := (.bool false)) evc ?_)
          refine V.go (V.mv (v := (.bool false)) (at_same ((((((((((((((hz67.put _ _).put _ _).put _ _).put _ _).put _ _).put _ _).put _ _).put _ _).put _ _).put _ _).put _ _).put _ _).put _ _).put _ _) rfl _) ?_)
          refine V.go_off 48 (by kernel_rfl) (at_same (((((((((((((((hz67.put _ _).put _ _).put _ _).put _ _).put _ _).put _ _).put _ _).put _ _).put _ _).put _ _).put _ _).put _ _).put _ _).put _ _).put _ _) rfl _) (by kernel_rfl) ?_
          refine V.go_off 48 (by kernel_rfl) (at_other rfl _ (at_same (((((((((((((((hz67.put _ _).put _ _).put _ _).put _ _).put _ _).put _ _).put _ _).put _ _).put _ _).put _ _).put _ _).put _ _).put _ _).put _ _).put _ _) rfl _)) (by kernel_rfl) ?_
          refine V.go_off 48 (by kernel_rfl) (at_other rfl _ (at_other rfl _ (at_same (((((((((((((((hz67.put _ _).put _ _).put _ _).put _ _).put _ _).put _ _).put _ _).put _ _).put _ _).put _ _).put _ _).put _ _).put _ _).put _ _).put _ _) rfl _))) (by kernel_rfl) ?_
          refine V.go_off 48 (by kernel_rfl) (at_other rfl _ (at_other rfl _ (at_other rfl _ (at_same (((((((((((((((hz67.put _ _).put _ _).put _ _).put _ _).put _ _).put _ _).put _ _).put _ _).put _ _).put _ _).put _ _).put _ _).put _ _).put _ _).put _ _) rfl _)))) (by kernel_rfl) ?_
          refine V.go_off 48 (by kernel_rfl) (at_other rfl _ (at_other rfl _ (at_other rfl _ (at_other rfl _ (at_same (((((((((((((((hz67.put _ _).put _ _).put _ _).put _ _).put _ _).put _ _).put _ _).put _ _).put _ _).put _ _).put _ _).put _ _).put _ _).put _ _).put _ _) rfl _))))) (by kernel_rfl) ?_
          refine V.go_off 48 (by kernel_rfl) (at_other rfl _ (at_other rfl _ (at_other rfl _ (at_other rfl _ (at_other rfl _ (at_same (((((((((((((((hz67.put _ _).put _ _).put _ _).put _ _).put _ _).put _ _).put _ _).put _ _).put _ _).put _ _).put _ _).put _ _).put _ _).put _ _).put _ _) rfl _)))))) (by kernel_rfl) ?_
          refine V.go (V.pk_f (at_other rfl _ (at_other rfl _ (at_other rfl _ (at_other rfl _ (at_other rfl _ (at_other rfl _ (at_same (((((((((((((((hz67.put _ _).put _ _).put _ _).put _ _).put _ _).put _ _).put _ _).put _ _).put _ _).put _ _).put _ _).put _ _).put _ _).put _ _).put _ _) rfl _))))))) (v := (.bool false)) evc ?_)
          refine V.go (V.asg (v := (.bool false)) (at_same ((((((((((((((((((((((hz67.put _ _).put _ _).put _ _).put _ _).put _ _).put _ _).put _ _).put _ _).put _ _).put _ _).put _ _).put _ _).put _ _).put _ _).put _ _).put _ _).put _ _).put _ _).put _ _).put _ _).put _ _).put _ _) rfl _) ?_)
          refine V.nil ?_
          refine V.then_n (hK78 _ _ ?_)
          refine V.flushW ((((((((((((((((((((((((hz67.put _ _).put _ _).put _ _).put _ _).put _ _).put _ _).put _ _).put _ _).put _ _).put _ _).put _ _).put _ _).put _ _).put _ _).put _ _).put _ _).put _ _).put _ _).put _ _).put _ _).put _ _).put _ _).put _ _).put _ _) (fun a110 hz111 up112 => ?_)
          have s8_113 : a110.eval (.tmp 8) = (.bool false) := up112 _ _ (at_same (((((((((((((((((((((((hz67.put _ _).put _ _).put _ _).put _ _).put _ _).put _ _).put _ _).put _ _).put _ _).put _ _).put _ _).put _ _).put _ _).put _ _).put _ _).put _ _).put _ _).put _ _).put _ _).put _ _).put _ _).put _ _).put _ _) rfl _)
          clear up112
          refine V.ret ?_
          refine V.ret1 hz111 rfl (s8_113) ?_
          exact absurd (by rw [hcat80, hcat82]; exact behind1 (cutS_le p) (cutS_le s) (cutS_le q) (cutS_le t) (Bool.not_eq_true _ ▸ hg38) (by simpa using hg52) (by simpa using ht74)) hg86
end Go.Proofs.Ytmlohijidjbbjaa
