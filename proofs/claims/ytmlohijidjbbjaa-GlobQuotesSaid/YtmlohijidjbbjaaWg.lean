/- Walks: the reference's Match. -/
import Derived.Test.YtmlohijidjbbjaaProg
import Derived.Test.YtmlohijidjbbjaaPl
import Derived.Test.YtmlohijidjbbjaaWb
import Derived.Test.YtmlohijidjbbjaaWd
namespace Go.Proofs.Ytmlohijidjbbjaa
open Go.V Go.Base
attribute [local irreducible] Act.put Act.eval
set_option linter.unusedVariables false
set_option linter.unusedSimpArgs false
set_option maxHeartbeats 4000000 in
set_option maxRecDepth 20000 in
theorem rmatch_any (w : World) (p s : ByteArray) (fold : Bool) : Calls Try.prog 11 #[.string p, .string s, .bool fold] w (fun e w' => e = .returned (.bool (rmat p s fold)) ∧ Fr [] w w') := by
  have hF := Fr.refl [] w
  refine V.enter 22 Try.func11 rfl rfl ?_
  intro a hz ha
  have s0 : a.eval (.tmp 0) = (.string p) := ha 0 _ rfl
  have s1 : a.eval (.tmp 1) = (.string s) := ha 1 _ rfl
  have s2 : a.eval (.tmp 2) = (.bool fold) := ha 2 _ rfl
  clear ha
  refine V.seq (fun K1 hK2 => ?_)
  refine V.region (by kernel_rfl) ?_
  refine V.go (V.asg (v := (.bool false)) evc ?_)
  refine V.nil ?_
  refine V.then_n (hK2 _ _ ?_)
  refine V.seq (fun K3 hK4 => ?_)
  refine V.region (by kernel_rfl) ?_
  refine V.go (V.mv (v := (.string p)) (at_other rfl _ (s0)) ?_)
  refine V.go (V.pv [(7, .string p)] ⟨(at_same (hz.put _ _) rfl _), trivial⟩ (by kernel_rfl) (.int .i64 (p.size : Int)) (by kernel_rfl) ?_)
  refine V.go (V.pv [(8, .int .i64 (p.size : Int))] ⟨(at_same ((hz.put _ _).put _ _) rfl _), trivial⟩ (by kernel_rfl) (.bool (decide ((p.size : Int) ≤ 65536))) (by kernel_rfl) ?_)
  refine V.go (V.mv (v := (.bool (decide ((p.size : Int) ≤ 65536)))) (at_same (((hz.put _ _).put _ _).put _ _) rfl _) ?_)
  by_cases hg5 : (p.size : Int) ≤ 65536
  ·
    refine V.go_on 10 (by kernel_rfl) (((at_same ((((hz.put _ _).put _ _).put _ _).put _ _) rfl _ : Act.eval _ _ = (.bool (decide ((p.size : Int) ≤ 65536))))).trans (dt hg5)) (V.mv (v := (.string s)) (at_other rfl _ (at_other rfl _ (at_other rfl _ (at_other rfl _ (at_other rfl _ (s1)))))) ?_)
    refine V.go_on 10 (by kernel_rfl) (((at_other rfl _ (at_same ((((hz.put _ _).put _ _).put _ _).put _ _) rfl _) : Act.eval _ _ = (.bool (decide ((p.size : Int) ≤ 65536))))).trans (dt hg5)) (V.pv [(11, .string s)] ⟨(at_same (((((hz.put _ _).put _ _).put _ _).put _ _).put _ _) rfl _), trivial⟩ (by kernel_rfl) (.int .i64 (s.size : Int)) (by kernel_rfl) ?_)
    refine V.go_on 10 (by kernel_rfl) (((at_other rfl _ (at_other rfl _ (at_same ((((hz.put _ _).put _ _).put _ _).put _ _) rfl _)) : Act.eval _ _ = (.bool (decide ((p.size : Int) ≤ 65536))))).trans (dt hg5)) (V.pv [(12, .int .i64 (s.size : Int))] ⟨(at_same ((((((hz.put _ _).put _ _).put _ _).put _ _).put _ _).put _ _) rfl _), trivial⟩ (by kernel_rfl) (.bool (decide ((s.size : Int) ≤ 65536))) (by kernel_rfl) ?_)
    refine V.go (V.pk_t (((at_other rfl _ (at_other rfl _ (at_other rfl _ (at_same ((((hz.put _ _).put _ _).put _ _).put _ _) rfl _))) : Act.eval _ _ = (.bool (decide ((p.size : Int) ≤ 65536))))).trans (dt hg5)) (v := (.bool (decide ((s.size : Int) ≤ 65536)))) (at_same (((((((hz.put _ _).put _ _).put _ _).put _ _).put _ _).put _ _).put _ _) rfl _) ?_)
    refine V.go (V.mv (v := (.bool (decide ((s.size : Int) ≤ 65536)))) (at_same ((((((((hz.put _ _).put _ _).put _ _).put _ _).put _ _).put _ _).put _ _).put _ _) rfl _) ?_)
    by_cases hg6 : (s.size : Int) ≤ 65536
    ·
      refine V.go_on 15 (by kernel_rfl) (((at_same (((((((((hz.put _ _).put _ _).put _ _).put _ _).put _ _).put _ _).put _ _).put _ _).put _ _) rfl _ : Act.eval _ _ = (.bool (decide ((s.size : Int) ≤ 65536))))).trans (dt hg6)) (V.mv (v := (.string p)) (at_other rfl _ (at_other rfl _ (at_other rfl _ (at_other rfl _ (at_other rfl _ (at_other rfl _ (at_other rfl _ (at_other rfl _ (at_other rfl _ (at_other rfl _ (s0))))))))))) ?_)
      refine V.go_on 15 (by kernel_rfl) (((at_other rfl _ (at_same (((((((((hz.put _ _).put _ _).put _ _).put _ _).put _ _).put _ _).put _ _).put _ _).put _ _) rfl _) : Act.eval _ _ = (.bool (decide ((s.size : Int) ≤ 65536))))).trans (dt hg6)) (V.call 22 #[] #[.string p] evf (args1 (at_same ((((((((((hz.put _ _).put _ _).put _ _).put _ _).put _ _).put _ _).put _ _).put _ _).put _ _).put _ _) rfl _)) (Go.Proofs.enters_of Try.func22 (by kernel_rfl) rfl) (rparse_any w p (by omega)) ?_)
      rintro _ w11 ⟨A7, c8, rfl, hps9, hF10⟩
      refine ⟨_, rfl, ?_⟩
      have hsw11 := hF10.size
      have hF_12 := hF.new hF10
      have hpl10 := parse_length (ints p); rw [ints_length] at hpl10
      refine V.go_on 15 (by kernel_rfl) (((at_other rfl _ (at_other rfl _ (at_same (((((((((hz.put _ _).put _ _).put _ _).put _ _).put _ _).put _ _).put _ _).put _ _).put _ _) rfl _)) : Act.eval _ _ = (.bool (decide ((s.size : Int) ≤ 65536))))).trans (dt hg6)) (V.mv (v := (.string s)) (at_other rfl _ (at_other rfl _ (at_other rfl _ (at_other rfl _ (at_other rfl _ (at_other rfl _ (at_other rfl _ (at_other rfl _ (at_other rfl _ (at_other rfl _ (at_other rfl _ (at_other rfl _ (s1))))))))))))) ?_)
      refine V.go_on 15 (by kernel_rfl) (((at_other rfl _ (at_other rfl _ (at_other rfl _ (at_same (((((((((hz.put _ _).put _ _).put _ _).put _ _).put _ _).put _ _).put _ _).put _ _).put _ _) rfl _))) : Act.eval _ _ = (.bool (decide ((s.size : Int) ≤ 65536))))).trans (dt hg6)) (V.mv (v := (.bool fold)) (at_other rfl _ (at_other rfl _ (at_other rfl _ (at_other rfl _ (at_other rfl _ (at_other rfl _ (at_other rfl _ (at_other rfl _ (at_other rfl _ (at_other rfl _ (at_other rfl _ (at_other rfl _ (at_other rfl _ (s2)))))))))))))) ?_)
      refine V.go_on 15 (by kernel_rfl) (((at_other rfl _ (at_other rfl _ (at_other rfl _ (at_other rfl _ (at_same (((((((((hz.put _ _).put _ _).put _ _).put _ _).put _ _).put _ _).put _ _).put _ _).put _ _) rfl _)))) : Act.eval _ _ = (.bool (decide ((s.size : Int) ≤ 65536))))).trans (dt hg6)) (V.call 28 #[] #[.slice A7 ((parse (ints p)).length) c8, .string s, .bool fold] evf (args3 (at_other rfl _ (at_other rfl _ (at_same (((((((((((hz.put _ _).put _ _).put _ _).put _ _).put _ _).put _ _).put _ _).put _ _).put _ _).put _ _).put _ _) rfl _))) (at_other rfl _ (at_same ((((((((((((hz.put _ _).put _ _).put _ _).put _ _).put _ _).put _ _).put _ _).put _ _).put _ _).put _ _).put _ _).put _ _) rfl _)) (at_same (((((((((((((hz.put _ _).put _ _).put _ _).put _ _).put _ _).put _ _).put _ _).put _ _).put _ _).put _ _).put _ _).put _ _).put _ _) rfl _)) (Go.Proofs.enters_of Try.func28 (by kernel_rfl) rfl) (rmatches_any w11 (parse (ints p)) A7 c8 s fold (by omega) (parse_good _) (hps9.zone fun b hb _ => hb)) ?_)
      rintro _ w14 ⟨rfl, hF13⟩
      refine ⟨_, rfl, ?_⟩
      have hsw14 := hF13.size
      have hF_15 := hF_12.new hF13
      have hps9_16 := hps9.fr0 hF13
      refine V.go (V.pk_t (((at_other rfl _ (at_other rfl _ (at_other rfl _ (at_other rfl _ (at_other rfl _ (at_same (((((((((hz.put _ _).put _ _).put _ _).put _ _).put _ _).put _ _).put _ _).put _ _).put _ _) rfl _))))) : Act.eval _ _ = (.bool (decide ((s.size : Int) ≤ 65536))))).trans (dt hg6)) (v := (.bool (dp fold (parse (ints p)) s (parse (ints p)).length (s).size))) (at_same ((((((((((((((hz.put _ _).put _ _).put _ _).put _ _).put _ _).put _ _).put _ _).put _ _).put _ _).put _ _).put _ _).put _ _).put _ _).put _ _) rfl _) ?_)
      refine V.go (V.asg (v := (.bool (dp fold (parse (ints p)) s (parse (ints p)).length (s).size))) (at_same (((((((((((((((hz.put _ _).put _ _).put _ _).put _ _).put _ _).put _ _).put _ _).put _ _).put _ _).put _ _).put _ _).put _ _).put _ _).put _ _).put _ _) rfl _) ?_)
      refine V.nil ?_
      refine V.then_n (hK4 _ _ ?_)
      refine V.flushW (((((((((((((((((hz.put _ _).put _ _).put _ _).put _ _).put _ _).put _ _).put _ _).put _ _).put _ _).put _ _).put _ _).put _ _).put _ _).put _ _).put _ _).put _ _).put _ _) (fun a17 hz18 up19 => ?_)
      have s6_20 : a17.eval (.tmp 6) = (.bool (dp fold (parse (ints p)) s (parse (ints p)).length (s).size)) := up19 _ _ (at_same ((((((((((((((((hz.put _ _).put _ _).put _ _).put _ _).put _ _).put _ _).put _ _).put _ _).put _ _).put _ _).put _ _).put _ _).put _ _).put _ _).put _ _).put _ _) rfl _)
      clear up19
      refine V.ret ?_
      refine V.ret1 hz18 rfl (s6_20) ?_
      refine ⟨congrArg Ending.returned (congrArg Value.bool ?_), hF_15⟩
      unfold rmat
      rw [decide_eq_true (show p.size ≤ 65536 by omega), decide_eq_true (show s.size ≤ 65536 by omega)]; rfl
    ·
      refine V.go_off 15 (by kernel_rfl) (((at_same (((((((((hz.put _ _).put _ _).put _ _).put _ _).put _ _).put _ _).put _ _).put _ _).put _ _) rfl _ : Act.eval _ _ = (.bool (decide ((s.size : Int) ≤ 65536))))).trans (df hg6)) (by kernel_rfl) ?_
      refine V.go_off 15 (by kernel_rfl) (((at_other rfl _ (at_same (((((((((hz.put _ _).put _ _).put _ _).put _ _).put _ _).put _ _).put _ _).put _ _).put _ _) rfl _) : Act.eval _ _ = (.bool (decide ((s.size : Int) ≤ 65536))))).trans (df hg6)) (by kernel_rfl) ?_
      refine V.go_off 15 (by kernel_rfl) (((at_other rfl _ (at_other rfl _ (at_same (((((((((hz.put _ _).put _ _).put _ _).put _ _).put _ _).put _ _).put _ _).put _ _).put _ _) rfl _)) : Act.eval _ _ = (.bool (decide ((s.size : Int) ≤ 65536))))).trans (df hg6)) (by kernel_rfl) ?_
      refine V.go_off 15 (by kernel_rfl) (((at_other rfl _ (at_other rfl _ (at_other rfl _ (at_same (((((((((hz.put _ _).put _ _).put _ _).put _ _).put _ _).put _ _).put _ _).put _ _).put _ _) rfl _))) : Act.eval _ _ = (.bool (decide ((s.size : Int) ≤ 65536))))).trans (df hg6)) (by kernel_rfl) ?_
      refine V.go_off 15 (by kernel_rfl) (((at_other rfl _ (at_other rfl _ (at_other rfl _ (at_other rfl _ (at_same (((((((((hz.put _ _).put _ _).put _ _).put _ _).put _ _).put _ _).put _ _).put _ _).put _ _) rfl _)))) : Act.eval _ _ = (.bool (decide ((s.size : Int) ≤ 65536))))).trans (df hg6)) (by kernel_rfl) ?_
      refine V.go (V.pk_f (((at_other rfl _ (at_other rfl _ (at_other rfl _ (at_other rfl _ (at_other rfl _ (at_same (((((((((hz.put _ _).put _ _).put _ _).put _ _).put _ _).put _ _).put _ _).put _ _).put _ _) rfl _))))) : Act.eval _ _ = (.bool (decide ((s.size : Int) ≤ 65536))))).trans (df hg6)) (v := (.bool false)) evc ?_)
      refine V.go (V.asg (v := (.bool false)) (at_same (((((((((((((((hz.put _ _).put _ _).put _ _).put _ _).put _ _).put _ _).put _ _).put _ _).put _ _).put _ _).put _ _).put _ _).put _ _).put _ _).put _ _) rfl _) ?_)
      refine V.nil ?_
      refine V.then_n (hK4 _ _ ?_)
      refine V.flushW (((((((((((((((((hz.put _ _).put _ _).put _ _).put _ _).put _ _).put _ _).put _ _).put _ _).put _ _).put _ _).put _ _).put _ _).put _ _).put _ _).put _ _).put _ _).put _ _) (fun a21 hz22 up23 => ?_)
      have s6_24 : a21.eval (.tmp 6) = (.bool false) := up23 _ _ (at_same ((((((((((((((((hz.put _ _).put _ _).put _ _).put _ _).put _ _).put _ _).put _ _).put _ _).put _ _).put _ _).put _ _).put _ _).put _ _).put _ _).put _ _).put _ _) rfl _)
      clear up23
      refine V.ret ?_
      refine V.ret1 hz22 rfl (s6_24) ?_
      refine ⟨congrArg Ending.returned (congrArg Value.bool ?_), hF⟩
      unfold rmat
      rw [decide_eq_true (show p.size ≤ 65536 by omega), decide_eq_false (show ¬ s.size ≤ 65536 by omega)]; rfl
  ·
    refine V.go_off 10 (by kernel_rfl) (((at_same ((((hz.put _ _).put _ _).put _ _).put _ _) rfl _ : Act.eval _ _ = (.bool (decide ((p.size : Int) ≤ 65536))))).trans (df hg5)) (by kernel_rfl) ?_
    refine V.go_off 10 (by kernel_rfl) (((at_other rfl _ (at_same ((((hz.put _ _).put _ _).put _ _).put _ _) rfl _) : Act.eval _ _ = (.bool (decide ((p.size : Int) ≤ 65536))))).trans (df hg5)) (by kernel_rfl) ?_
    refine V.go_off 10 (by kernel_rfl) (((at_other rfl _ (at_other rfl _ (at_same ((((hz.put _ _).put _ _).put _ _).put _ _) rfl _)) : Act.eval _ _ = (.bool (decide ((p.size : Int) ≤ 65536))))).trans (df hg5)) (by kernel_rfl) ?_
    refine V.go (V.pk_f (((at_other rfl _ (at_other rfl _ (at_other rfl _ (at_same ((((hz.put _ _).put _ _).put _ _).put _ _) rfl _))) : Act.eval _ _ = (.bool (decide ((p.size : Int) ≤ 65536))))).trans (df hg5)) (v := (.bool false)) evc ?_)
    refine V.go (V.mv (v := (.bool false)) (at_same ((((((((hz.put _ _).put _ _).put _ _).put _ _).put _ _).put _ _).put _ _).put _ _) rfl _) ?_)
    refine V.go_off 15 (by kernel_rfl) (at_same (((((((((hz.put _ _).put _ _).put _ _).put _ _).put _ _).put _ _).put _ _).put _ _).put _ _) rfl _) (by kernel_rfl) ?_
    refine V.go_off 15 (by kernel_rfl) (at_other rfl _ (at_same (((((((((hz.put _ _).put _ _).put _ _).put _ _).put _ _).put _ _).put _ _).put _ _).put _ _) rfl _)) (by kernel_rfl) ?_
    refine V.go_off 15 (by kernel_rfl) (at_other rfl _ (at_other rfl _ (at_same (((((((((hz.put _ _).put _ _).put _ _).put _ _).put _ _).put _ _).put _ _).put _ _).put _ _) rfl _))) (by kernel_rfl) ?_
    refine V.go_off 15 (by kernel_rfl) (at_other rfl _ (at_other rfl _ (at_other rfl _ (at_same (((((((((hz.put _ _).put _ _).put _ _).put _ _).put _ _).put _ _).put _ _).put _ _).put _ _) rfl _)))) (by kernel_rfl) ?_
    refine V.go_off 15 (by kernel_rfl) (at_other rfl _ (at_other rfl _ (at_other rfl _ (at_other rfl _ (at_same (((((((((hz.put _ _).put _ _).put _ _).put _ _).put _ _).put _ _).put _ _).put _ _).put _ _) rfl _))))) (by kernel_rfl) ?_
    refine V.go (V.pk_f (at_other rfl _ (at_other rfl _ (at_other rfl _ (at_other rfl _ (at_other rfl _ (at_same (((((((((hz.put _ _).put _ _).put _ _).put _ _).put _ _).put _ _).put _ _).put _ _).put _ _) rfl _)))))) (v := (.bool false)) evc ?_)
    refine V.go (V.asg (v := (.bool false)) (at_same (((((((((((((((hz.put _ _).put _ _).put _ _).put _ _).put _ _).put _ _).put _ _).put _ _).put _ _).put _ _).put _ _).put _ _).put _ _).put _ _).put _ _) rfl _) ?_)
    refine V.nil ?_
    refine V.then_n (hK4 _ _ ?_)
    refine V.flushW (((((((((((((((((hz.put _ _).put _ _).put _ _).put _ _).put _ _).put _ _).put _ _).put _ _).put _ _).put _ _).put _ _).put _ _).put _ _).put _ _).put _ _).put _ _).put _ _) (fun a25 hz26 up27 => ?_)
    have s6_28 : a25.eval (.tmp 6) = (.bool false) := up27 _ _ (at_same ((((((((((((((((hz.put _ _).put _ _).put _ _).put _ _).put _ _).put _ _).put _ _).put _ _).put _ _).put _ _).put _ _).put _ _).put _ _).put _ _).put _ _).put _ _) rfl _)
    clear up27
    refine V.ret ?_
    refine V.ret1 hz26 rfl (s6_28) ?_
    refine ⟨congrArg Ending.returned (congrArg Value.bool ?_), hF⟩
    unfold rmat
    rw [decide_eq_false (show ¬ p.size ≤ 65536 by omega)]; rfl
end Go.Proofs.Ytmlohijidjbbjaa
