/- Walks: GlobHeads. -/
import Derived.Test.YtmlohijidjbbjaaProg
import Derived.Test.YtmlohijidjbbjaaWl
import Derived.Test.YtmlohijidjbbjaaHd
namespace Go.Proofs.Ytmlohijidjbbjaa
open Go.V Go.Base
attribute [local irreducible] Act.put Act.eval
set_option linter.unusedVariables false
set_option linter.unusedSimpArgs false
set_option maxHeartbeats 4000000 in
set_option maxRecDepth 20000 in
theorem globHeads_any (w : World) (p s : ByteArray) : Calls Try.prog 6 #[.string p, .string s] w (fun e w' => e = .returned (.bool true) ∧ Fr [] w w') := by
  have hF := Fr.refl [] w
  refine V.enter 31 Try.func6 rfl rfl ?_
  intro a hz ha
  have s0 : a.eval (.tmp 0) = (.string p) := ha 0 _ rfl
  have s1 : a.eval (.tmp 1) = (.string s) := ha 1 _ rfl
  clear ha
  refine V.seq (fun K1 hK2 => ?_)
  refine V.region (by kernel_rfl) ?_
  refine V.go (V.asg (v := (.bool false)) evc ?_)
  refine V.nil ?_
  refine V.then_n (hK2 _ _ ?_)
  refine V.seq (fun K3 hK4 => ?_)
  refine V.seq (fun K5 hK6 => ?_)
  refine V.region (by kernel_rfl) ?_
  refine V.go (V.call 12 #[] #[] evf (args0) (Go.Proofs.enters_of Try.func12 (by kernel_rfl) rfl) (awake_any w) ?_)
  rintro _ w8 ⟨rfl, hF7⟩
  refine ⟨_, rfl, ?_⟩
  have hsw8 := hF7.size
  have hF_9 := hF.new hF7
  refine V.go (V.pv [(6, .bool true)] ⟨(at_same (hz.put _ _) rfl _), trivial⟩ (by kernel_rfl) (.bool false) (by kernel_rfl) ?_)
  refine V.nil ?_
  refine V.then_n (hK6 _ _ ?_)
  refine V.cond_f (at_same ((hz.put _ _).put _ _) rfl _) ?_
  refine V.skip ?_
  refine V.then_n (hK4 _ _ ?_)
  refine V.seq (fun K10 hK11 => ?_)
  refine V.region (by kernel_rfl) ?_
  refine V.go (V.mv (v := (.string p)) (at_other rfl _ (at_other rfl _ (at_other rfl _ (s0)))) ?_)
  refine V.go (V.call 9 #[] #[.string p] evf (args1 (at_same (((hz.put _ _).put _ _).put _ _) rfl _)) (Go.Proofs.enters_of Try.func9 (by kernel_rfl) rfl) (cut_any w8 p) ?_)
  rintro _ w13 ⟨rfl, hF12⟩
  refine ⟨_, rfl, ?_⟩
  have hsw13 := hF12.size
  have hF_14 := hF_9.new hF12
  have hcut12 := cutS_le p
  refine V.go (V.mv (v := (.string s)) (at_other rfl _ (at_other rfl _ (at_other rfl _ (at_other rfl _ (at_other rfl _ (s1)))))) ?_)
  refine V.go (V.call 9 #[] #[.string s] evf (args1 (at_same (((((hz.put _ _).put _ _).put _ _).put _ _).put _ _) rfl _)) (Go.Proofs.enters_of Try.func9 (by kernel_rfl) rfl) (cut_any w13 s) ?_)
  rintro _ w16 ⟨rfl, hF15⟩
  refine ⟨_, rfl, ?_⟩
  have hsw16 := hF15.size
  have hF_17 := hF_14.new hF15
  have hcut15 := cutS_le s
  refine V.go (V.asg (v := (.string (cutS p))) (at_other rfl _ (at_other rfl _ (at_same ((((hz.put _ _).put _ _).put _ _).put _ _) rfl _))) ?_)
  refine V.go (V.asg (v := (.string (cutS s))) (at_other rfl _ (at_same ((((((hz.put _ _).put _ _).put _ _).put _ _).put _ _).put _ _) rfl _)) ?_)
  refine V.nil ?_
  refine V.then_n (hK11 _ _ ?_)
  refine V.flushW (((((((((hz.put _ _).put _ _).put _ _).put _ _).put _ _).put _ _).put _ _).put _ _).put _ _) (fun a18 hz19 up20 => ?_)
  have s0_21 : a18.eval (.tmp 0) = (.string (cutS p)) := up20 _ _ (at_other rfl _ (at_same (((((((hz.put _ _).put _ _).put _ _).put _ _).put _ _).put _ _).put _ _) rfl _))
  have s1_22 : a18.eval (.tmp 1) = (.string (cutS s)) := up20 _ _ (at_same ((((((((hz.put _ _).put _ _).put _ _).put _ _).put _ _).put _ _).put _ _).put _ _) rfl _)
  clear up20
  refine V.seq (fun K23 hK24 => ?_)
  refine V.seq (fun K25 hK26 => ?_)
  refine V.region (by kernel_rfl) ?_
  refine V.go (V.mv (v := (.string (cutS p))) (s0_21) ?_)
  refine V.go (V.mv (v := (.string (cutS s))) (at_other rfl _ (s1_22)) ?_)
  refine V.go (V.call 10 #[] #[.string (cutS p), .string (cutS s), .bool false] evf (args3 (at_other rfl _ (at_same hz19 rfl _)) (at_same (hz19.put _ _) rfl _) evc) (Go.Proofs.enters_of Try.func10 (by kernel_rfl) rfl) (match_any w16 (cutS p) (cutS s) false) ?_)
  rintro _ w28 ⟨rfl, hF27⟩
  refine ⟨_, rfl, ?_⟩
  have hsw28 := hF27.size
  have hF_29 := hF_17.new hF27
  refine V.go (V.pv [(14, .bool (rmat (cutS p) (cutS s) false))] ⟨(at_same ((hz19.put _ _).put _ _) rfl _), trivial⟩ (by kernel_rfl) (.bool (!(rmat (cutS p) (cutS s) false))) (by kernel_rfl) ?_)
  refine V.nil ?_
  refine V.then_n (hK26 _ _ ?_)
  refine V.flushW ((((hz19.put _ _).put _ _).put _ _).put _ _) (fun a30 hz31 up32 => ?_)
  have s0_33 : a30.eval (.tmp 0) = (.string (cutS p)) := up32 _ _ (at_other rfl _ (at_other rfl _ (at_other rfl _ (at_other rfl _ (s0_21)))))
  have s1_34 : a30.eval (.tmp 1) = (.string (cutS s)) := up32 _ _ (at_other rfl _ (at_other rfl _ (at_other rfl _ (at_other rfl _ (s1_22)))))
  have s15_35 : a30.eval (.tmp 15) = (.bool (!(rmat (cutS p) (cutS s) false))) := up32 _ _ (at_same (((hz19.put _ _).put _ _).put _ _) rfl _)
  clear up32
  refine V.cond (s15_35) (fun ht36 => ?_) (fun ht36q => ?_)
  ·
    refine V.seq (fun K37 hK38 => ?_)
    refine V.region (by kernel_rfl) ?_
    refine V.go (V.asg (v := (.bool true)) evc ?_)
    refine V.nil ?_
    refine V.then_n (hK38 _ _ ?_)
    refine V.ret ?_
    refine V.then_r ?_
    refine V.ret1 (hz31.put _ _) rfl (at_same hz31 rfl _) ?_
    exact ⟨rfl, hF_29⟩
  ·
    have ht36 : ¬ ((!(rmat (cutS p) (cutS s) false)) = true) := by rw [ht36q]; simp
    refine V.skip ?_
    refine V.then_n (hK24 _ _ ?_)
    refine V.seq (fun K39 hK40 => ?_)
    refine V.region (by kernel_rfl) ?_
    refine V.go (V.mv (v := (.string (cutS p))) (s0_33) ?_)
    refine V.go (V.call 17 #[] #[.string (cutS p)] evf (args1 (at_same hz31 rfl _)) (Go.Proofs.enters_of Try.func17 (by kernel_rfl) rfl) (head_any w28 (cutS p) (by omega)) ?_)
    rintro _ w42 ⟨rfl, hF41⟩
    refine ⟨_, rfl, ?_⟩
    have hsw42 := hF41.size
    have hF_43 := hF_29.new hF41
    refine V.go (V.asg (v := (.string (headS (cutS p)))) (at_same (hz31.put _ _) rfl _) ?_)
    refine V.nil ?_
    refine V.then_n (hK40 _ _ ?_)
    refine V.seq (fun K44 hK45 => ?_)
    refine V.region (by kernel_rfl) ?_
    refine V.go (V.mv (v := (.string (headS (cutS p)))) (at_same ((hz31.put _ _).put _ _) rfl _) ?_)
    refine V.go (V.pv [(18, .string (headS (cutS p)))] ⟨(at_same (((hz31.put _ _).put _ _).put _ _) rfl _), trivial⟩ (by kernel_rfl) (.int .i64 ((headS (cutS p)).size : Int)) (by kernel_rfl) ?_)
    refine V.go (V.mv (v := (.string (cutS s))) (at_other rfl _ (at_other rfl _ (at_other rfl _ (at_other rfl _ (at_other rfl _ (s1_34)))))) ?_)
    refine V.go (V.pv [(20, .string (cutS s))] ⟨(at_same (((((hz31.put _ _).put _ _).put _ _).put _ _).put _ _) rfl _), trivial⟩ (by kernel_rfl) (.int .i64 ((cutS s).size : Int)) (by kernel_rfl) ?_)
    refine V.go (V.pv [(19, .int .i64 ((headS (cutS p)).size : Int)), (21, .int .i64 ((cutS s).size : Int))] ⟨(at_other rfl _ (at_other rfl _ (at_same ((((hz31.put _ _).put _ _).put _ _).put _ _) rfl _))), (at_same ((((((hz31.put _ _).put _ _).put _ _).put _ _).put _ _).put _ _) rfl _), trivial⟩ (by kernel_rfl) (.bool (decide (((headS (cutS p)).size : Int) ≤ ((cutS s).size : Int)))) (by kernel_rfl) ?_)
    refine V.go (V.mv (v := (.bool (decide (((headS (cutS p)).size : Int) ≤ ((cutS s).size : Int))))) (at_same (((((((hz31.put _ _).put _ _).put _ _).put _ _).put _ _).put _ _).put _ _) rfl _) ?_)
    by_cases hg46 : ((headS (cutS p)).size : Int) ≤ ((cutS s).size : Int)
    ·
      refine V.go_on 23 (by kernel_rfl) (((at_same ((((((((hz31.put _ _).put _ _).put _ _).put _ _).put _ _).put _ _).put _ _).put _ _) rfl _ : Act.eval _ _ = (.bool (decide (((headS (cutS p)).size : Int) ≤ ((cutS s).size : Int)))))).trans (dt hg46)) (V.mv (v := (.string (cutS s))) (at_other rfl _ (at_other rfl _ (at_other rfl _ (at_other rfl _ (at_other rfl _ (at_other rfl _ (at_other rfl _ (at_other rfl _ (at_other rfl _ (s1_34)))))))))) ?_)
      refine V.go_on 23 (by kernel_rfl) (((at_other rfl _ (at_same ((((((((hz31.put _ _).put _ _).put _ _).put _ _).put _ _).put _ _).put _ _).put _ _) rfl _) : Act.eval _ _ = (.bool (decide (((headS (cutS p)).size : Int) ≤ ((cutS s).size : Int)))))).trans (dt hg46)) (V.mv (v := (.string (headS (cutS p)))) (at_other rfl _ (at_other rfl _ (at_other rfl _ (at_other rfl _ (at_other rfl _ (at_other rfl _ (at_other rfl _ (at_same ((hz31.put _ _).put _ _) rfl _)))))))) ?_)
      refine V.go_on 23 (by kernel_rfl) (((at_other rfl _ (at_other rfl _ (at_same ((((((((hz31.put _ _).put _ _).put _ _).put _ _).put _ _).put _ _).put _ _).put _ _) rfl _)) : Act.eval _ _ = (.bool (decide (((headS (cutS p)).size : Int) ≤ ((cutS s).size : Int)))))).trans (dt hg46)) (V.pv [(25, .string (headS (cutS p)))] ⟨(at_same ((((((((((hz31.put _ _).put _ _).put _ _).put _ _).put _ _).put _ _).put _ _).put _ _).put _ _).put _ _) rfl _), trivial⟩ (by kernel_rfl) (.int .i64 ((headS (cutS p)).size : Int)) (by kernel_rfl) ?_)
      refine V.go_on 23 (by kernel_rfl) (((at_other rfl _ (at_other rfl _ (at_other rfl _ (at_same ((((((((hz31.put _ _).put _ _).put _ _).put _ _).put _ _).put _ _).put _ _).put _ _) rfl _))) : Act.eval _ _ = (.bool (decide (((headS (cutS p)).size : Int) ≤ ((cutS s).size : Int)))))).trans (dt hg46)) (V.sls (cutS s) 0 ((headS (cutS p)).size : Int) (at_other rfl _ (at_other rfl _ (at_same (((((((((hz31.put _ _).put _ _).put _ _).put _ _).put _ _).put _ _).put _ _).put _ _).put _ _) rfl _))) rfl ⟨_, (at_same (((((((((((hz31.put _ _).put _ _).put _ _).put _ _).put _ _).put _ _).put _ _).put _ _).put _ _).put _ _).put _ _) rfl _)⟩ (by omega) (by omega) (by omega) (by kernel_rfl) ?_)
      refine V.go_on 23 (by kernel_rfl) (((at_other rfl _ (at_other rfl _ (at_other rfl _ (at_other rfl _ (at_same ((((((((hz31.put _ _).put _ _).put _ _).put _ _).put _ _).put _ _).put _ _).put _ _) rfl _)))) : Act.eval _ _ = (.bool (decide (((headS (cutS p)).size : Int) ≤ ((cutS s).size : Int)))))).trans (dt hg46)) (V.mv (v := (.string (headS (cutS p)))) (at_other rfl _ (at_other rfl _ (at_other rfl _ (at_other rfl _ (at_other rfl _ (at_other rfl _ (at_other rfl _ (at_other rfl _ (at_other rfl _ (at_other rfl _ (at_same ((hz31.put _ _).put _ _) rfl _))))))))))) ?_)
      refine V.go_on 23 (by kernel_rfl) (((at_other rfl _ (at_other rfl _ (at_other rfl _ (at_other rfl _ (at_other rfl _ (at_same ((((((((hz31.put _ _).put _ _).put _ _).put _ _).put _ _).put _ _).put _ _).put _ _) rfl _))))) : Act.eval _ _ = (.bool (decide (((headS (cutS p)).size : Int) ≤ ((cutS s).size : Int)))))).trans (dt hg46)) (V.pvw [(27, .string ((cutS s).extract (0 : Int).toNat (((headS (cutS p)).size : Int) : Int).toNat)), (28, .string (headS (cutS p)))] ⟨(at_other rfl _ (at_same ((((((((((((hz31.put _ _).put _ _).put _ _).put _ _).put _ _).put _ _).put _ _).put _ _).put _ _).put _ _).put _ _).put _ _) rfl _)), (at_same (((((((((((((hz31.put _ _).put _ _).put _ _).put _ _).put _ _).put _ _).put _ _).put _ _).put _ _).put _ _).put _ _).put _ _).put _ _) rfl _), trivial⟩ (by kernel_rfl) (.bool ((((cutS s).extract (0 : Int).toNat (((headS (cutS p)).size : Int) : Int).toNat).toList == (headS (cutS p)).toList))) (.bool (decide (((cutS s).extract (0 : Int).toNat (((headS (cutS p)).size : Int) : Int).toNat) = (headS (cutS p))))) (by kernel_rfl) V.t_seql ?_)
      refine V.go (V.pk_t (((at_other rfl _ (at_other rfl _ (at_other rfl _ (at_other rfl _ (at_other rfl _ (at_other rfl _ (at_same ((((((((hz31.put _ _).put _ _).put _ _).put _ _).put _ _).put _ _).put _ _).put _ _) rfl _)))))) : Act.eval _ _ = (.bool (decide (((headS (cutS p)).size : Int) ≤ ((cutS s).size : Int)))))).trans (dt hg46)) (v := (.bool (decide (((cutS s).extract (0 : Int).toNat (((headS (cutS p)).size : Int) : Int).toNat) = (headS (cutS p)))))) (at_same ((((((((((((((hz31.put _ _).put _ _).put _ _).put _ _).put _ _).put _ _).put _ _).put _ _).put _ _).put _ _).put _ _).put _ _).put _ _).put _ _) rfl _) ?_)
      refine V.go (V.asg (v := (.bool (decide (((cutS s).extract (0 : Int).toNat (((headS (cutS p)).size : Int) : Int).toNat) = (headS (cutS p)))))) (at_same (((((((((((((((hz31.put _ _).put _ _).put _ _).put _ _).put _ _).put _ _).put _ _).put _ _).put _ _).put _ _).put _ _).put _ _).put _ _).put _ _).put _ _) rfl _) ?_)
      refine V.nil ?_
      refine V.then_n (hK45 _ _ ?_)
      refine V.flushW (((((((((((((((((hz31.put _ _).put _ _).put _ _).put _ _).put _ _).put _ _).put _ _).put _ _).put _ _).put _ _).put _ _).put _ _).put _ _).put _ _).put _ _).put _ _).put _ _) (fun a47 hz48 up49 => ?_)
      have s4_50 : a47.eval (.tmp 4) = (.bool (decide (((cutS s).extract (0 : Int).toNat (((headS (cutS p)).size : Int) : Int).toNat) = (headS (cutS p))))) := up49 _ _ (at_same ((((((((((((((((hz31.put _ _).put _ _).put _ _).put _ _).put _ _).put _ _).put _ _).put _ _).put _ _).put _ _).put _ _).put _ _).put _ _).put _ _).put _ _).put _ _) rfl _)
      clear up49
      refine V.ret ?_
      refine V.ret1 hz48 rfl (s4_50) ?_
      have hh := heads (cutS_le p) (cutS_le s) (by simpa using ht36)
      exact ⟨congrArg Ending.returned (congrArg Value.bool (decide_eq_true hh.2)), hF_43⟩
    ·
      refine V.go_off 23 (by kernel_rfl) (((at_same ((((((((hz31.put _ _).put _ _).put _ _).put _ _).put _ _).put _ _).put _ _).put _ _) rfl _ : Act.eval _ _ = (.bool (decide (((headS (cutS p)).size : Int) ≤ ((cutS s).size : Int)))))).trans (df hg46)) (by kernel_rfl) ?_
      refine V.go_off 23 (by kernel_rfl) (((at_other rfl _ (at_same ((((((((hz31.put _ _).put _ _).put _ _).put _ _).put _ _).put _ _).put _ _).put _ _) rfl _) : Act.eval _ _ = (.bool (decide (((headS (cutS p)).size : Int) ≤ ((cutS s).size : Int)))))).trans (df hg46)) (by kernel_rfl) ?_
      refine V.go_off 23 (by kernel_rfl) (((at_other rfl _ (at_other rfl _ (at_same ((((((((hz31.put _ _).put _ _).put _ _).put _ _).put _ _).put _ _).put _ _).put _ _) rfl _)) : Act.eval _ _ = (.bool (decide (((headS (cutS p)).size : Int) ≤ ((cutS s).size : Int)))))).trans (df hg46)) (by kernel_rfl) ?_
      refine V.go_off 23 (by kernel_rfl) (((at_other rfl _ (at_other rfl _ (at_other rfl _ (at_same ((((((((hz31.put _ _).put _ _).put _ _).put _ _).put _ _).put _ _).put _ _).put _ _) rfl _))) : Act.eval _ _ = (.bool (decide (((headS (cutS p)).size : Int) ≤ ((cutS s).size : Int)))))).trans (df hg46)) (by kernel_rfl) ?_
      refine V.go_off 23 (by kernel_rfl) (((at_other rfl _ (at_other rfl _ (at_other rfl _ (at_other rfl _ (at_same ((((((((hz31.put _ _).put _ _).put _ _).put _ _).put _ _).put _ _).put _ _).put _ _) rfl _)))) : Act.eval _ _ = (.bool (decide (((headS (cutS p)).size : Int) ≤ ((cutS s).size : Int)))))).trans (df hg46)) (by kernel_rfl) ?_
      refine V.go_off 23 (by kernel_rfl) (((at_other rfl _ (at_other rfl _ (at_other rfl _ (at_other rfl _ (at_other rfl _ (at_same ((((((((hz31.put _ _).put _ _).put _ _).put _ _).put _ _).put _ _).put _ _).put _ _) rfl _))))) : Act.eval _ _ = (.bool (decide (((headS (cutS p)).size : Int) ≤ ((cutS s).size : Int)))))).trans (df hg46)) (by kernel_rfl) ?_
      refine V.go (V.pk_f (((at_other rfl _ (at_other rfl _ (at_other rfl _ (at_other rfl _ (at_other rfl _ (at_other rfl _ (at_same ((((((((hz31.put _ _).put _ _).put _ _).put _ _).put _ _).put _ _).put _ _).put _ _) rfl _)))))) : Act.eval _ _ = (.bool (decide (((headS (cutS p)).size : Int) ≤ ((cutS s).size : Int)))))).trans (df hg46)) (v := (.bool false)) evc ?_)
      refine V.go (V.asg (v := (.bool false)) (at_same (((((((((((((((hz31.put _ _).put _ _).put _ _).put _ _).put _ _).put _ _).put _ _).put _ _).put _ _).put _ _).put _ _).put _ _).put _ _).put _ _).put _ _) rfl _) ?_)
      refine V.nil ?_
      refine V.then_n (hK45 _ _ ?_)
      refine V.flushW (((((((((((((((((hz31.put _ _).put _ _).put _ _).put _ _).put _ _).put _ _).put _ _).put _ _).put _ _).put _ _).put _ _).put _ _).put _ _).put _ _).put _ _).put _ _).put _ _) (fun a51 hz52 up53 => ?_)
      have s4_54 : a51.eval (.tmp 4) = (.bool false) := up53 _ _ (at_same ((((((((((((((((hz31.put _ _).put _ _).put _ _).put _ _).put _ _).put _ _).put _ _).put _ _).put _ _).put _ _).put _ _).put _ _).put _ _).put _ _).put _ _).put _ _) rfl _)
      clear up53
      refine V.ret ?_
      refine V.ret1 hz52 rfl (s4_54) ?_
      have hh := heads (cutS_le p) (cutS_le s) (by simpa using ht36)
      exact absurd hh.1 (by omega)
end Go.Proofs.Ytmlohijidjbbjaa
