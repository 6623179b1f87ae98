/- Walks: GlobParts. -/
import Derived.Test.YtmlohijidjbbjaaProg
import Derived.Test.YtmlohijidjbbjaaWl
import Derived.Test.YtmlohijidjbbjaaWq
import Derived.Test.YtmlohijidjbbjaaWr
namespace Go.Proofs.Ytmlohijidjbbjaa
open Go.V Go.Base
attribute [local irreducible] Act.put Act.eval
set_option linter.unusedVariables false
set_option linter.unusedSimpArgs false
set_option maxHeartbeats 4000000 in
set_option maxRecDepth 20000 in
theorem globParts_any (w : World) (p : ByteArray) (hp : p.size ≤ 1048576) : Calls Try.prog 7 #[.string p] w (fun e w' => e = .returned (.bool true) ∧ Fr [] w w') := by
  have hF := Fr.refl [] w
  refine V.enter 42 Try.func7 rfl rfl ?_
  intro a hz ha
  have s0 : a.eval (.tmp 0) = (.string p) := ha 0 _ rfl
  clear ha
  refine V.seq (fun K1 hK2 => ?_)
  refine V.region (by kernel_rfl) ?_
  refine V.go (V.asg (v := (.bool false)) evc ?_)
  refine V.nil ?_
  refine V.then_n (hK2 _ _ ?_)
  refine V.seq (fun K3 hK4 => ?_)
  refine V.region (by kernel_rfl) ?_
  refine V.go (V.mv (v := (.string p)) (at_other rfl _ (s0)) ?_)
  refine V.go (V.call 18 #[] #[.string p] evf (args1 (at_same (hz.put _ _) rfl _)) (Go.Proofs.enters_of Try.func18 (by kernel_rfl) rfl) (plain_any w p (by omega)) ?_)
  rintro _ w6 ⟨rfl, hF5⟩
  refine ⟨_, rfl, ?_⟩
  have hsw6 := hF5.size
  have hF_7 := hF.new hF5
  refine V.go (V.mv (v := (.tuple #[.string (plainS p), .bool (plainB p)])) (at_same ((hz.put _ _).put _ _) rfl _) ?_)
  refine V.go (V.pv [(7, .tuple #[.string (plainS p), .bool (plainB p)])] ⟨(at_same (((hz.put _ _).put _ _).put _ _) rfl _), trivial⟩ (by kernel_rfl) (.string (plainS p)) (by kernel_rfl) ?_)
  refine V.go (V.pv [(7, .tuple #[.string (plainS p), .bool (plainB p)])] ⟨(at_other rfl _ (at_same (((hz.put _ _).put _ _).put _ _) rfl _)), trivial⟩ (by kernel_rfl) (.bool (plainB p)) (by kernel_rfl) ?_)
  refine V.go (V.asg (v := (.string (plainS p))) (at_other rfl _ (at_same ((((hz.put _ _).put _ _).put _ _).put _ _) rfl _)) ?_)
  refine V.go (V.asg (v := (.bool (plainB p))) (at_other rfl _ (at_same (((((hz.put _ _).put _ _).put _ _).put _ _).put _ _) rfl _)) ?_)
  refine V.nil ?_
  refine V.then_n (hK4 _ _ ?_)
  refine V.flushW ((((((((hz.put _ _).put _ _).put _ _).put _ _).put _ _).put _ _).put _ _).put _ _) (fun a8 hz9 up10 => ?_)
  have s0_11 : a8.eval (.tmp 0) = (.string p) := up10 _ _ (at_other rfl _ (at_other rfl _ (at_other rfl _ (at_other rfl _ (at_other rfl _ (at_other rfl _ (at_other rfl _ (at_other rfl _ (s0)))))))))
  have s3_12 : a8.eval (.tmp 3) = (.string (plainS p)) := up10 _ _ (at_other rfl _ (at_same ((((((hz.put _ _).put _ _).put _ _).put _ _).put _ _).put _ _) rfl _))
  have s4_13 : a8.eval (.tmp 4) = (.bool (plainB p)) := up10 _ _ (at_same (((((((hz.put _ _).put _ _).put _ _).put _ _).put _ _).put _ _).put _ _) rfl _)
  clear up10
  refine V.seq (fun K14 hK15 => ?_)
  refine V.region (by kernel_rfl) ?_
  refine V.go (V.mv (v := (.string p)) (s0_11) ?_)
  refine V.go (V.call 19 #[] #[.string p] evf (args1 (at_same hz9 rfl _)) (Go.Proofs.enters_of Try.func19 (by kernel_rfl) rfl) (rplain_any w6 p (by omega)) ?_)
  rintro _ w17 ⟨rfl, hF16⟩
  refine ⟨_, rfl, ?_⟩
  have hsw17 := hF16.size
  have hF_18 := hF_7.new hF16
  refine V.go (V.mv (v := (.tuple #[.string (plainS p), .bool (plainB p)])) (at_same (hz9.put _ _) rfl _) ?_)
  refine V.go (V.pv [(12, .tuple #[.string (plainS p), .bool (plainB p)])] ⟨(at_same ((hz9.put _ _).put _ _) rfl _), trivial⟩ (by kernel_rfl) (.string (plainS p)) (by kernel_rfl) ?_)
  refine V.go (V.pv [(12, .tuple #[.string (plainS p), .bool (plainB p)])] ⟨(at_other rfl _ (at_same ((hz9.put _ _).put _ _) rfl _)), trivial⟩ (by kernel_rfl) (.bool (plainB p)) (by kernel_rfl) ?_)
  refine V.go (V.asg (v := (.string (plainS p))) (at_other rfl _ (at_same (((hz9.put _ _).put _ _).put _ _) rfl _)) ?_)
  refine V.go (V.asg (v := (.bool (plainB p))) (at_other rfl _ (at_same ((((hz9.put _ _).put _ _).put _ _).put _ _) rfl _)) ?_)
  refine V.nil ?_
  refine V.then_n (hK15 _ _ ?_)
  refine V.flushW (((((((hz9.put _ _).put _ _).put _ _).put _ _).put _ _).put _ _).put _ _) (fun a19 hz20 up21 => ?_)
  have s0_22 : a19.eval (.tmp 0) = (.string p) := up21 _ _ (at_other rfl _ (at_other rfl _ (at_other rfl _ (at_other rfl _ (at_other rfl _ (at_other rfl _ (at_other rfl _ (s0_11))))))))
  have s3_23 : a19.eval (.tmp 3) = (.string (plainS p)) := up21 _ _ (at_other rfl _ (at_other rfl _ (at_other rfl _ (at_other rfl _ (at_other rfl _ (at_other rfl _ (at_other rfl _ (s3_12))))))))
  have s4_24 : a19.eval (.tmp 4) = (.bool (plainB p)) := up21 _ _ (at_other rfl _ (at_other rfl _ (at_other rfl _ (at_other rfl _ (at_other rfl _ (at_other rfl _ (at_other rfl _ (s4_13))))))))
  have s5_25 : a19.eval (.tmp 5) = (.string (plainS p)) := up21 _ _ (at_other rfl _ (at_same (((((hz9.put _ _).put _ _).put _ _).put _ _).put _ _) rfl _))
  have s6_26 : a19.eval (.tmp 6) = (.bool (plainB p)) := up21 _ _ (at_same ((((((hz9.put _ _).put _ _).put _ _).put _ _).put _ _).put _ _) rfl _)
  clear up21
  refine V.seq (fun K27 hK28 => ?_)
  refine V.region (by kernel_rfl) ?_
  refine V.go (V.mv (v := (.string p)) (s0_22) ?_)
  refine V.go (V.call 21 #[] #[.string p] evf (args1 (at_same hz20 rfl _)) (Go.Proofs.enters_of Try.func21 (by kernel_rfl) rfl) (parse_any w17 p (by omega)) ?_)
  rintro _ w33 ⟨A29, c30, rfl, hps31, hF32⟩
  refine ⟨_, rfl, ?_⟩
  have hsw33 := hF32.size
  have hF_34 := hF_18.new hF32
  have hpl32 := parse_length (ints p); rw [ints_length] at hpl32
  refine V.go (V.mv (v := (.string p)) (at_other rfl _ (at_other rfl _ (s0_22))) ?_)
  refine V.go (V.call 22 #[] #[.string p] evf (args1 (at_same ((hz20.put _ _).put _ _) rfl _)) (Go.Proofs.enters_of Try.func22 (by kernel_rfl) rfl) (rparse_any w33 p (by omega)) ?_)
  rintro _ w39 ⟨A35, c36, rfl, hps37, hF38⟩
  refine ⟨_, rfl, ?_⟩
  have hsw39 := hF38.size
  have hF_40 := hF_34.new hF38
  have hps31_41 := hps31.fr0 hF38
  have hpl38 := parse_length (ints p); rw [ints_length] at hpl38
  refine V.go (V.call 20 #[] #[.slice A29 ((parse (ints p)).length) c30, .slice A35 ((parse (ints p)).length) c36] evf (args2 (at_other rfl _ (at_other rfl _ (at_same (hz20.put _ _) rfl _))) (at_same (((hz20.put _ _).put _ _).put _ _) rfl _)) (Go.Proofs.enters_of Try.func20 (by kernel_rfl) rfl) (rsame_any w39 A29 A35 c30 c36 (parse (ints p)) (hps31_41.zone fun b hb _ => hb) (hps37.zone fun b hb _ => hb)) ?_)
  rintro _ w43 ⟨rfl, hF42⟩
  refine ⟨_, rfl, ?_⟩
  have hsw43 := hF42.size
  have hF_44 := hF_40.new hF42
  have hps31_45 := hps31_41.fr0 hF42
  have hps37_46 := hps37.fr0 hF42
  refine V.go (V.mv (v := (.bool true)) (at_same ((((hz20.put _ _).put _ _).put _ _).put _ _) rfl _) ?_)
  refine V.go_on 22 (by kernel_rfl) (at_same (((((hz20.put _ _).put _ _).put _ _).put _ _).put _ _) rfl _) (V.mv (v := (.string (plainS p))) (at_other rfl _ (at_other rfl _ (at_other rfl _ (at_other rfl _ (at_other rfl _ (at_other rfl _ (s3_23))))))) ?_)
  refine V.go_on 22 (by kernel_rfl) (at_other rfl _ (at_same (((((hz20.put _ _).put _ _).put _ _).put _ _).put _ _) rfl _)) (V.mv (v := (.string (plainS p))) (at_other rfl _ (at_other rfl _ (at_other rfl _ (at_other rfl _ (at_other rfl _ (at_other rfl _ (at_other rfl _ (s5_25)))))))) ?_)
  refine V.go_on 22 (by kernel_rfl) (at_other rfl _ (at_other rfl _ (at_same (((((hz20.put _ _).put _ _).put _ _).put _ _).put _ _) rfl _))) (V.pvw [(23, .string (plainS p)), (24, .string (plainS p))] ⟨(at_other rfl _ (at_same ((((((hz20.put _ _).put _ _).put _ _).put _ _).put _ _).put _ _) rfl _)), (at_same (((((((hz20.put _ _).put _ _).put _ _).put _ _).put _ _).put _ _).put _ _) rfl _), trivial⟩ (by kernel_rfl) (.bool (((plainS p).toList == (plainS p).toList))) (.bool (decide ((plainS p) = (plainS p)))) (by kernel_rfl) V.t_seql ?_)
  refine V.go (V.pk_t (at_other rfl _ (at_other rfl _ (at_other rfl _ (at_same (((((hz20.put _ _).put _ _).put _ _).put _ _).put _ _) rfl _)))) (v := (.bool (decide ((plainS p) = (plainS p))))) (at_same ((((((((hz20.put _ _).put _ _).put _ _).put _ _).put _ _).put _ _).put _ _).put _ _) rfl _) ?_)
  refine V.go (V.mv (v := (.bool (decide ((plainS p) = (plainS p))))) (at_same (((((((((hz20.put _ _).put _ _).put _ _).put _ _).put _ _).put _ _).put _ _).put _ _).put _ _) rfl _) ?_)
  by_cases hg47 : (plainS p) = (plainS p)
  ·
    refine V.go_on 27 (by kernel_rfl) (((at_same ((((((((((hz20.put _ _).put _ _).put _ _).put _ _).put _ _).put _ _).put _ _).put _ _).put _ _).put _ _) rfl _ : Act.eval _ _ = (.bool (decide ((plainS p) = (plainS p)))))).trans (dt hg47)) (V.mv (v := (.bool (plainB p))) (at_other rfl _ (at_other rfl _ (at_other rfl _ (at_other rfl _ (at_other rfl _ (at_other rfl _ (at_other rfl _ (at_other rfl _ (at_other rfl _ (at_other rfl _ (at_other rfl _ (s4_24)))))))))))) ?_)
    refine V.go_on 27 (by kernel_rfl) (((at_other rfl _ (at_same ((((((((((hz20.put _ _).put _ _).put _ _).put _ _).put _ _).put _ _).put _ _).put _ _).put _ _).put _ _) rfl _) : Act.eval _ _ = (.bool (decide ((plainS p) = (plainS p)))))).trans (dt hg47)) (V.mv (v := (.bool (plainB p))) (at_other rfl _ (at_other rfl _ (at_other rfl _ (at_other rfl _ (at_other rfl _ (at_other rfl _ (at_other rfl _ (at_other rfl _ (at_other rfl _ (at_other rfl _ (at_other rfl _ (at_other rfl _ (s6_26))))))))))))) ?_)
    refine V.go_on 27 (by kernel_rfl) (((at_other rfl _ (at_other rfl _ (at_same ((((((((((hz20.put _ _).put _ _).put _ _).put _ _).put _ _).put _ _).put _ _).put _ _).put _ _).put _ _) rfl _)) : Act.eval _ _ = (.bool (decide ((plainS p) = (plainS p)))))).trans (dt hg47)) (V.pvw [(28, .bool (plainB p)), (29, .bool (plainB p))] ⟨(at_other rfl _ (at_same (((((((((((hz20.put _ _).put _ _).put _ _).put _ _).put _ _).put _ _).put _ _).put _ _).put _ _).put _ _).put _ _) rfl _)), (at_same ((((((((((((hz20.put _ _).put _ _).put _ _).put _ _).put _ _).put _ _).put _ _).put _ _).put _ _).put _ _).put _ _).put _ _) rfl _), trivial⟩ (by kernel_rfl) (.bool ((plainB p) == (plainB p))) (.bool (decide ((plainB p) = (plainB p)))) (by kernel_rfl) V.t_beql ?_)
    refine V.go (V.pk_t (((at_other rfl _ (at_other rfl _ (at_other rfl _ (at_same ((((((((((hz20.put _ _).put _ _).put _ _).put _ _).put _ _).put _ _).put _ _).put _ _).put _ _).put _ _) rfl _))) : Act.eval _ _ = (.bool (decide ((plainS p) = (plainS p)))))).trans (dt hg47)) (v := (.bool (decide ((plainB p) = (plainB p))))) (at_same (((((((((((((hz20.put _ _).put _ _).put _ _).put _ _).put _ _).put _ _).put _ _).put _ _).put _ _).put _ _).put _ _).put _ _).put _ _) rfl _) ?_)
    refine V.go (V.mv (v := (.bool (decide ((plainB p) = (plainB p))))) (at_same ((((((((((((((hz20.put _ _).put _ _).put _ _).put _ _).put _ _).put _ _).put _ _).put _ _).put _ _).put _ _).put _ _).put _ _).put _ _).put _ _) rfl _) ?_)
    by_cases hg48 : (plainB p) = (plainB p)
    ·
      refine V.go_on 32 (by kernel_rfl) (((at_same (((((((((((((((hz20.put _ _).put _ _).put _ _).put _ _).put _ _).put _ _).put _ _).put _ _).put _ _).put _ _).put _ _).put _ _).put _ _).put _ _).put _ _) rfl _ : Act.eval _ _ = (.bool (decide ((plainB p) = (plainB p)))))).trans (dt hg48)) (V.mv (v := (.string p)) (at_other rfl _ (at_other rfl _ (at_other rfl _ (at_other rfl _ (at_other rfl _ (at_other rfl _ (at_other rfl _ (at_other rfl _ (at_other rfl _ (at_other rfl _ (at_other rfl _ (at_other rfl _ (at_other rfl _ (at_other rfl _ (at_other rfl _ (at_other rfl _ (s0_22))))))))))))))))) ?_)
      refine V.go_on 32 (by kernel_rfl) (((at_other rfl _ (at_same (((((((((((((((hz20.put _ _).put _ _).put _ _).put _ _).put _ _).put _ _).put _ _).put _ _).put _ _).put _ _).put _ _).put _ _).put _ _).put _ _).put _ _) rfl _) : Act.eval _ _ = (.bool (decide ((plainB p) = (plainB p)))))).trans (dt hg48)) (V.call 17 #[] #[.string p] evf (args1 (at_same ((((((((((((((((hz20.put _ _).put _ _).put _ _).put _ _).put _ _).put _ _).put _ _).put _ _).put _ _).put _ _).put _ _).put _ _).put _ _).put _ _).put _ _).put _ _) rfl _)) (Go.Proofs.enters_of Try.func17 (by kernel_rfl) rfl) (head_any w43 p (by omega)) ?_)
      rintro _ w50 ⟨rfl, hF49⟩
      refine ⟨_, rfl, ?_⟩
      have hsw50 := hF49.size
      have hF_51 := hF_44.new hF49
      have hps31_52 := hps31_45.fr0 hF49
      have hps37_53 := hps37_46.fr0 hF49
      refine V.go_on 32 (by kernel_rfl) (((at_other rfl _ (at_other rfl _ (at_same (((((((((((((((hz20.put _ _).put _ _).put _ _).put _ _).put _ _).put _ _).put _ _).put _ _).put _ _).put _ _).put _ _).put _ _).put _ _).put _ _).put _ _) rfl _)) : Act.eval _ _ = (.bool (decide ((plainB p) = (plainB p)))))).trans (dt hg48)) (V.mv (v := (.string p)) (at_other rfl _ (at_other rfl _ (at_other rfl _ (at_other rfl _ (at_other rfl _ (at_other rfl _ (at_other rfl _ (at_other rfl _ (at_other rfl _ (at_other rfl _ (at_other rfl _ (at_other rfl _ (at_other rfl _ (at_other rfl _ (at_other rfl _ (at_other rfl _ (at_other rfl _ (at_other rfl _ (s0_22))))))))))))))))))) ?_)
      refine V.go_on 32 (by kernel_rfl) (((at_other rfl _ (at_other rfl _ (at_other rfl _ (at_same (((((((((((((((hz20.put _ _).put _ _).put _ _).put _ _).put _ _).put _ _).put _ _).put _ _).put _ _).put _ _).put _ _).put _ _).put _ _).put _ _).put _ _) rfl _))) : Act.eval _ _ = (.bool (decide ((plainB p) = (plainB p)))))).trans (dt hg48)) (V.call 23 #[] #[.string p] evf (args1 (at_same ((((((((((((((((((hz20.put _ _).put _ _).put _ _).put _ _).put _ _).put _ _).put _ _).put _ _).put _ _).put _ _).put _ _).put _ _).put _ _).put _ _).put _ _).put _ _).put _ _).put _ _) rfl _)) (Go.Proofs.enters_of Try.func23 (by kernel_rfl) rfl) (rhead_any w50 p (by omega)) ?_)
      rintro _ w55 ⟨rfl, hF54⟩
      refine ⟨_, rfl, ?_⟩
      have hsw55 := hF54.size
      have hF_56 := hF_51.new hF54
      have hps31_57 := hps31_52.fr0 hF54
      have hps37_58 := hps37_53.fr0 hF54
      refine V.go_on 32 (by kernel_rfl) (((at_other rfl _ (at_other rfl _ (at_other rfl _ (at_other rfl _ (at_same (((((((((((((((hz20.put _ _).put _ _).put _ _).put _ _).put _ _).put _ _).put _ _).put _ _).put _ _).put _ _).put _ _).put _ _).put _ _).put _ _).put _ _) rfl _)))) : Act.eval _ _ = (.bool (decide ((plainB p) = (plainB p)))))).trans (dt hg48)) (V.pvw [(34, .string (headS p)), (36, .string (headS p))] ⟨(at_other rfl _ (at_other rfl _ (at_same (((((((((((((((((hz20.put _ _).put _ _).put _ _).put _ _).put _ _).put _ _).put _ _).put _ _).put _ _).put _ _).put _ _).put _ _).put _ _).put _ _).put _ _).put _ _).put _ _) rfl _))), (at_same (((((((((((((((((((hz20.put _ _).put _ _).put _ _).put _ _).put _ _).put _ _).put _ _).put _ _).put _ _).put _ _).put _ _).put _ _).put _ _).put _ _).put _ _).put _ _).put _ _).put _ _).put _ _) rfl _), trivial⟩ (by kernel_rfl) (.bool (((headS p).toList == (headS p).toList))) (.bool (decide ((headS p) = (headS p)))) (by kernel_rfl) V.t_seql ?_)
      refine V.go (V.pk_t (((at_other rfl _ (at_other rfl _ (at_other rfl _ (at_other rfl _ (at_other rfl _ (at_same (((((((((((((((hz20.put _ _).put _ _).put _ _).put _ _).put _ _).put _ _).put _ _).put _ _).put _ _).put _ _).put _ _).put _ _).put _ _).put _ _).put _ _) rfl _))))) : Act.eval _ _ = (.bool (decide ((plainB p) = (plainB p)))))).trans (dt hg48)) (v := (.bool (decide ((headS p) = (headS p))))) (at_same ((((((((((((((((((((hz20.put _ _).put _ _).put _ _).put _ _).put _ _).put _ _).put _ _).put _ _).put _ _).put _ _).put _ _).put _ _).put _ _).put _ _).put _ _).put _ _).put _ _).put _ _).put _ _).put _ _) rfl _) ?_)
      refine V.go (V.mv (v := (.bool (decide ((headS p) = (headS p))))) (at_same (((((((((((((((((((((hz20.put _ _).put _ _).put _ _).put _ _).put _ _).put _ _).put _ _).put _ _).put _ _).put _ _).put _ _).put _ _).put _ _).put _ _).put _ _).put _ _).put _ _).put _ _).put _ _).put _ _).put _ _) rfl _) ?_)
      by_cases hg59 : (headS p) = (headS p)
      ·
        refine V.go_on 39 (by kernel_rfl) (((at_same ((((((((((((((((((((((hz20.put _ _).put _ _).put _ _).put _ _).put _ _).put _ _).put _ _).put _ _).put _ _).put _ _).put _ _).put _ _).put _ _).put _ _).put _ _).put _ _).put _ _).put _ _).put _ _).put _ _).put _ _).put _ _) rfl _ : Act.eval _ _ = (.bool (decide ((headS p) = (headS p)))))).trans (dt hg59)) (V.call 12 #[] #[] evf (args0) (Go.Proofs.enters_of Try.func12 (by kernel_rfl) rfl) (awake_any w55) ?_)
        rintro _ w61 ⟨rfl, hF60⟩
        refine ⟨_, rfl, ?_⟩
        have hsw61 := hF60.size
        have hF_62 := hF_56.new hF60
        have hps31_63 := hps31_57.fr0 hF60
        have hps37_64 := hps37_58.fr0 hF60
        refine V.go (V.pk_t (((at_other rfl _ (at_same ((((((((((((((((((((((hz20.put _ _).put _ _).put _ _).put _ _).put _ _).put _ _).put _ _).put _ _).put _ _).put _ _).put _ _).put _ _).put _ _).put _ _).put _ _).put _ _).put _ _).put _ _).put _ _).put _ _).put _ _).put _ _) rfl _) : Act.eval _ _ = (.bool (decide ((headS p) = (headS p)))))).trans (dt hg59)) (v := (.bool true)) (at_same (((((((((((((((((((((((hz20.put _ _).put _ _).put _ _).put _ _).put _ _).put _ _).put _ _).put _ _).put _ _).put _ _).put _ _).put _ _).put _ _).put _ _).put _ _).put _ _).put _ _).put _ _).put _ _).put _ _).put _ _).put _ _).put _ _) rfl _) ?_)
        refine V.flushL (((((((((((((((((((((((((hz20.put _ _).put _ _).put _ _).put _ _).put _ _).put _ _).put _ _).put _ _).put _ _).put _ _).put _ _).put _ _).put _ _).put _ _).put _ _).put _ _).put _ _).put _ _).put _ _).put _ _).put _ _).put _ _).put _ _).put _ _).put _ _) (fun a65 hz66 up67 => ?_)
        have s41_68 : a65.eval (.tmp 41) = (.bool true) := up67 _ _ (at_same ((((((((((((((((((((((((hz20.put _ _).put _ _).put _ _).put _ _).put _ _).put _ _).put _ _).put _ _).put _ _).put _ _).put _ _).put _ _).put _ _).put _ _).put _ _).put _ _).put _ _).put _ _).put _ _).put _ _).put _ _).put _ _).put _ _).put _ _) rfl _)
        clear up67
        refine V.go (V.asg (v := (.bool true)) (s41_68) ?_)
        refine V.nil ?_
        refine V.then_n (hK28 _ _ ?_)
        refine V.ret ?_
        refine V.ret1 (hz66.put _ _) rfl (at_same hz66 rfl _) ?_
        exact ⟨rfl, hF_62⟩
      ·
        refine V.go_off 39 (by kernel_rfl) (((at_same ((((((((((((((((((((((hz20.put _ _).put _ _).put _ _).put _ _).put _ _).put _ _).put _ _).put _ _).put _ _).put _ _).put _ _).put _ _).put _ _).put _ _).put _ _).put _ _).put _ _).put _ _).put _ _).put _ _).put _ _).put _ _) rfl _ : Act.eval _ _ = (.bool (decide ((headS p) = (headS p)))))).trans (df hg59)) (by kernel_rfl) ?_
        refine V.go (V.pk_f (((at_other rfl _ (at_same ((((((((((((((((((((((hz20.put _ _).put _ _).put _ _).put _ _).put _ _).put _ _).put _ _).put _ _).put _ _).put _ _).put _ _).put _ _).put _ _).put _ _).put _ _).put _ _).put _ _).put _ _).put _ _).put _ _).put _ _).put _ _) rfl _) : Act.eval _ _ = (.bool (decide ((headS p) = (headS p)))))).trans (df hg59)) (v := (.bool false)) evc ?_)
        refine V.flushL (((((((((((((((((((((((((hz20.put _ _).put _ _).put _ _).put _ _).put _ _).put _ _).put _ _).put _ _).put _ _).put _ _).put _ _).put _ _).put _ _).put _ _).put _ _).put _ _).put _ _).put _ _).put _ _).put _ _).put _ _).put _ _).put _ _).put _ _).put _ _) (fun a69 hz70 up71 => ?_)
        have s41_72 : a69.eval (.tmp 41) = (.bool false) := up71 _ _ (at_same ((((((((((((((((((((((((hz20.put _ _).put _ _).put _ _).put _ _).put _ _).put _ _).put _ _).put _ _).put _ _).put _ _).put _ _).put _ _).put _ _).put _ _).put _ _).put _ _).put _ _).put _ _).put _ _).put _ _).put _ _).put _ _).put _ _).put _ _) rfl _)
        clear up71
        refine V.go (V.asg (v := (.bool false)) (s41_72) ?_)
        refine V.nil ?_
        refine V.then_n (hK28 _ _ ?_)
        refine V.ret ?_
        refine V.ret1 (hz70.put _ _) rfl (at_same hz70 rfl _) ?_
        exact absurd rfl hg59
    ·
      refine V.go_off 32 (by kernel_rfl) (((at_same (((((((((((((((hz20.put _ _).put _ _).put _ _).put _ _).put _ _).put _ _).put _ _).put _ _).put _ _).put _ _).put _ _).put _ _).put _ _).put _ _).put _ _) rfl _ : Act.eval _ _ = (.bool (decide ((plainB p) = (plainB p)))))).trans (df hg48)) (by kernel_rfl) ?_
      refine V.go_off 32 (by kernel_rfl) (((at_other rfl _ (at_same (((((((((((((((hz20.put _ _).put _ _).put _ _).put _ _).put _ _).put _ _).put _ _).put _ _).put _ _).put _ _).put _ _).put _ _).put _ _).put _ _).put _ _) rfl _) : Act.eval _ _ = (.bool (decide ((plainB p) = (plainB p)))))).trans (df hg48)) (by kernel_rfl) ?_
      refine V.go_off 32 (by kernel_rfl) (((at_other rfl _ (at_other rfl _ (at_same (((((((((((((((hz20.put _ _).put _ _).put _ _).put _ _).put _ _).put _ _).put _ _).put _ _).put _ _).put _ _).put _ _).put _ _).put _ _).put _ _).put _ _) rfl _)) : Act.eval _ _ = (.bool (decide ((plainB p) = (plainB p)))))).trans (df hg48)) (by kernel_rfl) ?_
      refine V.go_off 32 (by kernel_rfl) (((at_other rfl _ (at_other rfl _ (at_other rfl _ (at_same (((((((((((((((hz20.put _ _).put _ _).put _ _).put _ _).put _ _).put _ _).put _ _).put _ _).put _ _).put _ _).put _ _).put _ _).put _ _).put _ _).put _ _) rfl _))) : Act.eval _ _ = (.bool (decide ((plainB p) = (plainB p)))))).trans (df hg48)) (by kernel_rfl) ?_
      refine V.go_off 32 (by kernel_rfl) (((at_other rfl _ (at_other rfl _ (at_other rfl _ (at_other rfl _ (at_same (((((((((((((((hz20.put _ _).put _ _).put _ _).put _ _).put _ _).put _ _).put _ _).put _ _).put _ _).put _ _).put _ _).put _ _).put _ _).put _ _).put _ _) rfl _)))) : Act.eval _ _ = (.bool (decide ((plainB p) = (plainB p)))))).trans (df hg48)) (by kernel_rfl) ?_
      refine V.go (V.pk_f (((at_other rfl _ (at_other rfl _ (at_other rfl _ (at_other rfl _ (at_other rfl _ (at_same (((((((((((((((hz20.put _ _).put _ _).put _ _).put _ _).put _ _).put _ _).put _ _).put _ _).put _ _).put _ _).put _ _).put _ _).put _ _).put _ _).put _ _) rfl _))))) : Act.eval _ _ = (.bool (decide ((plainB p) = (plainB p)))))).trans (df hg48)) (v := (.bool false)) evc ?_)
      refine V.go (V.mv (v := (.bool false)) (at_same (((((((((((((((((((((hz20.put _ _).put _ _).put _ _).put _ _).put _ _).put _ _).put _ _).put _ _).put _ _).put _ _).put _ _).put _ _).put _ _).put _ _).put _ _).put _ _).put _ _).put _ _).put _ _).put _ _).put _ _) rfl _) ?_)
      refine V.go_off 39 (by kernel_rfl) (at_same ((((((((((((((((((((((hz20.put _ _).put _ _).put _ _).put _ _).put _ _).put _ _).put _ _).put _ _).put _ _).put _ _).put _ _).put _ _).put _ _).put _ _).put _ _).put _ _).put _ _).put _ _).put _ _).put _ _).put _ _).put _ _) rfl _) (by kernel_rfl) ?_
      refine V.go (V.pk_f (at_other rfl _ (at_same ((((((((((((((((((((((hz20.put _ _).put _ _).put _ _).put _ _).put _ _).put _ _).put _ _).put _ _).put _ _).put _ _).put _ _).put _ _).put _ _).put _ _).put _ _).put _ _).put _ _).put _ _).put _ _).put _ _).put _ _).put _ _) rfl _)) (v := (.bool false)) evc ?_)
      refine V.flushL (((((((((((((((((((((((((hz20.put _ _).put _ _).put _ _).put _ _).put _ _).put _ _).put _ _).put _ _).put _ _).put _ _).put _ _).put _ _).put _ _).put _ _).put _ _).put _ _).put _ _).put _ _).put _ _).put _ _).put _ _).put _ _).put _ _).put _ _).put _ _) (fun a73 hz74 up75 => ?_)
      have s41_76 : a73.eval (.tmp 41) = (.bool false) := up75 _ _ (at_same ((((((((((((((((((((((((hz20.put _ _).put _ _).put _ _).put _ _).put _ _).put _ _).put _ _).put _ _).put _ _).put _ _).put _ _).put _ _).put _ _).put _ _).put _ _).put _ _).put _ _).put _ _).put _ _).put _ _).put _ _).put _ _).put _ _).put _ _) rfl _)
      clear up75
      refine V.go (V.asg (v := (.bool false)) (s41_76) ?_)
      refine V.nil ?_
      refine V.then_n (hK28 _ _ ?_)
      refine V.ret ?_
      refine V.ret1 (hz74.put _ _) rfl (at_same hz74 rfl _) ?_
      exact absurd rfl hg48
  ·
    refine V.go_off 27 (by kernel_rfl) (((at_same ((((((((((hz20.put _ _).put _ _).put _ _).put _ _).put _ _).put _ _).put _ _).put _ _).put _ _).put _ _) rfl _ : Act.eval _ _ = (.bool (decide ((plainS p) = (plainS p)))))).trans (df hg47)) (by kernel_rfl) ?_
    refine V.go_off 27 (by kernel_rfl) (((at_other rfl _ (at_same ((((((((((hz20.put _ _).put _ _).put _ _).put _ _).put _ _).put _ _).put _ _).put _ _).put _ _).put _ _) rfl _) : Act.eval _ _ = (.bool (decide ((plainS p) = (plainS p)))))).trans (df hg47)) (by kernel_rfl) ?_
    refine V.go_off 27 (by kernel_rfl) (((at_other rfl _ (at_other rfl _ (at_same ((((((((((hz20.put _ _).put _ _).put _ _).put _ _).put _ _).put _ _).put _ _).put _ _).put _ _).put _ _) rfl _)) : Act.eval _ _ = (.bool (decide ((plainS p) = (plainS p)))))).trans (df hg47)) (by kernel_rfl) ?_
    refine V.go (V.pk_f (((at_other rfl _ (at_other rfl _ (at_other rfl _ (at_same ((((((((((hz20.put _ _).put _ _).put _ _).put _ _).put _ _).put _ _).put _ _).put _ _).put _ _).put _ _) rfl _))) : Act.eval _ _ = (.bool (decide ((plainS p) = (plainS p)))))).trans (df hg47)) (v := (.bool false)) evc ?_)
    refine V.go (V.mv (v := (.bool false)) (at_same ((((((((((((((hz20.put _ _).put _ _).put _ _).put _ _).put _ _).put _ _).put _ _).put _ _).put _ _).put _ _).put _ _).put _ _).put _ _).put _ _) rfl _) ?_)
    refine V.go_off 32 (by kernel_rfl) (at_same (((((((((((((((hz20.put _ _).put _ _).put _ _).put _ _).put _ _).put _ _).put _ _).put _ _).put _ _).put _ _).put _ _).put _ _).put _ _).put _ _).put _ _) rfl _) (by kernel_rfl) ?_
    refine V.go_off 32 (by kernel_rfl) (at_other rfl _ (at_same (((((((((((((((hz20.put _ _).put _ _).put _ _).put _ _).put _ _).put _ _).put _ _).put _ _).put _ _).put _ _).put _ _).put _ _).put _ _).put _ _).put _ _) rfl _)) (by kernel_rfl) ?_
    refine V.go_off 32 (by kernel_rfl) (at_other rfl _ (at_other rfl _ (at_same (((((((((((((((hz20.put _ _).put _ _).put _ _).put _ _).put _ _).put _ _).put _ _).put _ _).put _ _).put _ _).put _ _).put _ _).put _ _).put _ _).put _ _) rfl _))) (by kernel_rfl) ?_
    refine V.go_off 32 (by kernel_rfl) (at_other rfl _ (at_other rfl _ (at_other rfl _ (at_same (((((((((((((((hz20.put _ _).put _ _).put _ _).put _ _).put _ _).put _ _).put _ _).put _ _).put _ _).put _ _).put _ _).put _ _).put _ _).put _ _).put _ _) rfl _)))) (by kernel_rfl) ?_
    refine V.go_off 32 (by kernel_rfl) (at_other rfl _ (at_other rfl _ (at_other rfl _ (at_other rfl _ (at_same (((((((((((((((hz20.put _ _).put _ _).put _ _).put _ _).put _ _).put _ _).put _ _).put _ _).put _ _).put _ _).put _ _).put _ _).put _ _).put _ _).put _ _) rfl _))))) (by kernel_rfl) ?_
    refine V.go (V.pk_f (at_other rfl _ (at_other rfl _ (at_other rfl _ (at_other rfl _ (at_other rfl _ (at_same (((((((((((((((hz20.put _ _).put _ _).put _ _).put _ _).put _ _).put _ _).put _ _).put _ _).put _ _).put _ _).put _ _).put _ _).put _ _).put _ _).put _ _) rfl _)))))) (v := (.bool false)) evc ?_)
    refine V.go (V.mv (v := (.bool false)) (at_same (((((((((((((((((((((hz20.put _ _).put _ _).put _ _).put _ _).put _ _).put _ _).put _ _).put _ _).put _ _).put _ _).put _ _).put _ _).put _ _).put _ _).put _ _).put _ _).put _ _).put _ _).put _ _).put _ _).put _ _) rfl _) ?_)
    refine V.go_off 39 (by kernel_rfl) (at_same ((((((((((((((((((((((hz20.put _ _).put _ _).put _ _).put _ _).put _ _).put _ _).put _ _).put _ _).put _ _).put _ _).put _ _).put _ _).put _ _).put _ _).put _ _).put _ _).put _ _).put _ _).put _ _).put _ _).put _ _).put _ _) rfl _) (by kernel_rfl) ?_
    refine V.go (V.pk_f (at_other rfl _ (at_same ((((((((((((((((((((((hz20.put _ _).put _ _).put _ _).put _ _).put _ _).put _ _).put _ _).put _ _).put _ _).put _ _).put _ _).put _ _).put _ _).put _ _).put _ _).put _ _).put _ _).put _ _).put _ _).put _ _).put _ _).put _ _) rfl _)) (v := (.bool false)) evc ?_)
    refine V.flushL (((((((((((((((((((((((((hz20.put _ _).put _ _).put _ _).put _ _).put _ _).put _ _).put _ _).put _ _).put _ _).put _ _).put _ _).put _ _).put _ _).put _ _).put _ _).put _ _).put _ _).put _ _).put _ _).put _ _).put _ _).put _ _).put _ _).put _ _).put _ _) (fun a77 hz78 up79 => ?_)
    have s41_80 : a77.eval (.tmp 41) = (.bool false) := up79 _ _ (at_same ((((((((((((((((((((((((hz20.put _ _).put _ _).put _ _).put _ _).put _ _).put _ _).put _ _).put _ _).put _ _).put _ _).put _ _).put _ _).put _ _).put _ _).put _ _).put _ _).put _ _).put _ _).put _ _).put _ _).put _ _).put _ _).put _ _).put _ _) rfl _)
    clear up79
    refine V.go (V.asg (v := (.bool false)) (s41_80) ?_)
    refine V.nil ?_
    refine V.then_n (hK28 _ _ ?_)
    refine V.ret ?_
    refine V.ret1 (hz78.put _ _) rfl (at_same hz78 rfl _) ?_
    exact absurd rfl hg47
end Go.Proofs.Ytmlohijidjbbjaa
