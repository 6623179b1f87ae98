/- Walks: cut, awake, GlobMatches. -/
import Derived.Test.YtmlohijidjbbjaaProg
import Derived.Test.YtmlohijidjbbjaaWk
import Derived.Test.YtmlohijidjbbjaaWg
import Derived.Test.YtmlohijidjbbjaaAw
namespace Go.Proofs.Ytmlohijidjbbjaa
open Go.V Go.Base
attribute [local irreducible] Act.put Act.eval
set_option linter.unusedVariables false
set_option linter.unusedSimpArgs false
/-- What the laws look at: at most 500 bytes. -/
def cutS (s : ByteArray) : ByteArray := if s.size > 500 then s.extract 0 500 else s
theorem cutS_le (s : ByteArray) : (cutS s).size ≤ 500 := by
  unfold cutS; split
  · rw [ByteArray.size_extract]; omega
  · omega
set_option maxHeartbeats 4000000 in
set_option maxRecDepth 20000 in
theorem cut_any (w : World) (s : ByteArray) : Calls Try.prog 9 #[.string s] w (fun e w' => e = .returned (.string (cutS s)) ∧ Fr [] w w') := by
  have hF := Fr.refl [] w
  refine V.enter 9 Try.func9 rfl rfl ?_
  intro a hz ha
  have s0 : a.eval (.tmp 0) = (.string s) := ha 0 _ rfl
  clear ha
  refine V.seq (fun K1 hK2 => ?_)
  refine V.region (by kernel_rfl) ?_
  refine V.go (V.asg (v := (.string ⟨#[]⟩)) evc ?_)
  refine V.nil ?_
  refine V.then_n (hK2 _ _ ?_)
  refine V.seq (fun K3 hK4 => ?_)
  refine V.seq (fun K5 hK6 => ?_)
  refine V.region (by kernel_rfl) ?_
  refine V.go (V.mv (v := (.string s)) (at_other rfl _ (s0)) ?_)
  refine V.go (V.pv [(3, .string s)] ⟨(at_same (hz.put _ _) rfl _), trivial⟩ (by kernel_rfl) (.int .i64 (s.size : Int)) (by kernel_rfl) ?_)
  refine V.go (V.pv [(4, .int .i64 (s.size : Int))] ⟨(at_same ((hz.put _ _).put _ _) rfl _), trivial⟩ (by kernel_rfl) (.bool (decide ((s.size : Int) > 500))) (by kernel_rfl) ?_)
  refine V.nil ?_
  refine V.then_n (hK6 _ _ ?_)
  refine V.flushW ((((hz.put _ _).put _ _).put _ _).put _ _) (fun a7 hz8 up9 => ?_)
  have s0_10 : a7.eval (.tmp 0) = (.string s) := up9 _ _ (at_other rfl _ (at_other rfl _ (at_other rfl _ (at_other rfl _ (s0)))))
  have s5_11 : a7.eval (.tmp 5) = (.bool (decide ((s.size : Int) > 500))) := up9 _ _ (at_same (((hz.put _ _).put _ _).put _ _) rfl _)
  clear up9
  refine V.condP (p := (s.size : Int) > 500) (s5_11) (fun ht12 => ?_) (fun ht12 => ?_)
  ·
    refine V.seq (fun K13 hK14 => ?_)
    refine V.region (by kernel_rfl) ?_
    refine V.go (V.mv (v := (.string s)) (s0_10) ?_)
    refine V.go (V.sls s 0 500 (at_same hz8 rfl _) rfl ⟨_, evc⟩ (by omega) (by omega) (by omega) (by kernel_rfl) ?_)
    refine V.go (V.asg (v := (.string (s.extract (0 : Int).toNat (500 : Int).toNat))) (at_same (hz8.put _ _) rfl _) ?_)
    refine V.nil ?_
    refine V.then_n (hK14 _ _ ?_)
    refine V.ret ?_
    refine V.then_r ?_
    refine V.ret1 (((hz8.put _ _).put _ _).put _ _) rfl (at_same ((hz8.put _ _).put _ _) rfl _) ?_
    refine ⟨congrArg Ending.returned (congrArg Value.string ?_), hF⟩
    unfold cutS; rw [if_pos (by omega)]; rfl
  ·
    refine V.skip ?_
    refine V.then_n (hK4 _ _ ?_)
    refine V.seq (fun K15 hK16 => ?_)
    refine V.region (by kernel_rfl) ?_
    refine V.go (V.mv (v := (.string s)) (s0_10) ?_)
    refine V.go (V.asg (v := (.string s)) (at_same hz8 rfl _) ?_)
    refine V.nil ?_
    refine V.then_n (hK16 _ _ ?_)
    refine V.ret ?_
    refine V.ret1 ((hz8.put _ _).put _ _) rfl (at_same (hz8.put _ _) rfl _) ?_
    refine ⟨congrArg Ending.returned (congrArg Value.string ?_), hF⟩
    unfold cutS; rw [if_neg (by omega)]
set_option maxHeartbeats 4000000 in
set_option maxRecDepth 20000 in
theorem awake_any (w : World)  : Calls Try.prog 12 #[] w (fun e w' => e = .returned (.bool true) ∧ Fr [] w w') := by
  have hF := Fr.refl [] w
  refine V.enter 14 Try.func12 rfl rfl ?_
  intro a hz ha
  clear ha
  refine V.seq (fun K1 hK2 => ?_)
  refine V.region (by kernel_rfl) ?_
  refine V.go (V.asg (v := (.bool false)) evc ?_)
  refine V.nil ?_
  refine V.then_n (hK2 _ _ ?_)
  refine V.seq (fun K3 hK4 => ?_)
  refine V.region (by kernel_rfl) ?_
  refine V.go (V.call 10 #[] #[.string ⟨#[104, 91, 94, 101, 93, 63, 108, 111, 42]⟩, .string ⟨#[104, 97, 108, 108, 111]⟩, .bool false] evf (args3 evc evc evc) (Go.Proofs.enters_of Try.func10 (by kernel_rfl) rfl) ((by have h := match_any w ⟨#[104, 91, 94, 101, 93, 63, 108, 111, 42]⟩ ⟨#[104, 97, 108, 108, 111]⟩ false; rw [aw1] at h; exact h)) ?_)
  rintro _ w6 ⟨rfl, hF5⟩
  refine ⟨_, rfl, ?_⟩
  have hsw6 := hF5.size
  have hF_7 := hF.new hF5
  refine V.go (V.mv (v := (.bool true)) (at_same (hz.put _ _) rfl _) ?_)
  refine V.go_on 2 (by kernel_rfl) (at_same ((hz.put _ _).put _ _) rfl _) (V.call 10 #[] #[.string ⟨#[104, 91, 94, 101, 93, 63, 108, 111, 42]⟩, .string ⟨#[104, 101, 108, 108, 111]⟩, .bool false] evf (args3 evc evc evc) (Go.Proofs.enters_of Try.func10 (by kernel_rfl) rfl) ((by have h := match_any w6 ⟨#[104, 91, 94, 101, 93, 63, 108, 111, 42]⟩ ⟨#[104, 101, 108, 108, 111]⟩ false; rw [aw2] at h; exact h)) ?_)
  rintro _ w9 ⟨rfl, hF8⟩
  refine ⟨_, rfl, ?_⟩
  have hsw9 := hF8.size
  have hF_10 := hF_7.new hF8
  refine V.go_on 2 (by kernel_rfl) (at_other rfl _ (at_same ((hz.put _ _).put _ _) rfl _)) (V.pv [(3, .bool false)] ⟨(at_same (((hz.put _ _).put _ _).put _ _) rfl _), trivial⟩ (by kernel_rfl) (.bool true) (by kernel_rfl) ?_)
  refine V.go (V.pk_t (at_other rfl _ (at_other rfl _ (at_same ((hz.put _ _).put _ _) rfl _))) (v := (.bool true)) (at_same ((((hz.put _ _).put _ _).put _ _).put _ _) rfl _) ?_)
  refine V.go (V.mv (v := (.bool true)) (at_same (((((hz.put _ _).put _ _).put _ _).put _ _).put _ _) rfl _) ?_)
  refine V.go_on 6 (by kernel_rfl) (at_same ((((((hz.put _ _).put _ _).put _ _).put _ _).put _ _).put _ _) rfl _) (V.call 10 #[] #[.string ⟨#[72, 63, 76, 76, 79]⟩, .string ⟨#[104, 101, 108, 108, 111]⟩, .bool true] evf (args3 evc evc evc) (Go.Proofs.enters_of Try.func10 (by kernel_rfl) rfl) ((by have h := match_any w9 ⟨#[72, 63, 76, 76, 79]⟩ ⟨#[104, 101, 108, 108, 111]⟩ true; rw [aw3] at h; exact h)) ?_)
  rintro _ w12 ⟨rfl, hF11⟩
  refine ⟨_, rfl, ?_⟩
  have hsw12 := hF11.size
  have hF_13 := hF_10.new hF11
  refine V.go (V.pk_t (at_other rfl _ (at_same ((((((hz.put _ _).put _ _).put _ _).put _ _).put _ _).put _ _) rfl _)) (v := (.bool true)) (at_same (((((((hz.put _ _).put _ _).put _ _).put _ _).put _ _).put _ _).put _ _) rfl _) ?_)
  refine V.go (V.mv (v := (.bool true)) (at_same ((((((((hz.put _ _).put _ _).put _ _).put _ _).put _ _).put _ _).put _ _).put _ _) rfl _) ?_)
  refine V.go_on 9 (by kernel_rfl) (at_same (((((((((hz.put _ _).put _ _).put _ _).put _ _).put _ _).put _ _).put _ _).put _ _).put _ _) rfl _) (V.call 21 #[] #[.string ⟨#[97, 42, 91, 98, 45, 99, 93]⟩] evf (args1 evc) (Go.Proofs.enters_of Try.func21 (by kernel_rfl) rfl) ((by have h := parse_any w12 ⟨#[97, 42, 91, 98, 45, 99, 93]⟩ (by decide); rw [aw4] at h; exact h)) ?_)
  rintro _ w18 ⟨A14, c15, rfl, hps16, hF17⟩
  refine ⟨_, rfl, ?_⟩
  have hsw18 := hF17.size
  have hF_19 := hF_13.new hF17
  refine V.go_on 9 (by kernel_rfl) (at_other rfl _ (at_same (((((((((hz.put _ _).put _ _).put _ _).put _ _).put _ _).put _ _).put _ _).put _ _).put _ _) rfl _)) (V.pv [(10, .slice A14 3 c15)] ⟨(at_same ((((((((((hz.put _ _).put _ _).put _ _).put _ _).put _ _).put _ _).put _ _).put _ _).put _ _).put _ _) rfl _), trivial⟩ (by kernel_rfl) (.int .i64 3) (by kernel_rfl) ?_)
  refine V.go_on 9 (by kernel_rfl) (at_other rfl _ (at_other rfl _ (at_same (((((((((hz.put _ _).put _ _).put _ _).put _ _).put _ _).put _ _).put _ _).put _ _).put _ _) rfl _))) (V.pvw [(11, .int .i64 3)] ⟨(at_same (((((((((((hz.put _ _).put _ _).put _ _).put _ _).put _ _).put _ _).put _ _).put _ _).put _ _).put _ _).put _ _) rfl _), trivial⟩ (by kernel_rfl) (.bool (3 == 3)) (.bool (decide (3 = 3))) (by kernel_rfl) V.t_eql ?_)
  refine V.go (V.pk_t (at_other rfl _ (at_other rfl _ (at_other rfl _ (at_same (((((((((hz.put _ _).put _ _).put _ _).put _ _).put _ _).put _ _).put _ _).put _ _).put _ _) rfl _)))) (v := (.bool (decide (3 = 3)))) (at_same ((((((((((((hz.put _ _).put _ _).put _ _).put _ _).put _ _).put _ _).put _ _).put _ _).put _ _).put _ _).put _ _).put _ _) rfl _) ?_)
  refine V.go (V.asg (v := (.bool (decide (3 = 3)))) (at_same (((((((((((((hz.put _ _).put _ _).put _ _).put _ _).put _ _).put _ _).put _ _).put _ _).put _ _).put _ _).put _ _).put _ _).put _ _) rfl _) ?_)
  refine V.nil ?_
  refine V.then_n (hK4 _ _ ?_)
  refine V.flushW (((((((((((((((hz.put _ _).put _ _).put _ _).put _ _).put _ _).put _ _).put _ _).put _ _).put _ _).put _ _).put _ _).put _ _).put _ _).put _ _).put _ _) (fun a20 hz21 up22 => ?_)
  have s0_23 : a20.eval (.tmp 0) = (.bool (decide (3 = 3))) := up22 _ _ (at_same ((((((((((((((hz.put _ _).put _ _).put _ _).put _ _).put _ _).put _ _).put _ _).put _ _).put _ _).put _ _).put _ _).put _ _).put _ _).put _ _) rfl _)
  clear up22
  refine V.ret ?_
  refine V.ret1 hz21 rfl (s0_23) ?_
  exact ⟨rfl, hF_19⟩
set_option maxHeartbeats 4000000 in
set_option maxRecDepth 20000 in
theorem globMatches_any (w : World) (p s : ByteArray) (fold : Bool) : Calls Try.prog 3 #[.string p, .string s, .bool fold] w (fun e w' => e = .returned (.bool true) ∧ Fr [] w w') := by
  have hF := Fr.refl [] w
  refine V.enter 31 Try.func3 rfl rfl ?_
  intro a hz ha
  have s0 : a.eval (.tmp 0) = (.string p) := ha 0 _ rfl
  have s1 : a.eval (.tmp 1) = (.string s) := ha 1 _ rfl
  have s2 : a.eval (.tmp 2) = (.bool fold) := ha 2 _ rfl
  clear ha
  refine V.seq (fun K1 hK2 => ?_)
  refine V.region (by kernel_rfl) ?_
  refine V.go (V.asg (v := (.bool false)) evc ?_)
  refine V.nil ?_
  refine V.then_n (hK2 _ _ ?_)
  refine V.seq (fun K3 hK4 => ?_)
  refine V.seq (fun K5 hK6 => ?_)
  refine V.region (by kernel_rfl) ?_
  refine V.go (V.mv (v := (.string p)) (at_other rfl _ (s0)) ?_)
  refine V.go (V.pv [(7, .string p)] ⟨(at_same (hz.put _ _) rfl _), trivial⟩ (by kernel_rfl) (.int .i64 (p.size : Int)) (by kernel_rfl) ?_)
  refine V.go (V.pv [(8, .int .i64 (p.size : Int))] ⟨(at_same ((hz.put _ _).put _ _) rfl _), trivial⟩ (by kernel_rfl) (.bool (decide ((p.size : Int) ≤ 65536))) (by kernel_rfl) ?_)
  refine V.go (V.mv (v := (.bool (decide ((p.size : Int) ≤ 65536)))) (at_same (((hz.put _ _).put _ _).put _ _) rfl _) ?_)
  by_cases hg7 : (p.size : Int) ≤ 65536
  ·
    refine V.go_on 10 (by kernel_rfl) (((at_same ((((hz.put _ _).put _ _).put _ _).put _ _) rfl _ : Act.eval _ _ = (.bool (decide ((p.size : Int) ≤ 65536))))).trans (dt hg7)) (V.mv (v := (.string s)) (at_other rfl _ (at_other rfl _ (at_other rfl _ (at_other rfl _ (at_other rfl _ (s1)))))) ?_)
    refine V.go_on 10 (by kernel_rfl) (((at_other rfl _ (at_same ((((hz.put _ _).put _ _).put _ _).put _ _) rfl _) : Act.eval _ _ = (.bool (decide ((p.size : Int) ≤ 65536))))).trans (dt hg7)) (V.pv [(11, .string s)] ⟨(at_same (((((hz.put _ _).put _ _).put _ _).put _ _).put _ _) rfl _), trivial⟩ (by kernel_rfl) (.int .i64 (s.size : Int)) (by kernel_rfl) ?_)
    refine V.go_on 10 (by kernel_rfl) (((at_other rfl _ (at_other rfl _ (at_same ((((hz.put _ _).put _ _).put _ _).put _ _) rfl _)) : Act.eval _ _ = (.bool (decide ((p.size : Int) ≤ 65536))))).trans (dt hg7)) (V.pv [(12, .int .i64 (s.size : Int))] ⟨(at_same ((((((hz.put _ _).put _ _).put _ _).put _ _).put _ _).put _ _) rfl _), trivial⟩ (by kernel_rfl) (.bool (decide ((s.size : Int) ≤ 65536))) (by kernel_rfl) ?_)
    refine V.go (V.pk_t (((at_other rfl _ (at_other rfl _ (at_other rfl _ (at_same ((((hz.put _ _).put _ _).put _ _).put _ _) rfl _))) : Act.eval _ _ = (.bool (decide ((p.size : Int) ≤ 65536))))).trans (dt hg7)) (v := (.bool (decide ((s.size : Int) ≤ 65536)))) (at_same (((((((hz.put _ _).put _ _).put _ _).put _ _).put _ _).put _ _).put _ _) rfl _) ?_)
    refine V.nil ?_
    refine V.then_n (hK6 _ _ ?_)
    refine V.flushW (((((((((hz.put _ _).put _ _).put _ _).put _ _).put _ _).put _ _).put _ _).put _ _).put _ _) (fun a8 hz9 up10 => ?_)
    have s0_11 : a8.eval (.tmp 0) = (.string p) := up10 _ _ (at_other rfl _ (at_other rfl _ (at_other rfl _ (at_other rfl _ (at_other rfl _ (at_other rfl _ (at_other rfl _ (at_other rfl _ (at_other rfl _ (s0))))))))))
    have s1_12 : a8.eval (.tmp 1) = (.string s) := up10 _ _ (at_other rfl _ (at_other rfl _ (at_other rfl _ (at_other rfl _ (at_other rfl _ (at_other rfl _ (at_other rfl _ (at_other rfl _ (at_other rfl _ (s1))))))))))
    have s2_13 : a8.eval (.tmp 2) = (.bool fold) := up10 _ _ (at_other rfl _ (at_other rfl _ (at_other rfl _ (at_other rfl _ (at_other rfl _ (at_other rfl _ (at_other rfl _ (at_other rfl _ (at_other rfl _ (s2))))))))))
    have s14_14 : a8.eval (.tmp 14) = (.bool (decide ((s.size : Int) ≤ 65536))) := up10 _ _ (at_same ((((((((hz.put _ _).put _ _).put _ _).put _ _).put _ _).put _ _).put _ _).put _ _) rfl _)
    clear up10
    refine V.condP (p := (s.size : Int) ≤ 65536) (s14_14) (fun ht15 => ?_) (fun ht15 => ?_)
    ·
      refine V.region (by kernel_rfl) ?_
      refine V.go (V.mv (v := (.string p)) (s0_11) ?_)
      refine V.go (V.call 9 #[] #[.string p] evf (args1 (at_same hz9 rfl _)) (Go.Proofs.enters_of Try.func9 (by kernel_rfl) rfl) (cut_any w p) ?_)
      rintro _ w17 ⟨rfl, hF16⟩
      refine ⟨_, rfl, ?_⟩
      have hsw17 := hF16.size
      have hF_18 := hF.new hF16
      have hcut16 := cutS_le p
      refine V.go (V.mv (v := (.string s)) (at_other rfl _ (at_other rfl _ (s1_12))) ?_)
      refine V.go (V.call 9 #[] #[.string s] evf (args1 (at_same ((hz9.put _ _).put _ _) rfl _)) (Go.Proofs.enters_of Try.func9 (by kernel_rfl) rfl) (cut_any w17 s) ?_)
      rintro _ w20 ⟨rfl, hF19⟩
      refine ⟨_, rfl, ?_⟩
      have hsw20 := hF19.size
      have hF_21 := hF_18.new hF19
      have hcut19 := cutS_le s
      refine V.go (V.asg (v := (.string (cutS p))) (at_other rfl _ (at_other rfl _ (at_same (hz9.put _ _) rfl _))) ?_)
      refine V.go (V.asg (v := (.string (cutS s))) (at_other rfl _ (at_same (((hz9.put _ _).put _ _).put _ _) rfl _)) ?_)
      refine V.nil ?_
      refine V.then_n (hK4 _ _ ?_)
      refine V.flushW ((((((hz9.put _ _).put _ _).put _ _).put _ _).put _ _).put _ _) (fun a22 hz23 up24 => ?_)
      have s0_25 : a22.eval (.tmp 0) = (.string (cutS p)) := up24 _ _ (at_other rfl _ (at_same ((((hz9.put _ _).put _ _).put _ _).put _ _) rfl _))
      have s1_26 : a22.eval (.tmp 1) = (.string (cutS s)) := up24 _ _ (at_same (((((hz9.put _ _).put _ _).put _ _).put _ _).put _ _) rfl _)
      have s2_27 : a22.eval (.tmp 2) = (.bool fold) := up24 _ _ (at_other rfl _ (at_other rfl _ (at_other rfl _ (at_other rfl _ (at_other rfl _ (at_other rfl _ (s2_13)))))))
      clear up24
      refine V.seq (fun K28 hK29 => ?_)
      refine V.region (by kernel_rfl) ?_
      refine V.go (V.mv (v := (.string (cutS p))) (s0_25) ?_)
      refine V.go (V.mv (v := (.string (cutS s))) (at_other rfl _ (s1_26)) ?_)
      refine V.go (V.mv (v := (.bool fold)) (at_other rfl _ (at_other rfl _ (s2_27))) ?_)
      refine V.go (V.call 10 #[] #[.string (cutS p), .string (cutS s), .bool fold] evf (args3 (at_other rfl _ (at_other rfl _ (at_same hz23 rfl _))) (at_other rfl _ (at_same (hz23.put _ _) rfl _)) (at_same ((hz23.put _ _).put _ _) rfl _)) (Go.Proofs.enters_of Try.func10 (by kernel_rfl) rfl) (match_any w20 (cutS p) (cutS s) fold) ?_)
      rintro _ w31 ⟨rfl, hF30⟩
      refine ⟨_, rfl, ?_⟩
      have hsw31 := hF30.size
      have hF_32 := hF_21.new hF30
      refine V.go (V.mv (v := (.string (cutS p))) (at_other rfl _ (at_other rfl _ (at_other rfl _ (at_other rfl _ (s0_25))))) ?_)
      refine V.go (V.mv (v := (.string (cutS s))) (at_other rfl _ (at_other rfl _ (at_other rfl _ (at_other rfl _ (at_other rfl _ (s1_26)))))) ?_)
      refine V.go (V.mv (v := (.bool fold)) (at_other rfl _ (at_other rfl _ (at_other rfl _ (at_other rfl _ (at_other rfl _ (at_other rfl _ (s2_27))))))) ?_)
      refine V.go (V.call 11 #[] #[.string (cutS p), .string (cutS s), .bool fold] evf (args3 (at_other rfl _ (at_other rfl _ (at_same ((((hz23.put _ _).put _ _).put _ _).put _ _) rfl _))) (at_other rfl _ (at_same (((((hz23.put _ _).put _ _).put _ _).put _ _).put _ _) rfl _)) (at_same ((((((hz23.put _ _).put _ _).put _ _).put _ _).put _ _).put _ _) rfl _)) (Go.Proofs.enters_of Try.func11 (by kernel_rfl) rfl) (rmatch_any w31 (cutS p) (cutS s) fold) ?_)
      rintro _ w34 ⟨rfl, hF33⟩
      refine ⟨_, rfl, ?_⟩
      have hsw34 := hF33.size
      have hF_35 := hF_32.new hF33
      refine V.go (V.pvw [(22, .bool (rmat (cutS p) (cutS s) fold)), (26, .bool (rmat (cutS p) (cutS s) fold))] ⟨(at_other rfl _ (at_other rfl _ (at_other rfl _ (at_other rfl _ (at_same (((hz23.put _ _).put _ _).put _ _) rfl _))))), (at_same (((((((hz23.put _ _).put _ _).put _ _).put _ _).put _ _).put _ _).put _ _) rfl _), trivial⟩ (by kernel_rfl) (.bool ((rmat (cutS p) (cutS s) fold) == (rmat (cutS p) (cutS s) fold))) (.bool (decide ((rmat (cutS p) (cutS s) fold) = (rmat (cutS p) (cutS s) fold)))) (by kernel_rfl) V.t_beql ?_)
      refine V.go (V.mv (v := (.bool (decide ((rmat (cutS p) (cutS s) fold) = (rmat (cutS p) (cutS s) fold))))) (at_same ((((((((hz23.put _ _).put _ _).put _ _).put _ _).put _ _).put _ _).put _ _).put _ _) rfl _) ?_)
      by_cases hg36 : (rmat (cutS p) (cutS s) fold) = (rmat (cutS p) (cutS s) fold)
      ·
        refine V.go_on 28 (by kernel_rfl) (((at_same (((((((((hz23.put _ _).put _ _).put _ _).put _ _).put _ _).put _ _).put _ _).put _ _).put _ _) rfl _ : Act.eval _ _ = (.bool (decide ((rmat (cutS p) (cutS s) fold) = (rmat (cutS p) (cutS s) fold)))))).trans (dt hg36)) (V.call 12 #[] #[] evf (args0) (Go.Proofs.enters_of Try.func12 (by kernel_rfl) rfl) (awake_any w34) ?_)
        rintro _ w38 ⟨rfl, hF37⟩
        refine ⟨_, rfl, ?_⟩
        have hsw38 := hF37.size
        have hF_39 := hF_35.new hF37
        refine V.go (V.pk_t (((at_other rfl _ (at_same (((((((((hz23.put _ _).put _ _).put _ _).put _ _).put _ _).put _ _).put _ _).put _ _).put _ _) rfl _) : Act.eval _ _ = (.bool (decide ((rmat (cutS p) (cutS s) fold) = (rmat (cutS p) (cutS s) fold)))))).trans (dt hg36)) (v := (.bool true)) (at_same ((((((((((hz23.put _ _).put _ _).put _ _).put _ _).put _ _).put _ _).put _ _).put _ _).put _ _).put _ _) rfl _) ?_)
        refine V.go (V.asg (v := (.bool true)) (at_same (((((((((((hz23.put _ _).put _ _).put _ _).put _ _).put _ _).put _ _).put _ _).put _ _).put _ _).put _ _).put _ _) rfl _) ?_)
        refine V.nil ?_
        refine V.then_n (hK29 _ _ ?_)
        refine V.flushW (((((((((((((hz23.put _ _).put _ _).put _ _).put _ _).put _ _).put _ _).put _ _).put _ _).put _ _).put _ _).put _ _).put _ _).put _ _) (fun a40 hz41 up42 => ?_)
        have s6_43 : a40.eval (.tmp 6) = (.bool true) := up42 _ _ (at_same ((((((((((((hz23.put _ _).put _ _).put _ _).put _ _).put _ _).put _ _).put _ _).put _ _).put _ _).put _ _).put _ _).put _ _) rfl _)
        clear up42
        refine V.ret ?_
        refine V.ret1 hz41 rfl (s6_43) ?_
        exact ⟨rfl, hF_39⟩
      ·
        refine V.go_off 28 (by kernel_rfl) (((at_same (((((((((hz23.put _ _).put _ _).put _ _).put _ _).put _ _).put _ _).put _ _).put _ _).put _ _) rfl _ : Act.eval _ _ = (.bool (decide ((rmat (cutS p) (cutS s) fold) = (rmat (cutS p) (cutS s) fold)))))).trans (df hg36)) (by kernel_rfl) ?_
        refine V.go (V.pk_f (((at_other rfl _ (at_same (((((((((hz23.put _ _).put _ _).put _ _).put _ _).put _ _).put _ _).put _ _).put _ _).put _ _) rfl _) : Act.eval _ _ = (.bool (decide ((rmat (cutS p) (cutS s) fold) = (rmat (cutS p) (cutS s) fold)))))).trans (df hg36)) (v := (.bool false)) evc ?_)
        refine V.go (V.asg (v := (.bool false)) (at_same (((((((((((hz23.put _ _).put _ _).put _ _).put _ _).put _ _).put _ _).put _ _).put _ _).put _ _).put _ _).put _ _) rfl _) ?_)
        refine V.nil ?_
        refine V.then_n (hK29 _ _ ?_)
        refine V.flushW (((((((((((((hz23.put _ _).put _ _).put _ _).put _ _).put _ _).put _ _).put _ _).put _ _).put _ _).put _ _).put _ _).put _ _).put _ _) (fun a44 hz45 up46 => ?_)
        have s6_47 : a44.eval (.tmp 6) = (.bool false) := up46 _ _ (at_same ((((((((((((hz23.put _ _).put _ _).put _ _).put _ _).put _ _).put _ _).put _ _).put _ _).put _ _).put _ _).put _ _).put _ _) rfl _)
        clear up46
        refine V.ret ?_
        refine V.ret1 hz45 rfl (s6_47) ?_
        exact absurd rfl hg36
    ·
      refine V.skip ?_
      refine V.then_n (hK4 _ _ ?_)
      refine V.seq (fun K48 hK49 => ?_)
      refine V.region (by kernel_rfl) ?_
      refine V.go (V.mv (v := (.string p)) (s0_11) ?_)
      refine V.go (V.mv (v := (.string s)) (at_other rfl _ (s1_12)) ?_)
      refine V.go (V.mv (v := (.bool fold)) (at_other rfl _ (at_other rfl _ (s2_13))) ?_)
      refine V.go (V.call 10 #[] #[.string p, .string s, .bool fold] evf (args3 (at_other rfl _ (at_other rfl _ (at_same hz9 rfl _))) (at_other rfl _ (at_same (hz9.put _ _) rfl _)) (at_same ((hz9.put _ _).put _ _) rfl _)) (Go.Proofs.enters_of Try.func10 (by kernel_rfl) rfl) (match_any w p s fold) ?_)
      rintro _ w51 ⟨rfl, hF50⟩
      refine ⟨_, rfl, ?_⟩
      have hsw51 := hF50.size
      have hF_52 := hF.new hF50
      refine V.go (V.mv (v := (.string p)) (at_other rfl _ (at_other rfl _ (at_other rfl _ (at_other rfl _ (s0_11))))) ?_)
      refine V.go (V.mv (v := (.string s)) (at_other rfl _ (at_other rfl _ (at_other rfl _ (at_other rfl _ (at_other rfl _ (s1_12)))))) ?_)
      refine V.go (V.mv (v := (.bool fold)) (at_other rfl _ (at_other rfl _ (at_other rfl _ (at_other rfl _ (at_other rfl _ (at_other rfl _ (s2_13))))))) ?_)
      refine V.go (V.call 11 #[] #[.string p, .string s, .bool fold] evf (args3 (at_other rfl _ (at_other rfl _ (at_same ((((hz9.put _ _).put _ _).put _ _).put _ _) rfl _))) (at_other rfl _ (at_same (((((hz9.put _ _).put _ _).put _ _).put _ _).put _ _) rfl _)) (at_same ((((((hz9.put _ _).put _ _).put _ _).put _ _).put _ _).put _ _) rfl _)) (Go.Proofs.enters_of Try.func11 (by kernel_rfl) rfl) (rmatch_any w51 p s fold) ?_)
      rintro _ w54 ⟨rfl, hF53⟩
      refine ⟨_, rfl, ?_⟩
      have hsw54 := hF53.size
      have hF_55 := hF_52.new hF53
      refine V.go (V.pvw [(22, .bool (rmat p s fold)), (26, .bool (rmat p s fold))] ⟨(at_other rfl _ (at_other rfl _ (at_other rfl _ (at_other rfl _ (at_same (((hz9.put _ _).put _ _).put _ _) rfl _))))), (at_same (((((((hz9.put _ _).put _ _).put _ _).put _ _).put _ _).put _ _).put _ _) rfl _), trivial⟩ (by kernel_rfl) (.bool ((rmat p s fold) == (rmat p s fold))) (.bool (decide ((rmat p s fold) = (rmat p s fold)))) (by kernel_rfl) V.t_beql ?_)
      refine V.go (V.mv (v := (.bool (decide ((rmat p s fold) = (rmat p s fold))))) (at_same ((((((((hz9.put _ _).put _ _).put _ _).put _ _).put _ _).put _ _).put _ _).put _ _) rfl _) ?_)
      by_cases hg56 : (rmat p s fold) = (rmat p s fold)
      ·
        refine V.go_on 28 (by kernel_rfl) (((at_same (((((((((hz9.put _ _).put _ _).put _ _).put _ _).put _ _).put _ _).put _ _).put _ _).put _ _) rfl _ : Act.eval _ _ = (.bool (decide ((rmat p s fold) = (rmat p s fold)))))).trans (dt hg56)) (V.call 12 #[] #[] evf (args0) (Go.Proofs.enters_of Try.func12 (by kernel_rfl) rfl) (awake_any w54) ?_)
        rintro _ w58 ⟨rfl, hF57⟩
        refine ⟨_, rfl, ?_⟩
        have hsw58 := hF57.size
        have hF_59 := hF_55.new hF57
        refine V.go (V.pk_t (((at_other rfl _ (at_same (((((((((hz9.put _ _).put _ _).put _ _).put _ _).put _ _).put _ _).put _ _).put _ _).put _ _) rfl _) : Act.eval _ _ = (.bool (decide ((rmat p s fold) = (rmat p s fold)))))).trans (dt hg56)) (v := (.bool true)) (at_same ((((((((((hz9.put _ _).put _ _).put _ _).put _ _).put _ _).put _ _).put _ _).put _ _).put _ _).put _ _) rfl _) ?_)
        refine V.go (V.asg (v := (.bool true)) (at_same (((((((((((hz9.put _ _).put _ _).put _ _).put _ _).put _ _).put _ _).put _ _).put _ _).put _ _).put _ _).put _ _) rfl _) ?_)
        refine V.nil ?_
        refine V.then_n (hK49 _ _ ?_)
        refine V.flushW (((((((((((((hz9.put _ _).put _ _).put _ _).put _ _).put _ _).put _ _).put _ _).put _ _).put _ _).put _ _).put _ _).put _ _).put _ _) (fun a60 hz61 up62 => ?_)
        have s6_63 : a60.eval (.tmp 6) = (.bool true) := up62 _ _ (at_same ((((((((((((hz9.put _ _).put _ _).put _ _).put _ _).put _ _).put _ _).put _ _).put _ _).put _ _).put _ _).put _ _).put _ _) rfl _)
        clear up62
        refine V.ret ?_
        refine V.ret1 hz61 rfl (s6_63) ?_
        exact ⟨rfl, hF_59⟩
      ·
        refine V.go_off 28 (by kernel_rfl) (((at_same (((((((((hz9.put _ _).put _ _).put _ _).put _ _).put _ _).put _ _).put _ _).put _ _).put _ _) rfl _ : Act.eval _ _ = (.bool (decide ((rmat p s fold) = (rmat p s fold)))))).trans (df hg56)) (by kernel_rfl) ?_
        refine V.go (V.pk_f (((at_other rfl _ (at_same (((((((((hz9.put _ _).put _ _).put _ _).put _ _).put _ _).put _ _).put _ _).put _ _).put _ _) rfl _) : Act.eval _ _ = (.bool (decide ((rmat p s fold) = (rmat p s fold)))))).trans (df hg56)) (v := (.bool false)) evc ?_)
        refine V.go (V.asg (v := (.bool false)) (at_same (((((((((((hz9.put _ _).put _ _).put _ _).put _ _).put _ _).put _ _).put _ _).put _ _).put _ _).put _ _).put _ _) rfl _) ?_)
        refine V.nil ?_
        refine V.then_n (hK49 _ _ ?_)
        refine V.flushW (((((((((((((hz9.put _ _).put _ _).put _ _).put _ _).put _ _).put _ _).put _ _).put _ _).put _ _).put _ _).put _ _).put _ _).put _ _) (fun a64 hz65 up66 => ?_)
        have s6_67 : a64.eval (.tmp 6) = (.bool false) := up66 _ _ (at_same ((((((((((((hz9.put _ _).put _ _).put _ _).put _ _).put _ _).put _ _).put _ _).put _ _).put _ _).put _ _).put _ _).put _ _) rfl _)
        clear up66
        refine V.ret ?_
        refine V.ret1 hz65 rfl (s6_67) ?_
        exact absurd rfl hg56
  ·
    refine V.go_off 10 (by kernel_rfl) (((at_same ((((hz.put _ _).put _ _).put _ _).put _ _) rfl _ : Act.eval _ _ = (.bool (decide ((p.size : Int) ≤ 65536))))).trans (df hg7)) (by kernel_rfl) ?_
    refine V.go_off 10 (by kernel_rfl) (((at_other rfl _ (at_same ((((hz.put _ _).put _ _).put _ _).put _ _) rfl _) : Act.eval _ _ = (.bool (decide ((p.size : Int) ≤ 65536))))).trans (df hg7)) (by kernel_rfl) ?_
    refine V.go_off 10 (by kernel_rfl) (((at_other rfl _ (at_other rfl _ (at_same ((((hz.put _ _).put _ _).put _ _).put _ _) rfl _)) : Act.eval _ _ = (.bool (decide ((p.size : Int) ≤ 65536))))).trans (df hg7)) (by kernel_rfl) ?_
    refine V.go (V.pk_f (((at_other rfl _ (at_other rfl _ (at_other rfl _ (at_same ((((hz.put _ _).put _ _).put _ _).put _ _) rfl _))) : Act.eval _ _ = (.bool (decide ((p.size : Int) ≤ 65536))))).trans (df hg7)) (v := (.bool false)) evc ?_)
    refine V.nil ?_
    refine V.then_n (hK6 _ _ ?_)
    refine V.flushW (((((((((hz.put _ _).put _ _).put _ _).put _ _).put _ _).put _ _).put _ _).put _ _).put _ _) (fun a68 hz69 up70 => ?_)
    have s0_71 : a68.eval (.tmp 0) = (.string p) := up70 _ _ (at_other rfl _ (at_other rfl _ (at_other rfl _ (at_other rfl _ (at_other rfl _ (at_other rfl _ (at_other rfl _ (at_other rfl _ (at_other rfl _ (s0))))))))))
    have s1_72 : a68.eval (.tmp 1) = (.string s) := up70 _ _ (at_other rfl _ (at_other rfl _ (at_other rfl _ (at_other rfl _ (at_other rfl _ (at_other rfl _ (at_other rfl _ (at_other rfl _ (at_other rfl _ (s1))))))))))
    have s2_73 : a68.eval (.tmp 2) = (.bool fold) := up70 _ _ (at_other rfl _ (at_other rfl _ (at_other rfl _ (at_other rfl _ (at_other rfl _ (at_other rfl _ (at_other rfl _ (at_other rfl _ (at_other rfl _ (s2))))))))))
    have s14_74 : a68.eval (.tmp 14) = (.bool false) := up70 _ _ (at_same ((((((((hz.put _ _).put _ _).put _ _).put _ _).put _ _).put _ _).put _ _).put _ _) rfl _)
    clear up70
    refine V.cond_f (s14_74) ?_
    refine V.skip ?_
    refine V.then_n (hK4 _ _ ?_)
    refine V.seq (fun K75 hK76 => ?_)
    refine V.region (by kernel_rfl) ?_
    refine V.go (V.mv (v := (.string p)) (s0_71) ?_)
    refine V.go (V.mv (v := (.string s)) (at_other rfl _ (s1_72)) ?_)
    refine V.go (V.mv (v := (.bool fold)) (at_other rfl _ (at_other rfl _ (s2_73))) ?_)
    refine V.go (V.call 10 #[] #[.string p, .string s, .bool fold] evf (args3 (at_other rfl _ (at_other rfl _ (at_same hz69 rfl _))) (at_other rfl _ (at_same (hz69.put _ _) rfl _)) (at_same ((hz69.put _ _).put _ _) rfl _)) (Go.Proofs.enters_of Try.func10 (by kernel_rfl) rfl) (match_any w p s fold) ?_)
    rintro _ w78 ⟨rfl, hF77⟩
    refine ⟨_, rfl, ?_⟩
    have hsw78 := hF77.size
    have hF_79 := hF.new hF77
    refine V.go (V.mv (v := (.string p)) (at_other rfl _ (at_other rfl _ (at_other rfl _ (at_other rfl _ (s0_71))))) ?_)
    refine V.go (V.mv (v := (.string s)) (at_other rfl _ (at_other rfl _ (at_other rfl _ (at_other rfl _ (at_other rfl _ (s1_72)))))) ?_)
    refine V.go (V.mv (v := (.bool fold)) (at_other rfl _ (at_other rfl _ (at_other rfl _ (at_other rfl _ (at_other rfl _ (at_other rfl _ (s2_73))))))) ?_)
    refine V.go (V.call 11 #[] #[.string p, .string s, .bool fold] evf (args3 (at_other rfl _ (at_other rfl _ (at_same ((((hz69.put _ _).put _ _).put _ _).put _ _) rfl _))) (at_other rfl _ (at_same (((((hz69.put _ _).put _ _).put _ _).put _ _).put _ _) rfl _)) (at_same ((((((hz69.put _ _).put _ _).put _ _).put _ _).put _ _).put _ _) rfl _)) (Go.Proofs.enters_of Try.func11 (by kernel_rfl) rfl) (rmatch_any w78 p s fold) ?_)
    rintro _ w81 ⟨rfl, hF80⟩
    refine ⟨_, rfl, ?_⟩
    have hsw81 := hF80.size
    have hF_82 := hF_79.new hF80
    refine V.go (V.pvw [(22, .bool (rmat p s fold)), (26, .bool (rmat p s fold))] ⟨(at_other rfl _ (at_other rfl _ (at_other rfl _ (at_other rfl _ (at_same (((hz69.put _ _).put _ _).put _ _) rfl _))))), (at_same (((((((hz69.put _ _).put _ _).put _ _).put _ _).put _ _).put _ _).put _ _) rfl _), trivial⟩ (by kernel_rfl) (.bool ((rmat p s fold) == (rmat p s fold))) (.bool (decide ((rmat p s fold) = (rmat p s fold)))) (by kernel_rfl) V.t_beql ?_)
    refine V.go (V.mv (v := (.bool (decide ((rmat p s fold) = (rmat p s fold))))) (at_same ((((((((hz69.put _ _).put _ _).put _ _).put _ _).put _ _).put _ _).put _ _).put _ _) rfl _) ?_)
    by_cases hg83 : (rmat p s fold) = (rmat p s fold)
    ·
      refine V.go_on 28 (by kernel_rfl) (((at_same (((((((((hz69.put _ _).put _ _).put _ _).put _ _).put _ _).put _ _).put _ _).put _ _).put _ _) rfl _ : Act.eval _ _ = (.bool (decide ((rmat p s fold) = (rmat p s fold)))))).trans (dt hg83)) (V.call 12 #[] #[] evf (args0) (Go.Proofs.enters_of Try.func12 (by kernel_rfl) rfl) (awake_any w81) ?_)
      rintro _ w85 ⟨rfl, hF84⟩
      refine ⟨_, rfl, ?_⟩
      have hsw85 := hF84.size
      have hF_86 := hF_82.new hF84
      refine V.go (V.pk_t (((at_other rfl _ (at_same (((((((((hz69.put _ _).put _ _).put _ _).put _ _).put _ _).put _ _).put _ _).put _ _).put _ _) rfl _) : Act.eval _ _ = (.bool (decide ((rmat p s fold) = (rmat p s fold)))))).trans (dt hg83)) (v := (.bool true)) (at_same ((((((((((hz69.put _ _).put _ _).put _ _).put _ _).put _ _).put _ _).put _ _).put _ _).put _ _).put _ _) rfl _) ?_)
      refine V.go (V.asg (v := (.bool true)) (at_same (((((((((((hz69.put _ _).put _ _).put _ _).put _ _).put _ _).put _ _).put _ _).put _ _).put _ _).put _ _).put _ _) rfl _) ?_)
      refine V.nil ?_
      refine V.then_n (hK76 _ _ ?_)
      refine V.flushW (((((((((((((hz69.put _ _).put _ _).put _ _).put _ _).put _ _).put _ _).put _ _).put _ _).put _ _).put _ _).put _ _).put _ _).put _ _) (fun a87 hz88 up89 => ?_)
      have s6_90 : a87.eval (.tmp 6) = (.bool true) := up89 _ _ (at_same ((((((((((((hz69.put _ _).put _ _).put _ _).put _ _).put _ _).put _ _).put _ _).put _ _).put _ _).put _ _).put _ _).put _ _) rfl _)
      clear up89
      refine V.ret ?_
      refine V.ret1 hz88 rfl (s6_90) ?_
      exact ⟨rfl, hF_86⟩
    ·
      refine V.go_off 28 (by kernel_rfl) (((at_same (((((((((hz69.put _ _).put _ _).put _ _).put _ _).put _ _).put _ _).put _ _).put _ _).put _ _) rfl _ : Act.eval _ _ = (.bool (decide ((rmat p s fold) = (rmat p s fold)))))).trans (df hg83)) (by kernel_rfl) ?_
      refine V.go (V.pk_f (((at_other rfl _ (at_same (((((((((hz69.put _ _).put _ _).put _ _).put _ _).put _ _).put _ _).put _ _).put _ _).put _ _) rfl _) : Act.eval _ _ = (.bool (decide ((rmat p s fold) = (rmat p s fold)))))).trans (df hg83)) (v := (.bool false)) evc ?_)
      refine V.go (V.asg (v := (.bool false)) (at_same (((((((((((hz69.put _ _).put _ _).put _ _).put _ _).put _ _).put _ _).put _ _).put _ _).put _ _).put _ _).put _ _) rfl _) ?_)
      refine V.nil ?_
      refine V.then_n (hK76 _ _ ?_)
      refine V.flushW (((((((((((((hz69.put _ _).put _ _).put _ _).put _ _).put _ _).put _ _).put _ _).put _ _).put _ _).put _ _).put _ _).put _ _).put _ _) (fun a91 hz92 up93 => ?_)
      have s6_94 : a91.eval (.tmp 6) = (.bool false) := up93 _ _ (at_same ((((((((((((hz69.put _ _).put _ _).put _ _).put _ _).put _ _).put _ _).put _ _).put _ _).put _ _).put _ _).put _ _).put _ _) rfl _)
      clear up93
      refine V.ret ?_
      refine V.ret1 hz92 rfl (s6_94) ?_
      exact absurd rfl hg83
end Go.Proofs.Ytmlohijidjbbjaa
