/- Walks: parts. -/
import Derived.Test.YtmlohijidjbbjaaProg
import Derived.Test.YtmlohijidjbbjaaWa
import Derived.Test.YtmlohijidjbbjaaRng
namespace Go.Proofs.Ytmlohijidjbbjaa
open Go.V Go.Base
attribute [local irreducible] Act.put Act.eval
set_option linter.unusedVariables false
set_option linter.unusedSimpArgs false
/-- A part, and where its spans lie. -/
abbrev GX : Type := Glob × Option Addr × Nat
def encG (x : GX) : Array Value := #[.agg #[.int .i64 x.1.kind, .int .u8 x.1.c, .bool x.1.neg, .slice x.2.1 x.1.rs.length x.2.2]]
def XG (W0 : World) (x : GX) (W : World) : Prop := SlR spanR (fun b => W0.heap.size ≤ b) W (.slice x.2.1 x.1.rs.length x.2.2) x.1.rs
def SG (s : ByteArray) (xs : List GX) : Prop := xs.map (·.1) = parse (ints s)
def SpG (s : ByteArray) (pre : List GX) : Prop := ∃ rest, pre.map (·.1) ++ rest = parse (ints s)
theorem cls_val (l : List Int) (A : Option Addr) (c : Nat) : Value.agg #[.int .i64 4, .int .u8 0, .bool (cls l).1.neg, .slice A (cls l).1.rs.length c] = .agg #[.int .i64 (cls l).1.kind, .int .u8 (cls l).1.c, .bool (cls l).1.neg, .slice A (cls l).1.rs.length c] := by rw [cls_kind, cls_c]
set_option maxHeartbeats 4000000 in
set_option maxRecDepth 20000 in
theorem parts1_any (w : World) (s : ByteArray) (hs : s.size ≤ 1048576) (b l : Nat) (J Jx : List GX → World → Prop) (hB : Blk w b [.string s] 9) (hY : ∀ pre x W0 W, J pre W0 → Fr [] W0 W → XG W0 x W → SpG s (pre ++ [x]) → Yld Try.prog l (encG x) W (fun e W' => (e = .returned (.bool true) ∧ J (pre ++ [x]) W' ∧ Kept [b] W W') ∨ (e = .returned (.bool false) ∧ Jx (pre ++ [x]) W'))) (h0 : J [] w) : Calls Try.prog 38 #[.func (.yield l) #[] #[], .pointer (some ⟨b, 0, none⟩)] w (fun e W' => (∃ v, e = .returned v) ∧ ((∃ xs W2, SG s xs ∧ J xs W2 ∧ Fr [] W2 W') ∨ (∃ pre W2, SpG s pre ∧ Jx pre W2 ∧ Fr [] W2 W'))) := by
  refine V.enter 54 Try.func38 rfl rfl ?_
  intro a hz ha
  have s0 : a.eval (.tmp 0) = (.func (.yield l) #[] #[]) := ha 0 _ rfl
  have s1 : a.eval (.tmp 1) = (.pointer (some ⟨b, 0, none⟩)) := ha 1 _ rfl
  clear ha
  refine V.seq (fun K1 hK2 => ?_)
  refine V.region (by kernel_rfl) ?_
  refine V.go (V.asg (v := (.int .i64 0)) evc ?_)
  refine V.nil ?_
  refine V.then_n (hK2 _ _ ?_)
  refine V.block ?_
  refine V.loop3 (fun (k : Nat) (pre : List GX) (W0 : World) a_ w_ => Sz 54 a_ ∧ a_.eval (.tmp 0) = (.func (.yield l) #[] #[]) ∧ a_.eval (.tmp 1) = (.pointer (some ⟨b, 0, none⟩)) ∧ a_.eval (.tmp 3) = (.int .i64 (k : Int)) ∧ Blk w_ b [.string s] 9 ∧ Fr [] W0 w_ ∧ (k ≤ s.size) ∧ (pre.map (·.1) ++ parse ((ints s).drop k) = parse (ints s)) ∧ (J pre W0)) (fun (k : Nat) (pre : List GX) (W0 : World) => s.size - k) 0 ([]) w ?_ ?_
  ·
    refine ⟨(hz.put _ _), ?_, ?_, ?_, hB, (Fr.refl [] w), (by omega), (by simp), h0⟩
    · exact (at_other rfl _ (s0))
    · exact (at_other rfl _ (s1))
    · exact Eq.trans (at_same hz rfl _) (V.int_eq (by omega))
  ·
    rintro k pre W0 a3 w4 ⟨hz5, s0_6, s1_7, s3_8, hB_9, hFr_10, hk, hsp, hJ⟩
    have hlt11 := hB_9.lt
    have hfs12 := hFr_10.size
    have hbk := byt_lt s k; have hlk := ints_length s
    refine V.seq (fun K13 hK14 => ?_)
    refine V.seq (fun K15 hK16 => ?_)
    refine V.region (by kernel_rfl) ?_
    refine V.go (V.mv (v := (.int .i64 (k : Int))) (s3_8) ?_)
    refine V.go (V.ld ⟨b, 0, none⟩ (.string s) (at_other rfl _ (s1_7)) (by kernel_rfl) (hB_9.at 0 rfl) ?_)
    refine V.go (V.pv [(7, .string s)] ⟨(at_same (hz5.put _ _) rfl _), trivial⟩ (by kernel_rfl) (.int .i64 (s.size : Int)) (by kernel_rfl) ?_)
    refine V.go (V.pv [(6, .int .i64 (k : Int)), (8, .int .i64 (s.size : Int))] ⟨(at_other rfl _ (at_other rfl _ (at_same hz5 rfl _))), (at_same ((hz5.put _ _).put _ _) rfl _), trivial⟩ (by kernel_rfl) (.bool (decide ((k : Int) < (s.size : Int)))) (by kernel_rfl) ?_)
    refine V.nil ?_
    refine V.then_n (hK16 _ _ ?_)
    refine V.flushW ((((hz5.put _ _).put _ _).put _ _).put _ _) (fun a17 hz18 up19 => ?_)
    have s0_20 : a17.eval (.tmp 0) = (.func (.yield l) #[] #[]) := up19 _ _ (at_other rfl _ (at_other rfl _ (at_other rfl _ (at_other rfl _ (s0_6)))))
    have s1_21 : a17.eval (.tmp 1) = (.pointer (some ⟨b, 0, none⟩)) := up19 _ _ (at_other rfl _ (at_other rfl _ (at_other rfl _ (at_other rfl _ (s1_7)))))
    have s3_22 : a17.eval (.tmp 3) = (.int .i64 (k : Int)) := up19 _ _ (at_other rfl _ (at_other rfl _ (at_other rfl _ (at_other rfl _ (s3_8)))))
    have s9_23 : a17.eval (.tmp 9) = (.bool (decide ((k : Int) < (s.size : Int)))) := up19 _ _ (at_same (((hz5.put _ _).put _ _).put _ _) rfl _)
    clear up19
    refine V.condP (p := (k : Int) < (s.size : Int)) (s9_23) (fun ht24 => ?_) (fun ht24 => ?_)
    ·
      refine V.skip ?_
      refine V.then_n (hK14 _ _ ?_)
      refine V.block ?_
      refine V.seq (fun K25 hK26 => ?_)
      refine V.region (by kernel_rfl) ?_
      refine V.go (V.ld ⟨b, 0, none⟩ (.string s) (s1_21) (by kernel_rfl) (hB_9.at 0 rfl) ?_)
      refine V.go (V.mv (v := (.int .i64 (k : Int))) (at_other rfl _ (s3_22)) ?_)
      refine V.go (V.ixs s .i64 (k : Int) (at_other rfl _ (at_same hz18 rfl _)) (at_same (hz18.put _ _) rfl _) (by omega) (by omega) (by kernel_rfl) ?_)
      have hb27 := byt_lt s (k : Int)
      refine V.go (V.pv [(12, .int .u8 (bi s (k : Int)))] ⟨(at_same ((hz18.put _ _).put _ _) rfl _), trivial⟩ (by kernel_rfl) (.agg #[.int .i64 3, .int .u8 (bi s (k : Int)), .bool false, .slice none 0 0]) (by kernel_rfl) ?_)
      refine V.go (V.mk [] trivial (by kernel_rfl) [.int .i64 0, .int .u8 0, .bool false, .slice none 0 0] 42 (fun b => .pointer (some ⟨b, 0, none⟩)) (by kernel_rfl) ?_)
      intro w29 b28 heb28 hB30 hF31 hsb28
      have hB_32 := hB_9.fr0 hF31
      have hFr_33 := hFr_10.new hF31
      refine V.go (V.stn b28 0 (.agg #[.int .i64 3, .int .u8 (bi s (k : Int)), .bool false, .slice none 0 0]) [.int .i64 3, .int .u8 (bi s (k : Int)), .bool false, .slice none 0 0] (at_same ((((hz18.put _ _).put _ _).put _ _).put _ _) rfl _) (at_other rfl _ (at_same (((hz18.put _ _).put _ _).put _ _) rfl _)) rfl rfl (by kernel_rfl) hB30 (by simp) [.int .i64 3, .int .u8 (bi s (k : Int)), .bool false, .slice none 0 0] rfl ?_)
      intro w34 hB35 hF36 hsw34
      have hB_37 := hB_32.fr1 hF36 (by omega)
      have hFr_38 := hFr_33.own hF36 (by simp <;> omega)
      refine V.go (V.asg (v := (.int .i64 1)) evc ?_)
      refine V.nil ?_
      refine V.then_n (hK26 _ _ ?_)
      refine V.flushW ((((((hz18.put _ _).put _ _).put _ _).put _ _).put _ _).put _ _) (fun a39 hz40 up41 => ?_)
      have s0_42 : a39.eval (.tmp 0) = (.func (.yield l) #[] #[]) := up41 _ _ (at_other rfl _ (at_other rfl _ (at_other rfl _ (at_other rfl _ (at_other rfl _ (at_other rfl _ (s0_20)))))))
      have s1_43 : a39.eval (.tmp 1) = (.pointer (some ⟨b, 0, none⟩)) := up41 _ _ (at_other rfl _ (at_other rfl _ (at_other rfl _ (at_other rfl _ (at_other rfl _ (at_other rfl _ (s1_21)))))))
      have s3_44 : a39.eval (.tmp 3) = (.int .i64 (k : Int)) := up41 _ _ (at_other rfl _ (at_other rfl _ (at_other rfl _ (at_other rfl _ (at_other rfl _ (at_other rfl _ (s3_22)))))))
      have s4_45 : a39.eval (.tmp 4) = (.pointer (some ⟨b28, 0, none⟩)) := up41 _ _ (at_other rfl _ (at_same ((((hz18.put _ _).put _ _).put _ _).put _ _) rfl _))
      have s5_46 : a39.eval (.tmp 5) = (.int .i64 1) := up41 _ _ (at_same (((((hz18.put _ _).put _ _).put _ _).put _ _).put _ _) rfl _)
      clear up41
      refine V.seq (fun K47 hK48 => ?_)
      refine V.seq (fun K49 hK50 => ?_)
      refine V.region (by kernel_rfl) ?_
      refine V.go (V.ld ⟨b, 0, none⟩ (.string s) (s1_43) (by kernel_rfl) (hB_37.at 0 rfl) ?_)
      refine V.go (V.mv (v := (.int .i64 (k : Int))) (at_other rfl _ (s3_44)) ?_)
      refine V.go (V.ixs s .i64 (k : Int) (at_other rfl _ (at_same hz40 rfl _)) (at_same (hz40.put _ _) rfl _) (by omega) (by omega) (by kernel_rfl) ?_)
      have hb51 := byt_lt s (k : Int)
      refine V.nil ?_
      refine V.then_n (hK50 _ _ ?_)
      refine V.block ?_
      refine V.seq (fun K52 hK53 => ?_)
      refine V.region (by kernel_rfl) ?_
      refine V.go (V.pvw [(16, .int .u8 (bi s (k : Int)))] ⟨(at_same ((hz40.put _ _).put _ _) rfl _), trivial⟩ (by kernel_rfl) (.bool ((bi s (k : Int)) == 42)) (.bool (decide ((bi s (k : Int)) = 42))) (by kernel_rfl) V.t_eql ?_)
      refine V.go (V.asg (v := (.bool (decide ((bi s (k : Int)) = 42)))) (at_same (((hz40.put _ _).put _ _).put _ _) rfl _) ?_)
      refine V.nil ?_
      refine V.then_n (hK53 _ _ ?_)
      refine V.flushW (((((hz40.put _ _).put _ _).put _ _).put _ _).put _ _) (fun a54 hz55 up56 => ?_)
      have s0_57 : a54.eval (.tmp 0) = (.func (.yield l) #[] #[]) := up56 _ _ (at_other rfl _ (at_other rfl _ (at_other rfl _ (at_other rfl _ (at_other rfl _ (s0_42))))))
      have s1_58 : a54.eval (.tmp 1) = (.pointer (some ⟨b, 0, none⟩)) := up56 _ _ (at_other rfl _ (at_other rfl _ (at_other rfl _ (at_other rfl _ (at_other rfl _ (s1_43))))))
      have s3_59 : a54.eval (.tmp 3) = (.int .i64 (k : Int)) := up56 _ _ (at_other rfl _ (at_other rfl _ (at_other rfl _ (at_other rfl _ (at_other rfl _ (s3_44))))))
      have s4_60 : a54.eval (.tmp 4) = (.pointer (some ⟨b28, 0, none⟩)) := up56 _ _ (at_other rfl _ (at_other rfl _ (at_other rfl _ (at_other rfl _ (at_other rfl _ (s4_45))))))
      have s5_61 : a54.eval (.tmp 5) = (.int .i64 1) := up56 _ _ (at_other rfl _ (at_other rfl _ (at_other rfl _ (at_other rfl _ (at_other rfl _ (s5_46))))))
      have s16_62 : a54.eval (.tmp 16) = (.int .u8 (bi s (k : Int))) := up56 _ _ (at_other rfl _ (at_other rfl _ (at_same ((hz40.put _ _).put _ _) rfl _)))
      have s17_63 : a54.eval (.tmp 17) = (.bool (decide ((bi s (k : Int)) = 42))) := up56 _ _ (at_same ((((hz40.put _ _).put _ _).put _ _).put _ _) rfl _)
      clear up56
      refine V.condP (p := (bi s (k : Int)) = 42) (s17_63) (fun ht64 => ?_) (fun ht64 => ?_)
      ·
        refine V.region (by kernel_rfl) ?_
        refine V.go (V.pv [] trivial (by kernel_rfl) (.agg #[.int .i64 1, .int .u8 0, .bool false, .slice none 0 0]) (by kernel_rfl) ?_)
        refine V.go (V.stn b28 0 (.agg #[.int .i64 1, .int .u8 0, .bool false, .slice none 0 0]) [.int .i64 1, .int .u8 0, .bool false, .slice none 0 0] (at_other rfl _ (s4_60)) (at_same hz55 rfl _) rfl rfl (by kernel_rfl) hB35 (by simp) [.int .i64 1, .int .u8 0, .bool false, .slice none 0 0] rfl ?_)
        intro w65 hB66 hF67 hsw65
        have hB_68 := hB_37.fr1 hF67 (by omega)
        have hFr_69 := hFr_38.own hF67 (by simp <;> omega)
        refine V.nil ?_
        refine V.blk_n ?_
        refine V.then_n (hK48 _ _ ?_)
        refine V.seq (fun K70 hK71 => ?_)
        refine V.seq (fun K72 hK73 => ?_)
        refine V.region (by kernel_rfl) ?_
        refine V.go (V.mv (v := (.func (.yield l) #[] #[])) (at_other rfl _ (s0_57)) ?_)
        refine V.go (V.lds ⟨b28, 0, none⟩ [.int .i64 1, .int .u8 0, .bool false, .slice none 0 0] (at_other rfl _ (at_other rfl _ (s4_60))) (by kernel_rfl) (blk_cells hB66 0 _ rfl) ?_)
        have hstep := ps_any (s := s) (k := k) (by omega) (by omega)
        have hsq := hsp
        rw [hstep] at hsq
        refine V.go (V.yield l (encG (⟨1, 0, false, []⟩, none, 0)) (at_other rfl _ (at_same (hz55.put _ _) rfl _)) (args1 (at_same ((hz55.put _ _).put _ _) rfl _)) (hY pre (⟨1, 0, false, []⟩, none, 0) W0 w65 hJ hFr_69 (SlR.nil _ _ _) ⟨_, by simpa using hsq⟩) ?_)
        rintro _ w74 (⟨rfl, hJ75, hkp76⟩ | ⟨rfl, hJ75⟩)
        · refine ⟨_, rfl, ?_⟩
          have hB77 : Blk w74 b [.string s] 9 := hB_68.same (hkp76.2 b (by simp))
          have hF78 := Fr.refl [] w74
          refine V.go (V.pv [(49, .bool true)] ⟨(at_same (((hz55.put _ _).put _ _).put _ _) rfl _), trivial⟩ (by kernel_rfl) (.bool false) (by kernel_rfl) ?_)
          refine V.nil ?_
          refine V.then_n (hK73 _ _ ?_)
          refine V.flushW (((((hz55.put _ _).put _ _).put _ _).put _ _).put _ _) (fun a79 hz80 up81 => ?_)
          have s0_82 : a79.eval (.tmp 0) = (.func (.yield l) #[] #[]) := up81 _ _ (at_other rfl _ (at_other rfl _ (at_other rfl _ (at_other rfl _ (at_other rfl _ (s0_57))))))
          have s1_83 : a79.eval (.tmp 1) = (.pointer (some ⟨b, 0, none⟩)) := up81 _ _ (at_other rfl _ (at_other rfl _ (at_other rfl _ (at_other rfl _ (at_other rfl _ (s1_58))))))
          have s3_84 : a79.eval (.tmp 3) = (.int .i64 (k : Int)) := up81 _ _ (at_other rfl _ (at_other rfl _ (at_other rfl _ (at_other rfl _ (at_other rfl _ (s3_59))))))
          have s5_85 : a79.eval (.tmp 5) = (.int .i64 1) := up81 _ _ (at_other rfl _ (at_other rfl _ (at_other rfl _ (at_other rfl _ (at_other rfl _ (s5_61))))))
          have s50_86 : a79.eval (.tmp 50) = (.bool false) := up81 _ _ (at_same ((((hz55.put _ _).put _ _).put _ _).put _ _) rfl _)
          clear up81
          refine V.cond_f (s50_86) ?_
          refine V.skip ?_
          refine V.then_n (hK71 _ _ ?_)
          refine V.region (by kernel_rfl) ?_
          refine V.go (V.mv (v := (.int .i64 (k : Int))) (s3_84) ?_)
          refine V.go (V.mv (v := (.int .i64 1)) (at_other rfl _ (s5_85)) ?_)
          refine V.go (V.pvw [(51, .int .i64 (k : Int)), (52, .int .i64 1)] ⟨(at_other rfl _ (at_same hz80 rfl _)), (at_same (hz80.put _ _) rfl _), trivial⟩ (by kernel_rfl) (.int .i64 (IntKind.i64.wrap ((k : Int) + 1))) (.int .i64 ((k : Int) + 1)) (by kernel_rfl) (V.w_i64 (by omega) (by omega)) ?_)
          refine V.go (V.asg (v := (.int .i64 ((k : Int) + 1))) (at_same ((hz80.put _ _).put _ _) rfl _) ?_)
          refine V.nil ?_
          refine V.blk_n ?_
          refine V.then_n ?_
          refine ⟨k + 1, pre ++ [(⟨1, 0, false, []⟩, none, 0)], w74, (by have := ints_length s; omega), ?_⟩
          refine ⟨((((hz80.put _ _).put _ _).put _ _).put _ _), ?_, ?_, ?_, hB77, hF78, (by have := ints_length s; omega), (by simpa using hsq), hJ75⟩
          · exact (at_other rfl _ (at_other rfl _ (at_other rfl _ (at_other rfl _ (s0_82)))))
          · exact (at_other rfl _ (at_other rfl _ (at_other rfl _ (at_other rfl _ (s1_83)))))
          · exact Eq.trans (at_same (((hz80.put _ _).put _ _).put _ _) rfl _) (V.int_eq (by omega))
        · refine ⟨_, rfl, ?_⟩
          refine V.go (V.pv [(49, .bool false)] ⟨(at_same (((hz55.put _ _).put _ _).put _ _) rfl _), trivial⟩ (by kernel_rfl) (.bool true) (by kernel_rfl) ?_)
          refine V.nil ?_
          refine V.then_n (hK73 _ _ ?_)
          refine V.flushW (((((hz55.put _ _).put _ _).put _ _).put _ _).put _ _) (fun a87 hz88 up89 => ?_)
          have s0_90 : a87.eval (.tmp 0) = (.func (.yield l) #[] #[]) := up89 _ _ (at_other rfl _ (at_other rfl _ (at_other rfl _ (at_other rfl _ (at_other rfl _ (s0_57))))))
          have s1_91 : a87.eval (.tmp 1) = (.pointer (some ⟨b, 0, none⟩)) := up89 _ _ (at_other rfl _ (at_other rfl _ (at_other rfl _ (at_other rfl _ (at_other rfl _ (s1_58))))))
          have s3_92 : a87.eval (.tmp 3) = (.int .i64 (k : Int)) := up89 _ _ (at_other rfl _ (at_other rfl _ (at_other rfl _ (at_other rfl _ (at_other rfl _ (s3_59))))))
          have s5_93 : a87.eval (.tmp 5) = (.int .i64 1) := up89 _ _ (at_other rfl _ (at_other rfl _ (at_other rfl _ (at_other rfl _ (at_other rfl _ (s5_61))))))
          have s50_94 : a87.eval (.tmp 50) = (.bool true) := up89 _ _ (at_same ((((hz55.put _ _).put _ _).put _ _).put _ _) rfl _)
          clear up89
          refine V.cond_t (s50_94) ?_
          refine V.ret ?_
          refine V.then_r ?_
          refine V.blk_r ?_
          refine V.then_r ?_
          refine V.blk_r ?_
          refine V.ret0 hz88 rfl ?_
          exact ⟨⟨_, rfl⟩, .inr ⟨_, w74, ⟨_, by simpa using hsq⟩, hJ75, Fr.refl [] _⟩⟩
      ·
        refine V.seq (fun K95 hK96 => ?_)
        refine V.region (by kernel_rfl) ?_
        refine V.go (V.pvw [(16, .int .u8 (bi s (k : Int)))] ⟨(s16_62), trivial⟩ (by kernel_rfl) (.bool ((bi s (k : Int)) == 63)) (.bool (decide ((bi s (k : Int)) = 63))) (by kernel_rfl) V.t_eql ?_)
        refine V.go (V.asg (v := (.bool (decide ((bi s (k : Int)) = 63)))) (at_same hz55 rfl _) ?_)
        refine V.nil ?_
        refine V.then_n (hK96 _ _ ?_)
        refine V.condP (p := (bi s (k : Int)) = 63) (at_same (hz55.put _ _) rfl _) (fun ht97 => ?_) (fun ht97 => ?_)
        ·
          refine V.region (by kernel_rfl) ?_
          refine V.go (V.pv [] trivial (by kernel_rfl) (.agg #[.int .i64 2, .int .u8 0, .bool false, .slice none 0 0]) (by kernel_rfl) ?_)
          refine V.go (V.stn b28 0 (.agg #[.int .i64 2, .int .u8 0, .bool false, .slice none 0 0]) [.int .i64 2, .int .u8 0, .bool false, .slice none 0 0] (at_other rfl _ (at_other rfl _ (at_other rfl _ (s4_60)))) (at_same ((hz55.put _ _).put _ _) rfl _) rfl rfl (by kernel_rfl) hB35 (by simp) [.int .i64 2, .int .u8 0, .bool false, .slice none 0 0] rfl ?_)
          intro w98 hB99 hF100 hsw98
          have hB_101 := hB_37.fr1 hF100 (by omega)
          have hFr_102 := hFr_38.own hF100 (by simp <;> omega)
          refine V.nil ?_
          refine V.blk_n ?_
          refine V.then_n (hK48 _ _ ?_)
          refine V.seq (fun K103 hK104 => ?_)
          refine V.seq (fun K105 hK106 => ?_)
          refine V.region (by kernel_rfl) ?_
          refine V.go (V.mv (v := (.func (.yield l) #[] #[])) (at_other rfl _ (at_other rfl _ (at_other rfl _ (s0_57)))) ?_)
          refine V.go (V.lds ⟨b28, 0, none⟩ [.int .i64 2, .int .u8 0, .bool false, .slice none 0 0] (at_other rfl _ (at_other rfl _ (at_other rfl _ (at_other rfl _ (s4_60))))) (by kernel_rfl) (blk_cells hB99 0 _ rfl) ?_)
          have hstep := ps_one (s := s) (k := k) (by omega) (by omega)
          have hsq := hsp
          rw [hstep] at hsq
          refine V.go (V.yield l (encG (⟨2, 0, false, []⟩, none, 0)) (at_other rfl _ (at_same (((hz55.put _ _).put _ _).put _ _) rfl _)) (args1 (at_same ((((hz55.put _ _).put _ _).put _ _).put _ _) rfl _)) (hY pre (⟨2, 0, false, []⟩, none, 0) W0 w98 hJ hFr_102 (SlR.nil _ _ _) ⟨_, by simpa using hsq⟩) ?_)
          rintro _ w107 (⟨rfl, hJ108, hkp109⟩ | ⟨rfl, hJ108⟩)
          · refine ⟨_, rfl, ?_⟩
            have hB110 : Blk w107 b [.string s] 9 := hB_101.same (hkp109.2 b (by simp))
            have hF111 := Fr.refl [] w107
            refine V.go (V.pv [(49, .bool true)] ⟨(at_same (((((hz55.put _ _).put _ _).put _ _).put _ _).put _ _) rfl _), trivial⟩ (by kernel_rfl) (.bool false) (by kernel_rfl) ?_)
            refine V.nil ?_
            refine V.then_n (hK106 _ _ ?_)
            refine V.flushW (((((((hz55.put _ _).put _ _).put _ _).put _ _).put _ _).put _ _).put _ _) (fun a112 hz113 up114 => ?_)
            have s0_115 : a112.eval (.tmp 0) = (.func (.yield l) #[] #[]) := up114 _ _ (at_other rfl _ (at_other rfl _ (at_other rfl _ (at_other rfl _ (at_other rfl _ (at_other rfl _ (at_other rfl _ (s0_57))))))))
            have s1_116 : a112.eval (.tmp 1) = (.pointer (some ⟨b, 0, none⟩)) := up114 _ _ (at_other rfl _ (at_other rfl _ (at_other rfl _ (at_other rfl _ (at_other rfl _ (at_other rfl _ (at_other rfl _ (s1_58))))))))
            have s3_117 : a112.eval (.tmp 3) = (.int .i64 (k : Int)) := up114 _ _ (at_other rfl _ (at_other rfl _ (at_other rfl _ (at_other rfl _ (at_other rfl _ (at_other rfl _ (at_other rfl _ (s3_59))))))))
            have s5_118 : a112.eval (.tmp 5) = (.int .i64 1) := up114 _ _ (at_other rfl _ (at_other rfl _ (at_other rfl _ (at_other rfl _ (at_other rfl _ (at_other rfl _ (at_other rfl _ (s5_61))))))))
            have s50_119 : a112.eval (.tmp 50) = (.bool false) := up114 _ _ (at_same ((((((hz55.put _ _).put _ _).put _ _).put _ _).put _ _).put _ _) rfl _)
            clear up114
            refine V.cond_f (s50_119) ?_
            refine V.skip ?_
            refine V.then_n (hK104 _ _ ?_)
            refine V.region (by kernel_rfl) ?_
            refine V.go (V.mv (v := (.int .i64 (k : Int))) (s3_117) ?_)
            refine V.go (V.mv (v := (.int .i64 1)) (at_other rfl _ (s5_118)) ?_)
            refine V.go (V.pvw [(51, .int .i64 (k : Int)), (52, .int .i64 1)] ⟨(at_other rfl _ (at_same hz113 rfl _)), (at_same (hz113.put _ _) rfl _), trivial⟩ (by kernel_rfl) (.int .i64 (IntKind.i64.wrap ((k : Int) + 1))) (.int .i64 ((k : Int) + 1)) (by kernel_rfl) (V.w_i64 (by omega) (by omega)) ?_)
            refine V.go (V.asg (v := (.int .i64 ((k : Int) + 1))) (at_same ((hz113.put _ _).put _ _) rfl _) ?_)
            refine V.nil ?_
            refine V.blk_n ?_
            refine V.then_n ?_
            refine ⟨k + 1, pre ++ [(⟨2, 0, false, []⟩, none, 0)], w107, (by have := ints_length s; omega), ?_⟩
            refine ⟨((((hz113.put _ _).put _ _).put _ _).put _ _), ?_, ?_, ?_, hB110, hF111, (by have := ints_length s; omega), (by simpa using hsq), hJ108⟩
            · exact (at_other rfl _ (at_other rfl _ (at_other rfl _ (at_other rfl _ (s0_115)))))
            · exact (at_other rfl _ (at_other rfl _ (at_other rfl _ (at_other rfl _ (s1_116)))))
            · exact Eq.trans (at_same (((hz113.put _ _).put _ _).put _ _) rfl _) (V.int_eq (by omega))
          · refine ⟨_, rfl, ?_⟩
            refine V.go (V.pv [(49, .bool false)] ⟨(at_same (((((hz55.put _ _).put _ _).put _ _).put _ _).put _ _) rfl _), trivial⟩ (by kernel_rfl) (.bool true) (by kernel_rfl) ?_)
            refine V.nil ?_
            refine V.then_n (hK106 _ _ ?_)
            refine V.flushW (((((((hz55.put _ _).put _ _).put _ _).put _ _).put _ _).put _ _).put _ _) (fun a120 hz121 up122 => ?_)
            have s0_123 : a120.eval (.tmp 0) = (.func (.yield l) #[] #[]) := up122 _ _ (at_other rfl _ (at_other rfl _ (at_other rfl _ (at_other rfl _ (at_other rfl _ (at_other rfl _ (at_other rfl _ (s0_57))))))))
            have s1_124 : a120.eval (.tmp 1) = (.pointer (some ⟨b, 0, none⟩)) := up122 _ _ (at_other rfl _ (at_other rfl _ (at_other rfl _ (at_other rfl _ (at_other rfl _ (at_other rfl _ (at_other rfl _ (s1_58))))))))
            have s3_125 : a120.eval (.tmp 3) = (.int .i64 (k : Int)) := up122 _ _ (at_other rfl _ (at_other rfl _ (at_other rfl _ (at_other rfl _ (at_other rfl _ (at_other rfl _ (at_other rfl _ (s3_59))))))))
            have s5_126 : a120.eval (.tmp 5) = (.int .i64 1) := up122 _ _ (at_other rfl _ (at_other rfl _ (at_other rfl _ (at_other rfl _ (at_other rfl _ (at_other rfl _ (at_other rfl _ (s5_61))))))))
            have s50_127 : a120.eval (.tmp 50) = (.bool true) := up122 _ _ (at_same ((((((hz55.put _ _).put _ _).put _ _).put _ _).put _ _).put _ _) rfl _)
            clear up122
            refine V.cond_t (s50_127) ?_
            refine V.ret ?_
            refine V.then_r ?_
            refine V.blk_r ?_
            refine V.then_r ?_
            refine V.blk_r ?_
            refine V.ret0 hz121 rfl ?_
            exact ⟨⟨_, rfl⟩, .inr ⟨_, w107, ⟨_, by simpa using hsq⟩, hJ108, Fr.refl [] _⟩⟩
        ·
          refine V.seq (fun K128 hK129 => ?_)
          refine V.region (by kernel_rfl) ?_
          refine V.go (V.pvw [(16, .int .u8 (bi s (k : Int)))] ⟨(at_other rfl _ (at_other rfl _ (s16_62))), trivial⟩ (by kernel_rfl) (.bool ((bi s (k : Int)) == 91)) (.bool (decide ((bi s (k : Int)) = 91))) (by kernel_rfl) V.t_eql ?_)
          refine V.go (V.asg (v := (.bool (decide ((bi s (k : Int)) = 91)))) (at_same ((hz55.put _ _).put _ _) rfl _) ?_)
          refine V.nil ?_
          refine V.then_n (hK129 _ _ ?_)
          refine V.flushW ((((hz55.put _ _).put _ _).put _ _).put _ _) (fun a130 hz131 up132 => ?_)
          have s0_133 : a130.eval (.tmp 0) = (.func (.yield l) #[] #[]) := up132 _ _ (at_other rfl _ (at_other rfl _ (at_other rfl _ (at_other rfl _ (s0_57)))))
          have s1_134 : a130.eval (.tmp 1) = (.pointer (some ⟨b, 0, none⟩)) := up132 _ _ (at_other rfl _ (at_other rfl _ (at_other rfl _ (at_other rfl _ (s1_58)))))
          have s3_135 : a130.eval (.tmp 3) = (.int .i64 (k : Int)) := up132 _ _ (at_other rfl _ (at_other rfl _ (at_other rfl _ (at_other rfl _ (s3_59)))))
          have s4_136 : a130.eval (.tmp 4) = (.pointer (some ⟨b28, 0, none⟩)) := up132 _ _ (at_other rfl _ (at_other rfl _ (at_other rfl _ (at_other rfl _ (s4_60)))))
          have s5_137 : a130.eval (.tmp 5) = (.int .i64 1) := up132 _ _ (at_other rfl _ (at_other rfl _ (at_other rfl _ (at_other rfl _ (s5_61)))))
          have s16_138 : a130.eval (.tmp 16) = (.int .u8 (bi s (k : Int))) := up132 _ _ (at_other rfl _ (at_other rfl _ (at_other rfl _ (at_other rfl _ (s16_62)))))
          have s23_139 : a130.eval (.tmp 23) = (.bool (decide ((bi s (k : Int)) = 91))) := up132 _ _ (at_same (((hz55.put _ _).put _ _).put _ _) rfl _)
          clear up132
          refine V.condP (p := (bi s (k : Int)) = 91) (s23_139) (fun ht140 => ?_) (fun ht140 => ?_)
          ·
            refine V.seq (fun K141 hK142 => ?_)
            refine V.region (by kernel_rfl) ?_
            refine V.go (V.ld ⟨b, 0, none⟩ (.string s) (s1_134) (by kernel_rfl) (hB_37.at 0 rfl) ?_)
            refine V.go (V.mv (v := (.int .i64 (k : Int))) (at_other rfl _ (s3_135)) ?_)
            refine V.go (V.pvw [(27, .int .i64 (k : Int))] ⟨(at_same (hz131.put _ _) rfl _), trivial⟩ (by kernel_rfl) (.int .i64 (IntKind.i64.wrap ((k : Int) + 1))) (.int .i64 ((k : Int) + 1)) (by kernel_rfl) (V.w_i64 (by omega) (by omega)) ?_)
            refine V.go (V.sls s ((k : Int) + 1) (s.size : Int) (at_other rfl _ (at_other rfl _ (at_same hz131 rfl _))) ⟨_, (at_same ((hz131.put _ _).put _ _) rfl _)⟩ rfl (by omega) (by omega) (by omega) (by kernel_rfl) ?_)
            refine V.go (V.call 39 #[] #[.string (s.extract ((k : Int) + 1 : Int).toNat ((s.size : Int) : Int).toNat)] evf (args1 (at_same (((hz131.put _ _).put _ _).put _ _) rfl _)) (Go.Proofs.enters_of Try.func39 (by kernel_rfl) rfl) (class_any w34 (s.extract ((k : Int) + 1 : Int).toNat ((s.size : Int) : Int).toNat) (by rw [ByteArray.size_extract]; omega)) ?_)
            rintro _ w147 ⟨A143, c144, rfl, hcl145, hF146⟩
            refine ⟨_, rfl, ?_⟩
            have hsw147 := hF146.size
            have hB_148 := hB_37.fr0 hF146
            have hFr_149 := hFr_38.new hF146
            have hB35_150 := hB35.fr0 hF146
            have hcle146 := cls_le (ints (s.extract ((k : Int) + 1 : Int).toNat ((s.size : Int) : Int).toNat)); rw [ints_length, ByteArray.size_extract] at hcle146
            refine V.go (V.mv (v := (.tuple #[.agg #[.int .i64 4, .int .u8 0, .bool ((cls (ints (s.extract ((k : Int) + 1 : Int).toNat ((s.size : Int) : Int).toNat))).1.neg), .slice A143 ((cls (ints (s.extract ((k : Int) + 1 : Int).toNat ((s.size : Int) : Int).toNat))).1.rs.length) c144], .int .i64 ((cls (ints (s.extract ((k : Int) + 1 : Int).toNat ((s.size : Int) : Int).toNat))).2 : Int)])) (at_same ((((hz131.put _ _).put _ _).put _ _).put _ _) rfl _) ?_)
            refine V.go (V.pv [(25, .tuple #[.agg #[.int .i64 4, .int .u8 0, .bool ((cls (ints (s.extract ((k : Int) + 1 : Int).toNat ((s.size : Int) : Int).toNat))).1.neg), .slice A143 ((cls (ints (s.extract ((k : Int) + 1 : Int).toNat ((s.size : Int) : Int).toNat))).1.rs.length) c144], .int .i64 ((cls (ints (s.extract ((k : Int) + 1 : Int).toNat ((s.size : Int) : Int).toNat))).2 : Int)])] ⟨(at_same (((((hz131.put _ _).put _ _).put _ _).put _ _).put _ _) rfl _), trivial⟩ (by kernel_rfl) (.agg #[.int .i64 4, .int .u8 0, .bool ((cls (ints (s.extract ((k : Int) + 1 : Int).toNat ((s.size : Int) : Int).toNat))).1.neg), .slice A143 ((cls (ints (s.extract ((k : Int) + 1 : Int).toNat ((s.size : Int) : Int).toNat))).1.rs.length) c144]) (by kernel_rfl) ?_)
            refine V.go (V.pv [(25, .tuple #[.agg #[.int .i64 4, .int .u8 0, .bool ((cls (ints (s.extract ((k : Int) + 1 : Int).toNat ((s.size : Int) : Int).toNat))).1.neg), .slice A143 ((cls (ints (s.extract ((k : Int) + 1 : Int).toNat ((s.size : Int) : Int).toNat))).1.rs.length) c144], .int .i64 ((cls (ints (s.extract ((k : Int) + 1 : Int).toNat ((s.size : Int) : Int).toNat))).2 : Int)])] ⟨(at_other rfl _ (at_same (((((hz131.put _ _).put _ _).put _ _).put _ _).put _ _) rfl _)), trivial⟩ (by kernel_rfl) (.int .i64 ((cls (ints (s.extract ((k : Int) + 1 : Int).toNat ((s.size : Int) : Int).toNat))).2 : Int)) (by kernel_rfl) ?_)
            refine V.go (V.stn b28 0 (.agg #[.int .i64 4, .int .u8 0, .bool ((cls (ints (s.extract ((k : Int) + 1 : Int).toNat ((s.size : Int) : Int).toNat))).1.neg), .slice A143 ((cls (ints (s.extract ((k : Int) + 1 : Int).toNat ((s.size : Int) : Int).toNat))).1.rs.length) c144]) [.int .i64 4, .int .u8 0, .bool ((cls (ints (s.extract ((k : Int) + 1 : Int).toNat ((s.size : Int) : Int).toNat))).1.neg), .slice A143 ((cls (ints (s.extract ((k : Int) + 1 : Int).toNat ((s.size : Int) : Int).toNat))).1.rs.length) c144] (at_other rfl _ (at_other rfl _ (at_other rfl _ (at_other rfl _ (at_other rfl _ (at_other rfl _ (at_other rfl _ (at_other rfl _ (s4_136))))))))) (at_other rfl _ (at_same ((((((hz131.put _ _).put _ _).put _ _).put _ _).put _ _).put _ _) rfl _)) rfl rfl (by kernel_rfl) hB35_150 (by simp) [.int .i64 4, .int .u8 0, .bool ((cls (ints (s.extract ((k : Int) + 1 : Int).toNat ((s.size : Int) : Int).toNat))).1.neg), .slice A143 ((cls (ints (s.extract ((k : Int) + 1 : Int).toNat ((s.size : Int) : Int).toNat))).1.rs.length) c144] rfl ?_)
            intro w151 hB152 hF153 hsw151
            have hB_154 := hB_148.fr1 hF153 (by omega)
            have hFr_155 := hFr_149.own hF153 (by simp <;> omega)
            have hcl145_156 := hcl145.fr hF153 (by simp <;> omega)
            refine V.go (V.asg (v := (.int .i64 ((cls (ints (s.extract ((k : Int) + 1 : Int).toNat ((s.size : Int) : Int).toNat))).2 : Int))) (at_same (((((((hz131.put _ _).put _ _).put _ _).put _ _).put _ _).put _ _).put _ _) rfl _) ?_)
            refine V.nil ?_
            refine V.then_n (hK142 _ _ ?_)
            refine V.flushW (((((((((hz131.put _ _).put _ _).put _ _).put _ _).put _ _).put _ _).put _ _).put _ _).put _ _) (fun a157 hz158 up159 => ?_)
            have s0_160 : a157.eval (.tmp 0) = (.func (.yield l) #[] #[]) := up159 _ _ (at_other rfl _ (at_other rfl _ (at_other rfl _ (at_other rfl _ (at_other rfl _ (at_other rfl _ (at_other rfl _ (at_other rfl _ (at_other rfl _ (s0_133))))))))))
            have s1_161 : a157.eval (.tmp 1) = (.pointer (some ⟨b, 0, none⟩)) := up159 _ _ (at_other rfl _ (at_other rfl _ (at_other rfl _ (at_other rfl _ (at_other rfl _ (at_other rfl _ (at_other rfl _ (at_other rfl _ (at_other rfl _ (s1_134))))))))))
            have s3_162 : a157.eval (.tmp 3) = (.int .i64 (k : Int)) := up159 _ _ (at_other rfl _ (at_other rfl _ (at_other rfl _ (at_other rfl _ (at_other rfl _ (at_other rfl _ (at_other rfl _ (at_other rfl _ (at_other rfl _ (s3_135))))))))))
            have s4_163 : a157.eval (.tmp 4) = (.pointer (some ⟨b28, 0, none⟩)) := up159 _ _ (at_other rfl _ (at_other rfl _ (at_other rfl _ (at_other rfl _ (at_other rfl _ (at_other rfl _ (at_other rfl _ (at_other rfl _ (at_other rfl _ (s4_136))))))))))
            have s5_164 : a157.eval (.tmp 5) = (.int .i64 ((cls (ints (s.extract ((k : Int) + 1 : Int).toNat ((s.size : Int) : Int).toNat))).2 : Int)) := up159 _ _ (at_same ((((((((hz131.put _ _).put _ _).put _ _).put _ _).put _ _).put _ _).put _ _).put _ _) rfl _)
            clear up159
            refine V.region (by kernel_rfl) ?_
            refine V.go (V.mv (v := (.int .i64 ((cls (ints (s.extract ((k : Int) + 1 : Int).toNat ((s.size : Int) : Int).toNat))).2 : Int))) (s5_164) ?_)
            refine V.go (V.pvw [(33, .int .i64 ((cls (ints (s.extract ((k : Int) + 1 : Int).toNat ((s.size : Int) : Int).toNat))).2 : Int))] ⟨(at_same hz158 rfl _), trivial⟩ (by kernel_rfl) (.int .i64 (IntKind.i64.wrap (((cls (ints (s.extract ((k : Int) + 1 : Int).toNat ((s.size : Int) : Int).toNat))).2 : Int) + 1))) (.int .i64 (((cls (ints (s.extract ((k : Int) + 1 : Int).toNat ((s.size : Int) : Int).toNat))).2 : Int) + 1)) (by kernel_rfl) (V.w_i64 (by omega) (by omega)) ?_)
            refine V.go (V.asg (v := (.int .i64 (((cls (ints (s.extract ((k : Int) + 1 : Int).toNat ((s.size : Int) : Int).toNat))).2 : Int) + 1))) (at_same (hz158.put _ _) rfl _) ?_)
            refine V.nil ?_
            refine V.blk_n ?_
            refine V.then_n (hK48 _ _ ?_)
            refine V.seq (fun K165 hK166 => ?_)
            refine V.seq (fun K167 hK168 => ?_)
            refine V.region (by kernel_rfl) ?_
            refine V.go (V.mv (v := (.func (.yield l) #[] #[])) (at_other rfl _ (at_other rfl _ (at_other rfl _ (s0_160)))) ?_)
            refine V.go (V.lds ⟨b28, 0, none⟩ [.int .i64 4, .int .u8 0, .bool ((cls (ints (s.extract ((k : Int) + 1 : Int).toNat ((s.size : Int) : Int).toNat))).1.neg), .slice A143 ((cls (ints (s.extract ((k : Int) + 1 : Int).toNat ((s.size : Int) : Int).toNat))).1.rs.length) c144] (at_other rfl _ (at_other rfl _ (at_other rfl _ (at_other rfl _ (s4_163))))) (by kernel_rfl) (blk_cells hB152 0 _ rfl) ?_)
            have hstep := ps_cls (s := s) (k := k) (by omega) (by omega)
            have hsq := hsp
            rw [hstep] at hsq
            refine V.go (V.yield l (encG ((cls (ints (s.extract ((k : Int) + 1 : Int).toNat ((s.size : Int) : Int).toNat))).1, A143, c144)) (at_other rfl _ (at_same (((hz158.put _ _).put _ _).put _ _) rfl _)) (args1 (Eq.trans (at_same ((((hz158.put _ _).put _ _).put _ _).put _ _) rfl _) (cls_val _ _ _))) (hY pre ((cls (ints (s.extract ((k : Int) + 1 : Int).toNat ((s.size : Int) : Int).toNat))).1, A143, c144) W0 w151 hJ hFr_155 (hcl145_156.zone fun b _ (h : w34.heap.size ≤ b) => (by omega : W0.heap.size ≤ b)) ⟨_, by rw [ints_from]; simpa using hsq⟩) ?_)
            rintro _ w169 (⟨rfl, hJ170, hkp171⟩ | ⟨rfl, hJ170⟩)
            · refine ⟨_, rfl, ?_⟩
              have hB172 : Blk w169 b [.string s] 9 := hB_154.same (hkp171.2 b (by simp))
              have hF173 := Fr.refl [] w169
              refine V.go (V.pv [(49, .bool true)] ⟨(at_same (((((hz158.put _ _).put _ _).put _ _).put _ _).put _ _) rfl _), trivial⟩ (by kernel_rfl) (.bool false) (by kernel_rfl) ?_)
              refine V.nil ?_
              refine V.then_n (hK168 _ _ ?_)
              refine V.flushW (((((((hz158.put _ _).put _ _).put _ _).put _ _).put _ _).put _ _).put _ _) (fun a174 hz175 up176 => ?_)
              have s0_177 : a174.eval (.tmp 0) = (.func (.yield l) #[] #[]) := up176 _ _ (at_other rfl _ (at_other rfl _ (at_other rfl _ (at_other rfl _ (at_other rfl _ (at_other rfl _ (at_other rfl _ (s0_160))))))))
              have s1_178 : a174.eval (.tmp 1) = (.pointer (some ⟨b, 0, none⟩)) := up176 _ _ (at_other rfl _ (at_other rfl _ (at_other rfl _ (at_other rfl _ (at_other rfl _ (at_other rfl _ (at_other rfl _ (s1_161))))))))
              have s3_179 : a174.eval (.tmp 3) = (.int .i64 (k : Int)) := up176 _ _ (at_other rfl _ (at_other rfl _ (at_other rfl _ (at_other rfl _ (at_other rfl _ (at_other rfl _ (at_other rfl _ (s3_162))))))))
              have s5_180 : a174.eval (.tmp 5) = (.int .i64 (((cls (ints (s.extract ((k : Int) + 1 : Int).toNat ((s.size : Int) : Int).toNat))).2 : Int) + 1)) := up176 _ _ (at_other rfl _ (at_other rfl _ (at_other rfl _ (at_other rfl _ (at_same ((hz158.put _ _).put _ _) rfl _)))))
              have s50_181 : a174.eval (.tmp 50) = (.bool false) := up176 _ _ (at_same ((((((hz158.put _ _).put _ _).put _ _).put _ _).put _ _).put _ _) rfl _)
              clear up176
              refine V.cond_f (s50_181) ?_
              refine V.skip ?_
              refine V.then_n (hK166 _ _ ?_)
              refine V.region (by kernel_rfl) ?_
              refine V.go (V.mv (v := (.int .i64 (k : Int))) (s3_179) ?_)
              refine V.go (V.mv (v := (.int .i64 (((cls (ints (s.extract ((k : Int) + 1 : Int).toNat ((s.size : Int) : Int).toNat))).2 : Int) + 1))) (at_other rfl _ (s5_180)) ?_)
              refine V.go (V.pvw [(51, .int .i64 (k : Int)), (52, .int .i64 (((cls (ints (s.extract ((k : Int) + 1 : Int).toNat ((s.size : Int) : Int).toNat))).2 : Int) + 1))] ⟨(at_other rfl _ (at_same hz175 rfl _)), (at_same (hz175.put _ _) rfl _), trivial⟩ (by kernel_rfl) (.int .i64 (IntKind.i64.wrap ((k : Int) + (((cls (ints (s.extract ((k : Int) + 1 : Int).toNat ((s.size : Int) : Int).toNat))).2 : Int) + 1)))) (.int .i64 ((k : Int) + (((cls (ints (s.extract ((k : Int) + 1 : Int).toNat ((s.size : Int) : Int).toNat))).2 : Int) + 1))) (by kernel_rfl) (V.w_i64 (by omega) (by omega)) ?_)
              refine V.go (V.asg (v := (.int .i64 ((k : Int) + (((cls (ints (s.extract ((k : Int) + 1 : Int).toNat ((s.size : Int) : Int).toNat))).2 : Int) + 1)))) (at_same ((hz175.put _ _).put _ _) rfl _) ?_)
              refine V.nil ?_
              refine V.blk_n ?_
              refine V.then_n ?_
              have hfrom := ints_from s k
              have hcl1 := cls_le ((ints s).drop (k + 1))
              rw [List.length_drop] at hcl1
              refine ⟨k + 1 + (cls ((ints s).drop (k + 1))).2, pre ++ [((cls (ints (s.extract ((k : Int) + 1 : Int).toNat ((s.size : Int) : Int).toNat))).1, A143, c144)], w169, (by have := ints_length s; omega), ?_⟩
              refine ⟨((((hz175.put _ _).put _ _).put _ _).put _ _), ?_, ?_, ?_, hB172, hF173, (by have := ints_length s; omega), (by rw [ints_from]; simpa using hsq), hJ170⟩
              · exact (at_other rfl _ (at_other rfl _ (at_other rfl _ (at_other rfl _ (s0_177)))))
              · exact (at_other rfl _ (at_other rfl _ (at_other rfl _ (at_other rfl _ (s1_178)))))
              · exact Eq.trans (at_same (((hz175.put _ _).put _ _).put _ _) rfl _) (by rw [ints_from]; exact V.int_eq (by omega))
            · refine ⟨_, rfl, ?_⟩
              refine V.go (V.pv [(49, .bool false)] ⟨(at_same (((((hz158.put _ _).put _ _).put _ _).put _ _).put _ _) rfl _), trivial⟩ (by kernel_rfl) (.bool true) (by kernel_rfl) ?_)
              refine V.nil ?_
              refine V.then_n (hK168 _ _ ?_)
              refine V.flushW (((((((hz158.put _ _).put _ _).put _ _).put _ _).put _ _).put _ _).put _ _) (fun a182 hz183 up184 => ?_)
              have s0_185 : a182.eval (.tmp 0) = (.func (.yield l) #[] #[]) := up184 _ _ (at_other rfl _ (at_other rfl _ (at_other rfl _ (at_other rfl _ (at_other rfl _ (at_other rfl _ (at_other rfl _ (s0_160))))))))
              have s1_186 : a182.eval (.tmp 1) = (.pointer (some ⟨b, 0, none⟩)) := up184 _ _ (at_other rfl _ (at_other rfl _ (at_other rfl _ (at_other rfl _ (at_other rfl _ (at_other rfl _ (at_other rfl _ (s1_161))))))))
              have s3_187 : a182.eval (.tmp 3) = (.int .i64 (k : Int)) := up184 _ _ (at_other rfl _ (at_other rfl _ (at_other rfl _ (at_other rfl _ (at_other rfl _ (at_other rfl _ (at_other rfl _ (s3_162))))))))
              have s5_188 : a182.eval (.tmp 5) = (.int .i64 (((cls (ints (s.extract ((k : Int) + 1 : Int).toNat ((s.size : Int) : Int).toNat))).2 : Int) + 1)) := up184 _ _ (at_other rfl _ (at_other rfl _ (at_other rfl _ (at_other rfl _ (at_same ((hz158.put _ _).put _ _) rfl _)))))
              have s50_189 : a182.eval (.tmp 50) = (.bool true) := up184 _ _ (at_same ((((((hz158.put _ _).put _ _).put _ _).put _ _).put _ _).put _ _) rfl _)
              clear up184
              refine V.cond_t (s50_189) ?_
              refine V.ret ?_
              refine V.then_r ?_
              refine V.blk_r ?_
              refine V.then_r ?_
              refine V.blk_r ?_
              refine V.ret0 hz183 rfl ?_
              exact ⟨⟨_, rfl⟩, .inr ⟨_, w169, ⟨_, by rw [ints_from]; simpa using hsq⟩, hJ170, Fr.refl [] _⟩⟩
          ·
            refine V.seq (fun K190 hK191 => ?_)
            refine V.region (by kernel_rfl) ?_
            refine V.go (V.pvw [(16, .int .u8 (bi s (k : Int)))] ⟨(s16_138), trivial⟩ (by kernel_rfl) (.bool ((bi s (k : Int)) == 92)) (.bool (decide ((bi s (k : Int)) = 92))) (by kernel_rfl) V.t_eql ?_)
            refine V.go (V.asg (v := (.bool (decide ((bi s (k : Int)) = 92)))) (at_same hz131 rfl _) ?_)
            refine V.nil ?_
            refine V.then_n (hK191 _ _ ?_)
            refine V.condP (p := (bi s (k : Int)) = 92) (at_same (hz131.put _ _) rfl _) (fun ht192 => ?_) (fun ht192 => ?_)
            ·
              refine V.seq (fun K193 hK194 => ?_)
              refine V.region (by kernel_rfl) ?_
              refine V.go (V.mv (v := (.int .i64 (k : Int))) (at_other rfl _ (at_other rfl _ (s3_135))) ?_)
              refine V.go (V.pvw [(37, .int .i64 (k : Int))] ⟨(at_same ((hz131.put _ _).put _ _) rfl _), trivial⟩ (by kernel_rfl) (.int .i64 (IntKind.i64.wrap ((k : Int) + 1))) (.int .i64 ((k : Int) + 1)) (by kernel_rfl) (V.w_i64 (by omega) (by omega)) ?_)
              refine V.go (V.ld ⟨b, 0, none⟩ (.string s) (at_other rfl _ (at_other rfl _ (at_other rfl _ (at_other rfl _ (s1_134))))) (by kernel_rfl) (hB_37.at 0 rfl) ?_)
              refine V.go (V.pv [(39, .string s)] ⟨(at_same ((((hz131.put _ _).put _ _).put _ _).put _ _) rfl _), trivial⟩ (by kernel_rfl) (.int .i64 (s.size : Int)) (by kernel_rfl) ?_)
              refine V.go (V.pv [(38, .int .i64 ((k : Int) + 1)), (40, .int .i64 (s.size : Int))] ⟨(at_other rfl _ (at_other rfl _ (at_same (((hz131.put _ _).put _ _).put _ _) rfl _))), (at_same (((((hz131.put _ _).put _ _).put _ _).put _ _).put _ _) rfl _), trivial⟩ (by kernel_rfl) (.bool (decide (((k : Int) + 1) < (s.size : Int)))) (by kernel_rfl) ?_)
              refine V.nil ?_
              refine V.then_n (hK194 _ _ ?_)
              refine V.flushW (((((((hz131.put _ _).put _ _).put _ _).put _ _).put _ _).put _ _).put _ _) (fun a195 hz196 up197 => ?_)
              have s0_198 : a195.eval (.tmp 0) = (.func (.yield l) #[] #[]) := up197 _ _ (at_other rfl _ (at_other rfl _ (at_other rfl _ (at_other rfl _ (at_other rfl _ (at_other rfl _ (at_other rfl _ (s0_133))))))))
              have s1_199 : a195.eval (.tmp 1) = (.pointer (some ⟨b, 0, none⟩)) := up197 _ _ (at_other rfl _ (at_other rfl _ (at_other rfl _ (at_other rfl _ (at_other rfl _ (at_other rfl _ (at_other rfl _ (s1_134))))))))
              have s3_200 : a195.eval (.tmp 3) = (.int .i64 (k : Int)) := up197 _ _ (at_other rfl _ (at_other rfl _ (at_other rfl _ (at_other rfl _ (at_other rfl _ (at_other rfl _ (at_other rfl _ (s3_135))))))))
              have s4_201 : a195.eval (.tmp 4) = (.pointer (some ⟨b28, 0, none⟩)) := up197 _ _ (at_other rfl _ (at_other rfl _ (at_other rfl _ (at_other rfl _ (at_other rfl _ (at_other rfl _ (at_other rfl _ (s4_136))))))))
              have s5_202 : a195.eval (.tmp 5) = (.int .i64 1) := up197 _ _ (at_other rfl _ (at_other rfl _ (at_other rfl _ (at_other rfl _ (at_other rfl _ (at_other rfl _ (at_other rfl _ (s5_137))))))))
              have s41_203 : a195.eval (.tmp 41) = (.bool (decide (((k : Int) + 1) < (s.size : Int)))) := up197 _ _ (at_same ((((((hz131.put _ _).put _ _).put _ _).put _ _).put _ _).put _ _) rfl _)
              clear up197
              refine V.condP (p := ((k : Int) + 1) < (s.size : Int)) (s41_203) (fun ht204 => ?_) (fun ht204 => ?_)
              ·
                refine V.region (by kernel_rfl) ?_
                refine V.go (V.ld ⟨b, 0, none⟩ (.string s) (s1_199) (by kernel_rfl) (hB_37.at 0 rfl) ?_)
                refine V.go (V.mv (v := (.int .i64 (k : Int))) (at_other rfl _ (s3_200)) ?_)
                refine V.go (V.pvw [(43, .int .i64 (k : Int))] ⟨(at_same (hz196.put _ _) rfl _), trivial⟩ (by kernel_rfl) (.int .i64 (IntKind.i64.wrap ((k : Int) + 1))) (.int .i64 ((k : Int) + 1)) (by kernel_rfl) (V.w_i64 (by omega) (by omega)) ?_)
                refine V.go (V.ixs s .i64 ((k : Int) + 1) (at_other rfl _ (at_other rfl _ (at_same hz196 rfl _))) (at_same ((hz196.put _ _).put _ _) rfl _) (by omega) (by omega) (by kernel_rfl) ?_)
                have hb205 := byt_lt s ((k : Int) + 1)
                refine V.go (V.pv [(4, .pointer (some ⟨b28, 0, none⟩))] ⟨(at_other rfl _ (at_other rfl _ (at_other rfl _ (at_other rfl _ (s4_201))))), trivial⟩ (by kernel_rfl) (.pointer (some ⟨b28, 1, none⟩)) (by kernel_rfl) ?_)
                refine V.go (V.stn b28 1 (.int .u8 (bi s ((k : Int) + 1))) [.int .u8 (bi s ((k : Int) + 1))] (at_same ((((hz196.put _ _).put _ _).put _ _).put _ _) rfl _) (at_other rfl _ (at_same (((hz196.put _ _).put _ _).put _ _) rfl _)) rfl rfl (by kernel_rfl) hB35 (by simp) [.int .i64 3, .int .u8 (bi s ((k : Int) + 1)), .bool false, .slice none 0 0] rfl ?_)
                intro w206 hB207 hF208 hsw206
                have hB_209 := hB_37.fr1 hF208 (by omega)
                have hFr_210 := hFr_38.own hF208 (by simp <;> omega)
                refine V.go (V.asg (v := (.int .i64 2)) evc ?_)
                refine V.nil ?_
                refine V.blk_n ?_
                refine V.then_n (hK48 _ _ ?_)
                refine V.flushW ((((((hz196.put _ _).put _ _).put _ _).put _ _).put _ _).put _ _) (fun a211 hz212 up213 => ?_)
                have s0_214 : a211.eval (.tmp 0) = (.func (.yield l) #[] #[]) := up213 _ _ (at_other rfl _ (at_other rfl _ (at_other rfl _ (at_other rfl _ (at_other rfl _ (at_other rfl _ (s0_198)))))))
                have s1_215 : a211.eval (.tmp 1) = (.pointer (some ⟨b, 0, none⟩)) := up213 _ _ (at_other rfl _ (at_other rfl _ (at_other rfl _ (at_other rfl _ (at_other rfl _ (at_other rfl _ (s1_199)))))))
                have s3_216 : a211.eval (.tmp 3) = (.int .i64 (k : Int)) := up213 _ _ (at_other rfl _ (at_other rfl _ (at_other rfl _ (at_other rfl _ (at_other rfl _ (at_other rfl _ (s3_200)))))))
                have s4_217 : a211.eval (.tmp 4) = (.pointer (some ⟨b28, 0, none⟩)) := up213 _ _ (at_other rfl _ (at_other rfl _ (at_other rfl _ (at_other rfl _ (at_other rfl _ (at_other rfl _ (s4_201)))))))
                have s5_218 : a211.eval (.tmp 5) = (.int .i64 2) := up213 _ _ (at_same (((((hz196.put _ _).put _ _).put _ _).put _ _).put _ _) rfl _)
                clear up213
                refine V.seq (fun K219 hK220 => ?_)
                refine V.seq (fun K221 hK222 => ?_)
                refine V.region (by kernel_rfl) ?_
                refine V.go (V.mv (v := (.func (.yield l) #[] #[])) (s0_214) ?_)
                refine V.go (V.lds ⟨b28, 0, none⟩ [.int .i64 3, .int .u8 (bi s ((k : Int) + 1)), .bool false, .slice none 0 0] (at_other rfl _ (s4_217)) (by kernel_rfl) (blk_cells hB207 0 _ rfl) ?_)
                have hstep := ps_esc (s := s) (k := k) (by omega) (by omega)
                have hsq := hsp
                rw [hstep] at hsq
                refine V.go (V.yield l (encG (⟨3, bi s ((k : Int) + 1), false, []⟩, none, 0)) (at_other rfl _ (at_same hz212 rfl _)) (args1 (at_same (hz212.put _ _) rfl _)) (hY pre (⟨3, bi s ((k : Int) + 1), false, []⟩, none, 0) W0 w206 hJ hFr_210 (SlR.nil _ _ _) ⟨_, by simpa using hsq⟩) ?_)
                rintro _ w223 (⟨rfl, hJ224, hkp225⟩ | ⟨rfl, hJ224⟩)
                · refine ⟨_, rfl, ?_⟩
                  have hB226 : Blk w223 b [.string s] 9 := hB_209.same (hkp225.2 b (by simp))
                  have hF227 := Fr.refl [] w223
                  refine V.go (V.pv [(49, .bool true)] ⟨(at_same ((hz212.put _ _).put _ _) rfl _), trivial⟩ (by kernel_rfl) (.bool false) (by kernel_rfl) ?_)
                  refine V.nil ?_
                  refine V.then_n (hK222 _ _ ?_)
                  refine V.flushW ((((hz212.put _ _).put _ _).put _ _).put _ _) (fun a228 hz229 up230 => ?_)
                  have s0_231 : a228.eval (.tmp 0) = (.func (.yield l) #[] #[]) := up230 _ _ (at_other rfl _ (at_other rfl _ (at_other rfl _ (at_other rfl _ (s0_214)))))
                  have s1_232 : a228.eval (.tmp 1) = (.pointer (some ⟨b, 0, none⟩)) := up230 _ _ (at_other rfl _ (at_other rfl _ (at_other rfl _ (at_other rfl _ (s1_215)))))
                  have s3_233 : a228.eval (.tmp 3) = (.int .i64 (k : Int)) := up230 _ _ (at_other rfl _ (at_other rfl _ (at_other rfl _ (at_other rfl _ (s3_216)))))
                  have s5_234 : a228.eval (.tmp 5) = (.int .i64 2) := up230 _ _ (at_other rfl _ (at_other rfl _ (at_other rfl _ (at_other rfl _ (s5_218)))))
                  have s50_235 : a228.eval (.tmp 50) = (.bool false) := up230 _ _ (at_same (((hz212.put _ _).put _ _).put _ _) rfl _)
                  clear up230
                  refine V.cond_f (s50_235) ?_
                  refine V.skip ?_
                  refine V.then_n (hK220 _ _ ?_)
                  refine V.region (by kernel_rfl) ?_
                  refine V.go (V.mv (v := (.int .i64 (k : Int))) (s3_233) ?_)
                  refine V.go (V.mv (v := (.int .i64 2)) (at_other rfl _ (s5_234)) ?_)
                  refine V.go (V.pvw [(51, .int .i64 (k : Int)), (52, .int .i64 2)] ⟨(at_other rfl _ (at_same hz229 rfl _)), (at_same (hz229.put _ _) rfl _), trivial⟩ (by kernel_rfl) (.int .i64 (IntKind.i64.wrap ((k : Int) + 2))) (.int .i64 ((k : Int) + 2)) (by kernel_rfl) (V.w_i64 (by omega) (by omega)) ?_)
                  refine V.go (V.asg (v := (.int .i64 ((k : Int) + 2))) (at_same ((hz229.put _ _).put _ _) rfl _) ?_)
                  refine V.nil ?_
                  refine V.blk_n ?_
                  refine V.then_n ?_
                  refine ⟨k + 2, pre ++ [(⟨3, bi s ((k : Int) + 1), false, []⟩, none, 0)], w223, (by have := ints_length s; omega), ?_⟩
                  refine ⟨((((hz229.put _ _).put _ _).put _ _).put _ _), ?_, ?_, ?_, hB226, hF227, (by have := ints_length s; omega), (by simpa using hsq), hJ224⟩
                  · exact (at_other rfl _ (at_other rfl _ (at_other rfl _ (at_other rfl _ (s0_231)))))
                  · exact (at_other rfl _ (at_other rfl _ (at_other rfl _ (at_other rfl _ (s1_232)))))
                  · exact Eq.trans (at_same (((hz229.put _ _).put _ _).put _ _) rfl _) (V.int_eq (by omega))
                · refine ⟨_, rfl, ?_⟩
                  refine V.go (V.pv [(49, .bool false)] ⟨(at_same ((hz212.put _ _).put _ _) rfl _), trivial⟩ (by kernel_rfl) (.bool true) (by kernel_rfl) ?_)
                  refine V.nil ?_
                  refine V.then_n (hK222 _ _ ?_)
                  refine V.flushW ((((hz212.put _ _).put _ _).put _ _).put _ _) (fun a236 hz237 up238 => ?_)
                  have s0_239 : a236.eval (.tmp 0) = (.func (.yield l) #[] #[]) := up238 _ _ (at_other rfl _ (at_other rfl _ (at_other rfl _ (at_other rfl _ (s0_214)))))
                  have s1_240 : a236.eval (.tmp 1) = (.pointer (some ⟨b, 0, none⟩)) := up238 _ _ (at_other rfl _ (at_other rfl _ (at_other rfl _ (at_other rfl _ (s1_215)))))
                  have s3_241 : a236.eval (.tmp 3) = (.int .i64 (k : Int)) := up238 _ _ (at_other rfl _ (at_other rfl _ (at_other rfl _ (at_other rfl _ (s3_216)))))
                  have s5_242 : a236.eval (.tmp 5) = (.int .i64 2) := up238 _ _ (at_other rfl _ (at_other rfl _ (at_other rfl _ (at_other rfl _ (s5_218)))))
                  have s50_243 : a236.eval (.tmp 50) = (.bool true) := up238 _ _ (at_same (((hz212.put _ _).put _ _).put _ _) rfl _)
                  clear up238
                  refine V.cond_t (s50_243) ?_
                  refine V.ret ?_
                  refine V.then_r ?_
                  refine V.blk_r ?_
                  refine V.then_r ?_
                  refine V.blk_r ?_
                  refine V.ret0 hz237 rfl ?_
                  exact ⟨⟨_, rfl⟩, .inr ⟨_, w223, ⟨_, by simpa using hsq⟩, hJ224, Fr.refl [] _⟩⟩
              ·
                refine V.skip ?_
                refine V.blk_n ?_
                refine V.then_n (hK48 _ _ ?_)
                refine V.seq (fun K244 hK245 => ?_)
                refine V.seq (fun K246 hK247 => ?_)
                refine V.region (by kernel_rfl) ?_
                refine V.go (V.mv (v := (.func (.yield l) #[] #[])) (s0_198) ?_)
                refine V.go (V.lds ⟨b28, 0, none⟩ [.int .i64 3, .int .u8 (bi s (k : Int)), .bool false, .slice none 0 0] (at_other rfl _ (s4_201)) (by kernel_rfl) (blk_cells hB35 0 _ rfl) ?_)
                have hstep := ps_byte (s := s) (k := k) (by omega) (by omega) (by omega) (by omega) (by omega)
                have hsq := hsp
                rw [hstep] at hsq
                refine V.go (V.yield l (encG (⟨3, bi s (k : Int), false, []⟩, none, 0)) (at_other rfl _ (at_same hz196 rfl _)) (args1 (at_same (hz196.put _ _) rfl _)) (hY pre (⟨3, bi s (k : Int), false, []⟩, none, 0) W0 w34 hJ hFr_38 (SlR.nil _ _ _) ⟨_, by simpa using hsq⟩) ?_)
                rintro _ w248 (⟨rfl, hJ249, hkp250⟩ | ⟨rfl, hJ249⟩)
                · refine ⟨_, rfl, ?_⟩
                  have hB251 : Blk w248 b [.string s] 9 := hB_37.same (hkp250.2 b (by simp))
                  have hF252 := Fr.refl [] w248
                  refine V.go (V.pv [(49, .bool true)] ⟨(at_same ((hz196.put _ _).put _ _) rfl _), trivial⟩ (by kernel_rfl) (.bool false) (by kernel_rfl) ?_)
                  refine V.nil ?_
                  refine V.then_n (hK247 _ _ ?_)
                  refine V.flushW ((((hz196.put _ _).put _ _).put _ _).put _ _) (fun a253 hz254 up255 => ?_)
                  have s0_256 : a253.eval (.tmp 0) = (.func (.yield l) #[] #[]) := up255 _ _ (at_other rfl _ (at_other rfl _ (at_other rfl _ (at_other rfl _ (s0_198)))))
                  have s1_257 : a253.eval (.tmp 1) = (.pointer (some ⟨b, 0, none⟩)) := up255 _ _ (at_other rfl _ (at_other rfl _ (at_other rfl _ (at_other rfl _ (s1_199)))))
                  have s3_258 : a253.eval (.tmp 3) = (.int .i64 (k : Int)) := up255 _ _ (at_other rfl _ (at_other rfl _ (at_other rfl _ (at_other rfl _ (s3_200)))))
                  have s5_259 : a253.eval (.tmp 5) = (.int .i64 1) := up255 _ _ (at_other rfl _ (at_other rfl _ (at_other rfl _ (at_other rfl _ (s5_202)))))
                  have s50_260 : a253.eval (.tmp 50) = (.bool false) := up255 _ _ (at_same (((hz196.put _ _).put _ _).put _ _) rfl _)
                  clear up255
                  refine V.cond_f (s50_260) ?_
                  refine V.skip ?_
                  refine V.then_n (hK245 _ _ ?_)
                  refine V.region (by kernel_rfl) ?_
                  refine V.go (V.mv (v := (.int .i64 (k : Int))) (s3_258) ?_)
                  refine V.go (V.mv (v := (.int .i64 1)) (at_other rfl _ (s5_259)) ?_)
                  refine V.go (V.pvw [(51, .int .i64 (k : Int)), (52, .int .i64 1)] ⟨(at_other rfl _ (at_same hz254 rfl _)), (at_same (hz254.put _ _) rfl _), trivial⟩ (by kernel_rfl) (.int .i64 (IntKind.i64.wrap ((k : Int) + 1))) (.int .i64 ((k : Int) + 1)) (by kernel_rfl) (V.w_i64 (by omega) (by omega)) ?_)
                  refine V.go (V.asg (v := (.int .i64 ((k : Int) + 1))) (at_same ((hz254.put _ _).put _ _) rfl _) ?_)
                  refine V.nil ?_
                  refine V.blk_n ?_
                  refine V.then_n ?_
                  refine ⟨k + 1, pre ++ [(⟨3, bi s (k : Int), false, []⟩, none, 0)], w248, (by have := ints_length s; omega), ?_⟩
                  refine ⟨((((hz254.put _ _).put _ _).put _ _).put _ _), ?_, ?_, ?_, hB251, hF252, (by have := ints_length s; omega), (by simpa using hsq), hJ249⟩
                  · exact (at_other rfl _ (at_other rfl _ (at_other rfl _ (at_other rfl _ (s0_256)))))
                  · exact (at_other rfl _ (at_other rfl _ (at_other rfl _ (at_other rfl _ (s1_257)))))
                  · exact Eq.trans (at_same (((hz254.put _ _).put _ _).put _ _) rfl _) (V.int_eq (by omega))
                · refine ⟨_, rfl, ?_⟩
                  refine V.go (V.pv [(49, .bool false)] ⟨(at_same ((hz196.put _ _).put _ _) rfl _), trivial⟩ (by kernel_rfl) (.bool true) (by kernel_rfl) ?_)
                  refine V.nil ?_
                  refine V.then_n (hK247 _ _ ?_)
                  refine V.flushW ((((hz196.put _ _).put _ _).put _ _).put _ _) (fun a261 hz262 up263 => ?_)
                  have s0_264 : a261.eval (.tmp 0) = (.func (.yield l) #[] #[]) := up263 _ _ (at_other rfl _ (at_other rfl _ (at_other rfl _ (at_other rfl _ (s0_198)))))
                  have s1_265 : a261.eval (.tmp 1) = (.pointer (some ⟨b, 0, none⟩)) := up263 _ _ (at_other rfl _ (at_other rfl _ (at_other rfl _ (at_other rfl _ (s1_199)))))
                  have s3_266 : a261.eval (.tmp 3) = (.int .i64 (k : Int)) := up263 _ _ (at_other rfl _ (at_other rfl _ (at_other rfl _ (at_other rfl _ (s3_200)))))
                  have s5_267 : a261.eval (.tmp 5) = (.int .i64 1) := up263 _ _ (at_other rfl _ (at_other rfl _ (at_other rfl _ (at_other rfl _ (s5_202)))))
                  have s50_268 : a261.eval (.tmp 50) = (.bool true) := up263 _ _ (at_same (((hz196.put _ _).put _ _).put _ _) rfl _)
                  clear up263
                  refine V.cond_t (s50_268) ?_
                  refine V.ret ?_
                  refine V.then_r ?_
                  refine V.blk_r ?_
                  refine V.then_r ?_
                  refine V.blk_r ?_
                  refine V.ret0 hz262 rfl ?_
                  exact ⟨⟨_, rfl⟩, .inr ⟨_, w248, ⟨_, by simpa using hsq⟩, hJ249, Fr.refl [] _⟩⟩
            ·
              refine V.skip ?_
              refine V.blk_n ?_
              refine V.then_n (hK48 _ _ ?_)
              refine V.seq (fun K269 hK270 => ?_)
              refine V.seq (fun K271 hK272 => ?_)
              refine V.region (by kernel_rfl) ?_
              refine V.go (V.mv (v := (.func (.yield l) #[] #[])) (at_other rfl _ (at_other rfl _ (s0_133))) ?_)
              refine V.go (V.lds ⟨b28, 0, none⟩ [.int .i64 3, .int .u8 (bi s (k : Int)), .bool false, .slice none 0 0] (at_other rfl _ (at_other rfl _ (at_other rfl _ (s4_136)))) (by kernel_rfl) (blk_cells hB35 0 _ rfl) ?_)
              have hstep := ps_byte (s := s) (k := k) (by omega) (by omega) (by omega) (by omega) (by omega)
              have hsq := hsp
              rw [hstep] at hsq
              refine V.go (V.yield l (encG (⟨3, bi s (k : Int), false, []⟩, none, 0)) (at_other rfl _ (at_same ((hz131.put _ _).put _ _) rfl _)) (args1 (at_same (((hz131.put _ _).put _ _).put _ _) rfl _)) (hY pre (⟨3, bi s (k : Int), false, []⟩, none, 0) W0 w34 hJ hFr_38 (SlR.nil _ _ _) ⟨_, by simpa using hsq⟩) ?_)
              rintro _ w273 (⟨rfl, hJ274, hkp275⟩ | ⟨rfl, hJ274⟩)
              · refine ⟨_, rfl, ?_⟩
                have hB276 : Blk w273 b [.string s] 9 := hB_37.same (hkp275.2 b (by simp))
                have hF277 := Fr.refl [] w273
                refine V.go (V.pv [(49, .bool true)] ⟨(at_same ((((hz131.put _ _).put _ _).put _ _).put _ _) rfl _), trivial⟩ (by kernel_rfl) (.bool false) (by kernel_rfl) ?_)
                refine V.nil ?_
                refine V.then_n (hK272 _ _ ?_)
                refine V.flushW ((((((hz131.put _ _).put _ _).put _ _).put _ _).put _ _).put _ _) (fun a278 hz279 up280 => ?_)
                have s0_281 : a278.eval (.tmp 0) = (.func (.yield l) #[] #[]) := up280 _ _ (at_other rfl _ (at_other rfl _ (at_other rfl _ (at_other rfl _ (at_other rfl _ (at_other rfl _ (s0_133)))))))
                have s1_282 : a278.eval (.tmp 1) = (.pointer (some ⟨b, 0, none⟩)) := up280 _ _ (at_other rfl _ (at_other rfl _ (at_other rfl _ (at_other rfl _ (at_other rfl _ (at_other rfl _ (s1_134)))))))
                have s3_283 : a278.eval (.tmp 3) = (.int .i64 (k : Int)) := up280 _ _ (at_other rfl _ (at_other rfl _ (at_other rfl _ (at_other rfl _ (at_other rfl _ (at_other rfl _ (s3_135)))))))
                have s5_284 : a278.eval (.tmp 5) = (.int .i64 1) := up280 _ _ (at_other rfl _ (at_other rfl _ (at_other rfl _ (at_other rfl _ (at_other rfl _ (at_other rfl _ (s5_137)))))))
                have s50_285 : a278.eval (.tmp 50) = (.bool false) := up280 _ _ (at_same (((((hz131.put _ _).put _ _).put _ _).put _ _).put _ _) rfl _)
                clear up280
                refine V.cond_f (s50_285) ?_
                refine V.skip ?_
                refine V.then_n (hK270 _ _ ?_)
                refine V.region (by kernel_rfl) ?_
                refine V.go (V.mv (v := (.int .i64 (k : Int))) (s3_283) ?_)
                refine V.go (V.mv (v := (.int .i64 1)) (at_other rfl _ (s5_284)) ?_)
                refine V.go (V.pvw [(51, .int .i64 (k : Int)), (52, .int .i64 1)] ⟨(at_other rfl _ (at_same hz279 rfl _)), (at_same (hz279.put _ _) rfl _), trivial⟩ (by kernel_rfl) (.int .i64 (IntKind.i64.wrap ((k : Int) + 1))) (.int .i64 ((k : Int) + 1)) (by kernel_rfl) (V.w_i64 (by omega) (by omega)) ?_)
                refine V.go (V.asg (v := (.int .i64 ((k : Int) + 1))) (at_same ((hz279.put _ _).put _ _) rfl _) ?_)
                refine V.nil ?_
                refine V.blk_n ?_
                refine V.then_n ?_
                refine ⟨k + 1, pre ++ [(⟨3, bi s (k : Int), false, []⟩, none, 0)], w273, (by have := ints_length s; omega), ?_⟩
                refine ⟨((((hz279.put _ _).put _ _).put _ _).put _ _), ?_, ?_, ?_, hB276, hF277, (by have := ints_length s; omega), (by simpa using hsq), hJ274⟩
                · exact (at_other rfl _ (at_other rfl _ (at_other rfl _ (at_other rfl _ (s0_281)))))
                · exact (at_other rfl _ (at_other rfl _ (at_other rfl _ (at_other rfl _ (s1_282)))))
                · exact Eq.trans (at_same (((hz279.put _ _).put _ _).put _ _) rfl _) (V.int_eq (by omega))
              · refine ⟨_, rfl, ?_⟩
                refine V.go (V.pv [(49, .bool false)] ⟨(at_same ((((hz131.put _ _).put _ _).put _ _).put _ _) rfl _), trivial⟩ (by kernel_rfl) (.bool true) (by kernel_rfl) ?_)
                refine V.nil ?_
                refine V.then_n (hK272 _ _ ?_)
                refine V.flushW ((((((hz131.put _ _).put _ _).put _ _).put _ _).put _ _).put _ _) (fun a286 hz287 up288 => ?_)
                have s0_289 : a286.eval (.tmp 0) = (.func (.yield l) #[] #[]) := up288 _ _ (at_other rfl _ (at_other rfl _ (at_other rfl _ (at_other rfl _ (at_other rfl _ (at_other rfl _ (s0_133)))))))
                have s1_290 : a286.eval (.tmp 1) = (.pointer (some ⟨b, 0, none⟩)) := up288 _ _ (at_other rfl _ (at_other rfl _ (at_other rfl _ (at_other rfl _ (at_other rfl _ (at_other rfl _ (s1_134)))))))
                have s3_291 : a286.eval (.tmp 3) = (.int .i64 (k : Int)) := up288 _ _ (at_other rfl _ (at_other rfl _ (at_other rfl _ (at_other rfl _ (at_other rfl _ (at_other rfl _ (s3_135)))))))
                have s5_292 : a286.eval (.tmp 5) = (.int .i64 1) := up288 _ _ (at_other rfl _ (at_other rfl _ (at_other rfl _ (at_other rfl _ (at_other rfl _ (at_other rfl _ (s5_137)))))))
                have s50_293 : a286.eval (.tmp 50) = (.bool true) := up288 _ _ (at_same (((((hz131.put _ _).put _ _).put _ _).put _ _).put _ _) rfl _)
                clear up288
                refine V.cond_t (s50_293) ?_
                refine V.ret ?_
                refine V.then_r ?_
                refine V.blk_r ?_
                refine V.then_r ?_
                refine V.blk_r ?_
                refine V.ret0 hz287 rfl ?_
                exact ⟨⟨_, rfl⟩, .inr ⟨_, w273, ⟨_, by simpa using hsq⟩, hJ274, Fr.refl [] _⟩⟩
    ·
      refine V.exit ?_
      refine V.then_e ?_
      refine V.then_e ?_
      refine V.blk_hit ?_
      refine V.end0 hz18 rfl ?_
      rw [ps_end (s := s) (k := k) (by omega), List.append_nil] at hsp
      exact ⟨⟨_, rfl⟩, .inl ⟨pre, W0, hsp, hJ, hFr_10⟩⟩
theorem parts_iter (w : World) (s : ByteArray) (hs : s.size ≤ 1048576) (b : Nat) (hB : Blk w b [.string s] 9) : Iter Try.prog 38 #[.pointer (some ⟨b, 0, none⟩)] encG XG (SG s) (SpG s) b w :=
  fun W1 hF l J Jx hY h0 => parts1_any W1 s hs b l J Jx (hB.fr0 hF) hY h0
end Go.Proofs.Ytmlohijidjbbjaa
