/- Walks: the reference's class. -/
import Derived.Test.YtmlohijidjbbjaaProg
import Derived.Test.YtmlohijidjbbjaaWa
namespace Go.Proofs.Ytmlohijidjbbjaa
open Go.V Go.Base
attribute [local irreducible] Act.put Act.eval
set_option linter.unusedVariables false
set_option linter.unusedSimpArgs false
set_option maxHeartbeats 4000000 in
set_option maxRecDepth 20000 in
theorem rclass_any (w : World) (s : ByteArray) (hs : s.size ≤ 1099511627776) : Calls Try.prog 30 #[.string s] w (fun e w' => ∃ A c, e = .returned (.tuple #[.agg #[.int .i64 4, .int .u8 0, .bool (cls (ints s)).1.neg, .slice A (cls (ints s)).1.rs.length c], .int .i64 (cls (ints s)).2]) ∧ SlR spanR (fun b => w.heap.size ≤ b) w' (.slice A (cls (ints s)).1.rs.length c) (cls (ints s)).1.rs ∧ Fr [] w w') := by
  have hF := Fr.refl [] w
  refine V.enter 117 Try.func30 rfl rfl ?_
  intro a hz ha
  have s0 : a.eval (.tmp 0) = (.string s) := ha 0 _ rfl
  clear ha
  refine V.seq (fun K1 hK2 => ?_)
  refine V.region (by kernel_rfl) ?_
  refine V.go (V.mk [] trivial (by kernel_rfl) [.int .i64 0, .int .u8 0, .bool false, .slice none 0 0] 42 (fun b => .pointer (some ⟨b, 0, none⟩)) (by kernel_rfl) ?_)
  intro w4 b3 heb3 hB5 hF6 hsb3
  have hF_7 := hF.new hF6
  refine V.go (V.asg (v := (.int .i64 0)) evc ?_)
  refine V.nil ?_
  refine V.then_n (hK2 _ _ ?_)
  refine V.seq (fun K8 hK9 => ?_)
  refine V.region (by kernel_rfl) ?_
  refine V.go (V.pv [] trivial (by kernel_rfl) (.agg #[.int .i64 4, .int .u8 0, .bool false, .slice none 0 0]) (by kernel_rfl) ?_)
  refine V.go (V.mk [] trivial (by kernel_rfl) [.int .i64 0, .int .u8 0, .bool false, .slice none 0 0] 42 (fun b => .pointer (some ⟨b, 0, none⟩)) (by kernel_rfl) ?_)
  intro w11 b10 heb10 hB12 hF13 hsb10
  have hF_14 := hF_7.new hF13
  have hB5_15 := hB5.fr0 hF13
  refine V.go (V.stn b10 0 (.agg #[.int .i64 4, .int .u8 0, .bool false, .slice none 0 0]) [.int .i64 4, .int .u8 0, .bool false, .slice none 0 0] (at_same (((hz.put _ _).put _ _).put _ _) rfl _) (at_other rfl _ (at_same ((hz.put _ _).put _ _) rfl _)) rfl rfl (by kernel_rfl) hB12 (by simp) [.int .i64 4, .int .u8 0, .bool false, .slice none 0 0] rfl ?_)
  intro w16 hB17 hF18 hsw16
  have hF_19 := hF_14.own hF18 (by simp <;> omega)
  have hB5_20 := hB5_15.fr1 hF18 (by omega)
  refine V.nil ?_
  refine V.then_n (hK9 _ _ ?_)
  refine V.flushW ((((hz.put _ _).put _ _).put _ _).put _ _) (fun a21 hz22 up23 => ?_)
  have s0_24 : a21.eval (.tmp 0) = (.string s) := up23 _ _ (at_other rfl _ (at_other rfl _ (at_other rfl _ (at_other rfl _ (s0)))))
  have s2_25 : a21.eval (.tmp 2) = (.pointer (some ⟨b3, 0, none⟩)) := up23 _ _ (at_other rfl _ (at_other rfl _ (at_other rfl _ (at_same hz rfl _))))
  have s4_26 : a21.eval (.tmp 4) = (.pointer (some ⟨b10, 0, none⟩)) := up23 _ _ (at_same (((hz.put _ _).put _ _).put _ _) rfl _)
  clear up23
  refine V.seq (fun K27 hK28 => ?_)
  refine V.region (by kernel_rfl) ?_
  refine V.go (V.asg (v := (.int .i64 0)) evc ?_)
  refine V.nil ?_
  refine V.then_n (hK28 _ _ ?_)
  refine V.seq_cut (fun a_ w_ => ∃ (neg : Bool), ∃ (i0 : Nat), Sz 117 a_ ∧ a_.eval (.tmp 0) = (.string s) ∧ a_.eval (.tmp 2) = (.pointer (some ⟨b3, 0, none⟩)) ∧ a_.eval (.tmp 4) = (.pointer (some ⟨b10, 0, none⟩)) ∧ a_.eval (.tmp 5) = (.int .i64 (i0 : Int)) ∧ Blk w_ b10 [.int .i64 4, .int .u8 0, .bool neg, .slice none 0 0] 42 ∧ Fr [] w w_ ∧ Blk w_ b3 [.int .i64 0, .int .u8 0, .bool false, .slice none 0 0] 42 ∧ ((neg = true ∧ i0 = 1 ∧ 0 < s.size ∧ bi s 0 = 94) ∨ (neg = false ∧ i0 = 0 ∧ (0 < s.size → bi s 0 ≠ 94))) ∧ (i0 ≤ s.size)) ?_ ?_
  ·
    refine V.seq (fun K29 hK30 => ?_)
    refine V.region (by kernel_rfl) ?_
    refine V.go (V.mv (v := (.int .i64 0)) (at_same hz22 rfl _) ?_)
    refine V.go (V.mv (v := (.string s)) (at_other rfl _ (at_other rfl _ (s0_24))) ?_)
    refine V.go (V.pv [(8, .string s)] ⟨(at_same ((hz22.put _ _).put _ _) rfl _), trivial⟩ (by kernel_rfl) (.int .i64 (s.size : Int)) (by kernel_rfl) ?_)
    refine V.go (V.pv [(7, .int .i64 0), (9, .int .i64 (s.size : Int))] ⟨(at_other rfl _ (at_other rfl _ (at_same (hz22.put _ _) rfl _))), (at_same (((hz22.put _ _).put _ _).put _ _) rfl _), trivial⟩ (by kernel_rfl) (.bool (decide (0 < (s.size : Int)))) (by kernel_rfl) ?_)
    refine V.go (V.mv (v := (.bool (decide (0 < (s.size : Int))))) (at_same ((((hz22.put _ _).put _ _).put _ _).put _ _) rfl _) ?_)
    by_cases hg31 : 0 < (s.size : Int)
    ·
      refine V.go_on 11 (by kernel_rfl) (((at_same (((((hz22.put _ _).put _ _).put _ _).put _ _).put _ _) rfl _ : Act.eval _ _ = (.bool (decide (0 < (s.size : Int)))))).trans (dt hg31)) (V.mv (v := (.string s)) (at_other rfl _ (at_other rfl _ (at_other rfl _ (at_other rfl _ (at_other rfl _ (at_other rfl _ (s0_24))))))) ?_)
      refine V.go_on 11 (by kernel_rfl) (((at_other rfl _ (at_same (((((hz22.put _ _).put _ _).put _ _).put _ _).put _ _) rfl _) : Act.eval _ _ = (.bool (decide (0 < (s.size : Int)))))).trans (dt hg31)) (V.mv (v := (.int .i64 0)) (at_other rfl _ (at_other rfl _ (at_other rfl _ (at_other rfl _ (at_other rfl _ (at_other rfl _ (at_same hz22 rfl _))))))) ?_)
      refine V.go_on 11 (by kernel_rfl) (((at_other rfl _ (at_other rfl _ (at_same (((((hz22.put _ _).put _ _).put _ _).put _ _).put _ _) rfl _)) : Act.eval _ _ = (.bool (decide (0 < (s.size : Int)))))).trans (dt hg31)) (V.ixs s .i64 0 (at_other rfl _ (at_same ((((((hz22.put _ _).put _ _).put _ _).put _ _).put _ _).put _ _) rfl _)) (at_same (((((((hz22.put _ _).put _ _).put _ _).put _ _).put _ _).put _ _).put _ _) rfl _) (by omega) (by omega) (by kernel_rfl) ?_)
      have hb32 := byt_lt s (0 : Int)
      refine V.go_on 11 (by kernel_rfl) (((at_other rfl _ (at_other rfl _ (at_other rfl _ (at_same (((((hz22.put _ _).put _ _).put _ _).put _ _).put _ _) rfl _))) : Act.eval _ _ = (.bool (decide (0 < (s.size : Int)))))).trans (dt hg31)) (V.pvw [(14, .int .u8 (bi s (0 : Int)))] ⟨(at_same ((((((((hz22.put _ _).put _ _).put _ _).put _ _).put _ _).put _ _).put _ _).put _ _) rfl _), trivial⟩ (by kernel_rfl) (.bool ((bi s (0 : Int)) == 94)) (.bool (decide ((bi s (0 : Int)) = 94))) (by kernel_rfl) V.t_eql ?_)
      refine V.go (V.pk_t (((at_other rfl _ (at_other rfl _ (at_other rfl _ (at_other rfl _ (at_same (((((hz22.put _ _).put _ _).put _ _).put _ _).put _ _) rfl _)))) : Act.eval _ _ = (.bool (decide (0 < (s.size : Int)))))).trans (dt hg31)) (v := (.bool (decide ((bi s (0 : Int)) = 94)))) (at_same (((((((((hz22.put _ _).put _ _).put _ _).put _ _).put _ _).put _ _).put _ _).put _ _).put _ _) rfl _) ?_)
      refine V.nil ?_
      refine V.then_n (hK30 _ _ ?_)
      refine V.flushW (((((((((((hz22.put _ _).put _ _).put _ _).put _ _).put _ _).put _ _).put _ _).put _ _).put _ _).put _ _).put _ _) (fun a33 hz34 up35 => ?_)
      have s0_36 : a33.eval (.tmp 0) = (.string s) := up35 _ _ (at_other rfl _ (at_other rfl _ (at_other rfl _ (at_other rfl _ (at_other rfl _ (at_other rfl _ (at_other rfl _ (at_other rfl _ (at_other rfl _ (at_other rfl _ (at_other rfl _ (s0_24))))))))))))
      have s2_37 : a33.eval (.tmp 2) = (.pointer (some ⟨b3, 0, none⟩)) := up35 _ _ (at_other rfl _ (at_other rfl _ (at_other rfl _ (at_other rfl _ (at_other rfl _ (at_other rfl _ (at_other rfl _ (at_other rfl _ (at_other rfl _ (at_other rfl _ (at_other rfl _ (s2_25))))))))))))
      have s4_38 : a33.eval (.tmp 4) = (.pointer (some ⟨b10, 0, none⟩)) := up35 _ _ (at_other rfl _ (at_other rfl _ (at_other rfl _ (at_other rfl _ (at_other rfl _ (at_other rfl _ (at_other rfl _ (at_other rfl _ (at_other rfl _ (at_other rfl _ (at_other rfl _ (s4_26))))))))))))
      have s5_39 : a33.eval (.tmp 5) = (.int .i64 0) := up35 _ _ (at_other rfl _ (at_other rfl _ (at_other rfl _ (at_other rfl _ (at_other rfl _ (at_other rfl _ (at_other rfl _ (at_other rfl _ (at_other rfl _ (at_other rfl _ (at_same hz22 rfl _)))))))))))
      have s16_40 : a33.eval (.tmp 16) = (.bool (decide ((bi s (0 : Int)) = 94))) := up35 _ _ (at_same ((((((((((hz22.put _ _).put _ _).put _ _).put _ _).put _ _).put _ _).put _ _).put _ _).put _ _).put _ _) rfl _)
      clear up35
      refine V.condP (p := (bi s (0 : Int)) = 94) (s16_40) (fun ht41 => ?_) (fun ht41 => ?_)
      ·
        refine V.seq (fun K42 hK43 => ?_)
        refine V.region (by kernel_rfl) ?_
        refine V.go (V.pv [(4, .pointer (some ⟨b10, 0, none⟩))] ⟨(s4_38), trivial⟩ (by kernel_rfl) (.pointer (some ⟨b10, 2, none⟩)) (by kernel_rfl) ?_)
        refine V.go (V.stn b10 2 (.bool true) [.bool true] (at_same hz34 rfl _) evc rfl rfl (by kernel_rfl) hB17 (by simp) [.int .i64 4, .int .u8 0, .bool true, .slice none 0 0] rfl ?_)
        intro w44 hB45 hF46 hsw44
        have hF_47 := hF_19.own hF46 (by simp <;> omega)
        have hB5_48 := hB5_20.fr1 hF46 (by omega)
        refine V.nil ?_
        refine V.then_n (hK43 _ _ ?_)
        refine V.region (by kernel_rfl) ?_
        refine V.go (V.mv (v := (.int .i64 0)) (at_other rfl _ (s5_39)) ?_)
        refine V.go (V.pvw [(18, .int .i64 0)] ⟨(at_same (hz34.put _ _) rfl _), trivial⟩ (by kernel_rfl) (.int .i64 (IntKind.i64.wrap (0 + 1))) (.int .i64 (0 + 1)) (by kernel_rfl) (V.w_i64 (by omega) (by omega)) ?_)
        refine V.go (V.asg (v := (.int .i64 (0 + 1))) (at_same ((hz34.put _ _).put _ _) rfl _) ?_)
        refine V.nil ?_
        refine V.then_n ?_
        refine ⟨true, 1, ((((hz34.put _ _).put _ _).put _ _).put _ _), ?_, ?_, ?_, ?_, hB45, hF_47, hB5_48, (.inl ⟨rfl, rfl, by omega, by assumption⟩), (by omega)⟩
        · exact (at_other rfl _ (at_other rfl _ (at_other rfl _ (at_other rfl _ (s0_36)))))
        · exact (at_other rfl _ (at_other rfl _ (at_other rfl _ (at_other rfl _ (s2_37)))))
        · exact (at_other rfl _ (at_other rfl _ (at_other rfl _ (at_other rfl _ (s4_38)))))
        · exact Eq.trans (at_same (((hz34.put _ _).put _ _).put _ _) rfl _) (V.int_eq (by omega))
      ·
        refine V.skip ?_
        refine V.then_n ?_
        refine ⟨false, 0, hz34, ?_, ?_, ?_, ?_, hB17, hF_19, hB5_20, (.inr ⟨rfl, rfl, fun h => by first | assumption | (exfalso; omega)⟩), (by omega)⟩
        · exact (s0_36)
        · exact (s2_37)
        · exact (s4_38)
        · exact Eq.trans (s5_39) (V.int_eq (by omega))
    ·
      refine V.go_off 11 (by kernel_rfl) (((at_same (((((hz22.put _ _).put _ _).put _ _).put _ _).put _ _) rfl _ : Act.eval _ _ = (.bool (decide (0 < (s.size : Int)))))).trans (df hg31)) (by kernel_rfl) ?_
      refine V.go_off 11 (by kernel_rfl) (((at_other rfl _ (at_same (((((hz22.put _ _).put _ _).put _ _).put _ _).put _ _) rfl _) : Act.eval _ _ = (.bool (decide (0 < (s.size : Int)))))).trans (df hg31)) (by kernel_rfl) ?_
      refine V.go_off 11 (by kernel_rfl) (((at_other rfl _ (at_other rfl _ (at_same (((((hz22.put _ _).put _ _).put _ _).put _ _).put _ _) rfl _)) : Act.eval _ _ = (.bool (decide (0 < (s.size : Int)))))).trans (df hg31)) (by kernel_rfl) ?_
      refine V.go_off 11 (by kernel_rfl) (((at_other rfl _ (at_other rfl _ (at_other rfl _ (at_same (((((hz22.put _ _).put _ _).put _ _).put _ _).put _ _) rfl _))) : Act.eval _ _ = (.bool (decide (0 < (s.size : Int)))))).trans (df hg31)) (by kernel_rfl) ?_
      refine V.go (V.pk_f (((at_other rfl _ (at_other rfl _ (at_other rfl _ (at_other rfl _ (at_same (((((hz22.put _ _).put _ _).put _ _).put _ _).put _ _) rfl _)))) : Act.eval _ _ = (.bool (decide (0 < (s.size : Int)))))).trans (df hg31)) (v := (.bool false)) evc ?_)
      refine V.nil ?_
      refine V.then_n (hK30 _ _ ?_)
      refine V.flushW (((((((((((hz22.put _ _).put _ _).put _ _).put _ _).put _ _).put _ _).put _ _).put _ _).put _ _).put _ _).put _ _) (fun a49 hz50 up51 => ?_)
      have s0_52 : a49.eval (.tmp 0) = (.string s) := up51 _ _ (at_other rfl _ (at_other rfl _ (at_other rfl _ (at_other rfl _ (at_other rfl _ (at_other rfl _ (at_other rfl _ (at_other rfl _ (at_other rfl _ (at_other rfl _ (at_other rfl _ (s0_24))))))))))))
      have s2_53 : a49.eval (.tmp 2) = (.pointer (some ⟨b3, 0, none⟩)) := up51 _ _ (at_other rfl _ (at_other rfl _ (at_other rfl _ (at_other rfl _ (at_other rfl _ (at_other rfl _ (at_other rfl _ (at_other rfl _ (at_other rfl _ (at_other rfl _ (at_other rfl _ (s2_25))))))))))))
      have s4_54 : a49.eval (.tmp 4) = (.pointer (some ⟨b10, 0, none⟩)) := up51 _ _ (at_other rfl _ (at_other rfl _ (at_other rfl _ (at_other rfl _ (at_other rfl _ (at_other rfl _ (at_other rfl _ (at_other rfl _ (at_other rfl _ (at_other rfl _ (at_other rfl _ (s4_26))))))))))))
      have s5_55 : a49.eval (.tmp 5) = (.int .i64 0) := up51 _ _ (at_other rfl _ (at_other rfl _ (at_other rfl _ (at_other rfl _ (at_other rfl _ (at_other rfl _ (at_other rfl _ (at_other rfl _ (at_other rfl _ (at_other rfl _ (at_same hz22 rfl _)))))))))))
      have s16_56 : a49.eval (.tmp 16) = (.bool false) := up51 _ _ (at_same ((((((((((hz22.put _ _).put _ _).put _ _).put _ _).put _ _).put _ _).put _ _).put _ _).put _ _).put _ _) rfl _)
      clear up51
      refine V.cond_f (s16_56) ?_
      refine V.skip ?_
      refine V.then_n ?_
      refine ⟨false, 0, hz50, ?_, ?_, ?_, ?_, hB17, hF_19, hB5_20, (.inr ⟨rfl, rfl, fun h => by first | assumption | (exfalso; omega)⟩), (by omega)⟩
      · exact (s0_52)
      · exact (s2_53)
      · exact (s4_54)
      · exact Eq.trans (s5_55) (V.int_eq (by omega))
  ·
    rintro a57 w58 ⟨neg, i0, hz59, s0_60, s2_61, s4_62, s5_63, hB4_64, hF_65, hB5_66, hneg, hi0⟩
    have hlt67 := hB4_64.lt
    have hfs68 := hF_65.size
    have hlt69 := hB5_66.lt
    refine V.seq (fun K70 hK71 => ?_)
    refine V.block ?_
    have hO0 := OwR.nil spanR NoZ w58 (b10 + 1) 54
    refine V.loop4 (fun (k : Nat) (acc : List Span) (A : Option Addr) (c : Nat) a_ w_ => Sz 117 a_ ∧ a_.eval (.tmp 0) = (.string s) ∧ a_.eval (.tmp 2) = (.pointer (some ⟨b3, 0, none⟩)) ∧ a_.eval (.tmp 4) = (.pointer (some ⟨b10, 0, none⟩)) ∧ a_.eval (.tmp 5) = (.int .i64 (k : Int)) ∧ Blk w_ b10 [.int .i64 4, .int .u8 0, .bool neg, .slice A acc.length c] 42 ∧ OwR spanR NoZ w_ (b10 + 1) 54 (.slice A acc.length c) acc ∧ Fr [] w w_ ∧ Blk w_ b3 [.int .i64 0, .int .u8 0, .bool false, .slice none 0 0] 42 ∧ (k ≤ s.size) ∧ (acc.length ≤ k) ∧ (acc ++ (spans ((ints s).drop k)).1 = (spans ((ints s).drop i0)).1 ∧ k + (spans ((ints s).drop k)).2 = i0 + (spans ((ints s).drop i0)).2)) (fun (k : Nat) (acc : List Span) (A : Option Addr) (c : Nat) => s.size - k) i0 ([]) none 0 ?_ ?_
    ·
      refine ⟨hz59, ?_, ?_, ?_, ?_, hB4_64, hO0, hF_65, hB5_66, (by omega), (by simp), ⟨by simp, by omega⟩⟩
      · exact (s0_60)
      · exact (s2_61)
      · exact (s4_62)
      · exact Eq.trans (s5_63) (V.int_eq (by omega))
    ·
      rintro k acc A c a72 w73 ⟨hz74, s0_75, s2_76, s4_77, s5_78, hB4_79, hO_80, hF_81, hB5_82, hk, hacc, hsp⟩
      have hlt83 := hB4_79.lt
      have hfs84 := hF_81.size
      have hlt85 := hB5_82.lt
      have hbk := byt_lt s k
      have hlk := ints_length s
      refine V.seq (fun K86 hK87 => ?_)
      refine V.seq (fun K88 hK89 => ?_)
      refine V.region (by kernel_rfl) ?_
      refine V.go (V.mv (v := (.int .i64 (k : Int))) (s5_78) ?_)
      refine V.go (V.mv (v := (.string s)) (at_other rfl _ (s0_75)) ?_)
      refine V.go (V.pv [(21, .string s)] ⟨(at_same (hz74.put _ _) rfl _), trivial⟩ (by kernel_rfl) (.int .i64 (s.size : Int)) (by kernel_rfl) ?_)
      refine V.go (V.pv [(20, .int .i64 (k : Int)), (22, .int .i64 (s.size : Int))] ⟨(at_other rfl _ (at_other rfl _ (at_same hz74 rfl _))), (at_same ((hz74.put _ _).put _ _) rfl _), trivial⟩ (by kernel_rfl) (.bool (decide ((k : Int) < (s.size : Int)))) (by kernel_rfl) ?_)
      refine V.go (V.mv (v := (.bool (decide ((k : Int) < (s.size : Int))))) (at_same (((hz74.put _ _).put _ _).put _ _) rfl _) ?_)
      by_cases hg90 : (k : Int) < (s.size : Int)
      ·
        refine V.go_on 24 (by kernel_rfl) (((at_same ((((hz74.put _ _).put _ _).put _ _).put _ _) rfl _ : Act.eval _ _ = (.bool (decide ((k : Int) < (s.size : Int)))))).trans (dt hg90)) (V.mv (v := (.string s)) (at_other rfl _ (at_other rfl _ (at_other rfl _ (at_other rfl _ (at_other rfl _ (s0_75)))))) ?_)
        refine V.go_on 24 (by kernel_rfl) (((at_other rfl _ (at_same ((((hz74.put _ _).put _ _).put _ _).put _ _) rfl _) : Act.eval _ _ = (.bool (decide ((k : Int) < (s.size : Int)))))).trans (dt hg90)) (V.mv (v := (.int .i64 (k : Int))) (at_other rfl _ (at_other rfl _ (at_other rfl _ (at_other rfl _ (at_other rfl _ (at_other rfl _ (s5_78))))))) ?_)
        refine V.go_on 24 (by kernel_rfl) (((at_other rfl _ (at_other rfl _ (at_same ((((hz74.put _ _).put _ _).put _ _).put _ _) rfl _)) : Act.eval _ _ = (.bool (decide ((k : Int) < (s.size : Int)))))).trans (dt hg90)) (V.ixs s .i64 (k : Int) (at_other rfl _ (at_same (((((hz74.put _ _).put _ _).put _ _).put _ _).put _ _) rfl _)) (at_same ((((((hz74.put _ _).put _ _).put _ _).put _ _).put _ _).put _ _) rfl _) (by omega) (by omega) (by kernel_rfl) ?_)
        have hb91 := byt_lt s (k : Int)
        refine V.go_on 24 (by kernel_rfl) (((at_other rfl _ (at_other rfl _ (at_other rfl _ (at_same ((((hz74.put _ _).put _ _).put _ _).put _ _) rfl _))) : Act.eval _ _ = (.bool (decide ((k : Int) < (s.size : Int)))))).trans (dt hg90)) (V.pvw [(27, .int .u8 (bi s (k : Int)))] ⟨(at_same (((((((hz74.put _ _).put _ _).put _ _).put _ _).put _ _).put _ _).put _ _) rfl _), trivial⟩ (by kernel_rfl) (.bool ((bi s (k : Int)) != 93)) (.bool (decide (¬ (bi s (k : Int)) = 93))) (by kernel_rfl) V.t_neq ?_)
        refine V.go (V.pk_t (((at_other rfl _ (at_other rfl _ (at_other rfl _ (at_other rfl _ (at_same ((((hz74.put _ _).put _ _).put _ _).put _ _) rfl _)))) : Act.eval _ _ = (.bool (decide ((k : Int) < (s.size : Int)))))).trans (dt hg90)) (v := (.bool (decide (¬ (bi s (k : Int)) = 93)))) (at_same ((((((((hz74.put _ _).put _ _).put _ _).put _ _).put _ _).put _ _).put _ _).put _ _) rfl _) ?_)
        refine V.nil ?_
        refine V.then_n (hK89 _ _ ?_)
        refine V.flushW ((((((((((hz74.put _ _).put _ _).put _ _).put _ _).put _ _).put _ _).put _ _).put _ _).put _ _).put _ _) (fun a92 hz93 up94 => ?_)
        have s0_95 : a92.eval (.tmp 0) = (.string s) := up94 _ _ (at_other rfl _ (at_other rfl _ (at_other rfl _ (at_other rfl _ (at_other rfl _ (at_other rfl _ (at_other rfl _ (at_other rfl _ (at_other rfl _ (at_other rfl _ (s0_75)))))))))))
        have s2_96 : a92.eval (.tmp 2) = (.pointer (some ⟨b3, 0, none⟩)) := up94 _ _ (at_other rfl _ (at_other rfl _ (at_other rfl _ (at_other rfl _ (at_other rfl _ (at_other rfl _ (at_other rfl _ (at_other rfl _ (at_other rfl _ (at_other rfl _ (s2_76)))))))))))
        have s4_97 : a92.eval (.tmp 4) = (.pointer (some ⟨b10, 0, none⟩)) := up94 _ _ (at_other rfl _ (at_other rfl _ (at_other rfl _ (at_other rfl _ (at_other rfl _ (at_other rfl _ (at_other rfl _ (at_other rfl _ (at_other rfl _ (at_other rfl _ (s4_77)))))))))))
        have s5_98 : a92.eval (.tmp 5) = (.int .i64 (k : Int)) := up94 _ _ (at_other rfl _ (at_other rfl _ (at_other rfl _ (at_other rfl _ (at_other rfl _ (at_other rfl _ (at_other rfl _ (at_other rfl _ (at_other rfl _ (at_other rfl _ (s5_78)))))))))))
        have s29_99 : a92.eval (.tmp 29) = (.bool (decide (¬ (bi s (k : Int)) = 93))) := up94 _ _ (at_same (((((((((hz74.put _ _).put _ _).put _ _).put _ _).put _ _).put _ _).put _ _).put _ _).put _ _) rfl _)
        clear up94
        refine V.condP (p := ¬ (bi s (k : Int)) = 93) (s29_99) (fun ht100 => ?_) (fun ht100 => ?_)
        ·
          refine V.skip ?_
          refine V.then_n (hK87 _ _ ?_)
          refine V.block ?_
          refine V.block ?_
          refine V.seq (fun K101 hK102 => ?_)
          refine V.region (by kernel_rfl) ?_
          refine V.go (V.mv (v := (.string s)) (s0_95) ?_)
          refine V.go (V.mv (v := (.int .i64 (k : Int))) (at_other rfl _ (s5_98)) ?_)
          refine V.go (V.ixs s .i64 (k : Int) (at_other rfl _ (at_same hz93 rfl _)) (at_same (hz93.put _ _) rfl _) (by omega) (by omega) (by kernel_rfl) ?_)
          have hb103 := byt_lt s (k : Int)
          refine V.go (V.pvw [(47, .int .u8 (bi s (k : Int)))] ⟨(at_same ((hz93.put _ _).put _ _) rfl _), trivial⟩ (by kernel_rfl) (.bool ((bi s (k : Int)) == 92)) (.bool (decide ((bi s (k : Int)) = 92))) (by kernel_rfl) V.t_eql ?_)
          refine V.go (V.mv (v := (.bool (decide ((bi s (k : Int)) = 92)))) (at_same (((hz93.put _ _).put _ _).put _ _) rfl _) ?_)
          by_cases hg104 : (bi s (k : Int)) = 92
          ·
            refine V.go_on 49 (by kernel_rfl) (((at_same ((((hz93.put _ _).put _ _).put _ _).put _ _) rfl _ : Act.eval _ _ = (.bool (decide ((bi s (k : Int)) = 92))))).trans (dt hg104)) (V.mv (v := (.int .i64 (k : Int))) (at_other rfl _ (at_other rfl _ (at_other rfl _ (at_other rfl _ (at_other rfl _ (s5_98)))))) ?_)
            refine V.go_on 49 (by kernel_rfl) (((at_other rfl _ (at_same ((((hz93.put _ _).put _ _).put _ _).put _ _) rfl _) : Act.eval _ _ = (.bool (decide ((bi s (k : Int)) = 92))))).trans (dt hg104)) (V.pvw [(50, .int .i64 (k : Int))] ⟨(at_same (((((hz93.put _ _).put _ _).put _ _).put _ _).put _ _) rfl _), trivial⟩ (by kernel_rfl) (.int .i64 (IntKind.i64.wrap ((k : Int) + 1))) (.int .i64 ((k : Int) + 1)) (by kernel_rfl) (V.w_i64 (by omega) (by omega)) ?_)
            refine V.go_on 49 (by kernel_rfl) (((at_other rfl _ (at_other rfl _ (at_same ((((hz93.put _ _).put _ _).put _ _).put _ _) rfl _)) : Act.eval _ _ = (.bool (decide ((bi s (k : Int)) = 92))))).trans (dt hg104)) (V.mv (v := (.string s)) (at_other rfl _ (at_other rfl _ (at_other rfl _ (at_other rfl _ (at_other rfl _ (at_other rfl _ (at_other rfl _ (s0_95)))))))) ?_)
            refine V.go_on 49 (by kernel_rfl) (((at_other rfl _ (at_other rfl _ (at_other rfl _ (at_same ((((hz93.put _ _).put _ _).put _ _).put _ _) rfl _))) : Act.eval _ _ = (.bool (decide ((bi s (k : Int)) = 92))))).trans (dt hg104)) (V.pv [(52, .string s)] ⟨(at_same (((((((hz93.put _ _).put _ _).put _ _).put _ _).put _ _).put _ _).put _ _) rfl _), trivial⟩ (by kernel_rfl) (.int .i64 (s.size : Int)) (by kernel_rfl) ?_)
            refine V.go_on 49 (by kernel_rfl) (((at_other rfl _ (at_other rfl _ (at_other rfl _ (at_other rfl _ (at_same ((((hz93.put _ _).put _ _).put _ _).put _ _) rfl _)))) : Act.eval _ _ = (.bool (decide ((bi s (k : Int)) = 92))))).trans (dt hg104)) (V.pv [(51, .int .i64 ((k : Int) + 1)), (53, .int .i64 (s.size : Int))] ⟨(at_other rfl _ (at_other rfl _ (at_same ((((((hz93.put _ _).put _ _).put _ _).put _ _).put _ _).put _ _) rfl _))), (at_same ((((((((hz93.put _ _).put _ _).put _ _).put _ _).put _ _).put _ _).put _ _).put _ _) rfl _), trivial⟩ (by kernel_rfl) (.bool (decide (((k : Int) + 1) < (s.size : Int)))) (by kernel_rfl) ?_)
            refine V.go (V.pk_t (((at_other rfl _ (at_other rfl _ (at_other rfl _ (at_other rfl _ (at_other rfl _ (at_same ((((hz93.put _ _).put _ _).put _ _).put _ _) rfl _))))) : Act.eval _ _ = (.bool (decide ((bi s (k : Int)) = 92))))).trans (dt hg104)) (v := (.bool (decide (((k : Int) + 1) < (s.size : Int))))) (at_same (((((((((hz93.put _ _).put _ _).put _ _).put _ _).put _ _).put _ _).put _ _).put _ _).put _ _) rfl _) ?_)
            refine V.go (V.asg (v := (.bool (decide (((k : Int) + 1) < (s.size : Int))))) (at_same ((((((((((hz93.put _ _).put _ _).put _ _).put _ _).put _ _).put _ _).put _ _).put _ _).put _ _).put _ _) rfl _) ?_)
            refine V.nil ?_
            refine V.then_n (hK102 _ _ ?_)
            refine V.flushW ((((((((((((hz93.put _ _).put _ _).put _ _).put _ _).put _ _).put _ _).put _ _).put _ _).put _ _).put _ _).put _ _).put _ _) (fun a105 hz106 up107 => ?_)
            have s0_108 : a105.eval (.tmp 0) = (.string s) := up107 _ _ (at_other rfl _ (at_other rfl _ (at_other rfl _ (at_other rfl _ (at_other rfl _ (at_other rfl _ (at_other rfl _ (at_other rfl _ (at_other rfl _ (at_other rfl _ (at_other rfl _ (at_other rfl _ (s0_95)))))))))))))
            have s2_109 : a105.eval (.tmp 2) = (.pointer (some ⟨b3, 0, none⟩)) := up107 _ _ (at_other rfl _ (at_other rfl _ (at_other rfl _ (at_other rfl _ (at_other rfl _ (at_other rfl _ (at_other rfl _ (at_other rfl _ (at_other rfl _ (at_other rfl _ (at_other rfl _ (at_other rfl _ (s2_96)))))))))))))
            have s4_110 : a105.eval (.tmp 4) = (.pointer (some ⟨b10, 0, none⟩)) := up107 _ _ (at_other rfl _ (at_other rfl _ (at_other rfl _ (at_other rfl _ (at_other rfl _ (at_other rfl _ (at_other rfl _ (at_other rfl _ (at_other rfl _ (at_other rfl _ (at_other rfl _ (at_other rfl _ (s4_97)))))))))))))
            have s5_111 : a105.eval (.tmp 5) = (.int .i64 (k : Int)) := up107 _ _ (at_other rfl _ (at_other rfl _ (at_other rfl _ (at_other rfl _ (at_other rfl _ (at_other rfl _ (at_other rfl _ (at_other rfl _ (at_other rfl _ (at_other rfl _ (at_other rfl _ (at_other rfl _ (s5_98)))))))))))))
            have s44_112 : a105.eval (.tmp 44) = (.bool (decide (((k : Int) + 1) < (s.size : Int)))) := up107 _ _ (at_same (((((((((((hz93.put _ _).put _ _).put _ _).put _ _).put _ _).put _ _).put _ _).put _ _).put _ _).put _ _).put _ _) rfl _)
            clear up107
            refine V.condP (p := ((k : Int) + 1) < (s.size : Int)) (s44_112) (fun ht113 => ?_) (fun ht113 => ?_)
            ·
              refine V.seq (fun K114 hK115 => ?_)
              refine V.plan [[], [0], [], [], [3], [2, 3, 4], [], [], [7], [6, 7, 8], [2, 3, 4, 5, 6, 7, 8, 9], [2, 3, 4, 5, 6, 7, 8, 9, 10], [0, 1, 2, 3, 4, 5, 6, 7, 8, 9, 10, 11], [0, 1, 2, 3, 4, 5, 6, 7, 8, 9, 10, 11, 12], [0, 1, 2, 3, 4, 5, 6, 7, 8, 9, 10, 11, 12, 13]] [([0, 1, 2, 3, 4, 5, 6, 7, 8, 9, 10], some (11, [1])), ([], some (12, [])), ([13], some (14, [])), ([], none)] (by kernel_rfl) (by kernel_rfl) (by exact fun _ _ _ _ h => h) ?_
              simp only [Plan.wpSegs, Plan.pickAll, Plan.nth, V.L_eq]
              obtain ⟨w116, hF117e⟩ : ∃ w1, w1 = w73.drew := ⟨_, rfl⟩
              rw [← hF117e]
              have hF117 : Fr [] w73 w116 := by rw [hF117e]; exact Fr.drew _ _
              have hsw116 : w116.heap.size = w73.heap.size := by rw [hF117e]; rfl
              clear hF117e
              have hB4_118 := hB4_79.fr0 hF117
              have hO_119 := hO_80.fr0 hF117
              have hF_120 := hF_81.new hF117
              have hB5_121 := hB5_82.fr0 hF117
              refine V.go (V.pv [(4, .pointer (some ⟨b10, 0, none⟩))] ⟨(s4_110), trivial⟩ (by kernel_rfl) (.pointer (some ⟨b10, 3, none⟩)) (by kernel_rfl) ?_)
              refine V.go (V.ld ⟨b10, 3, none⟩ (.slice A acc.length c) (at_same hz106 rfl _) (by kernel_rfl) (hB4_118.at 3 rfl) ?_)
              refine V.go (V.mv (v := (.string s)) (at_other rfl _ (at_other rfl _ (s0_108))) ?_)
              refine V.go (V.mv (v := (.int .i64 (k : Int))) (at_other rfl _ (at_other rfl _ (at_other rfl _ (s5_111)))) ?_)
              refine V.go (V.pvw [(59, .int .i64 (k : Int))] ⟨(at_same (((hz106.put _ _).put _ _).put _ _) rfl _), trivial⟩ (by kernel_rfl) (.int .i64 (IntKind.i64.wrap ((k : Int) + 1))) (.int .i64 ((k : Int) + 1)) (by kernel_rfl) (V.w_i64 (by omega) (by omega)) ?_)
              refine V.go (V.ixs s .i64 ((k : Int) + 1) (at_other rfl _ (at_other rfl _ (at_same ((hz106.put _ _).put _ _) rfl _))) (at_same ((((hz106.put _ _).put _ _).put _ _).put _ _) rfl _) (by omega) (by omega) (by kernel_rfl) ?_)
              have hb122 := byt_lt s ((k : Int) + 1)
              refine V.go (V.mv (v := (.string s)) (at_other rfl _ (at_other rfl _ (at_other rfl _ (at_other rfl _ (at_other rfl _ (at_other rfl _ (s0_108))))))) ?_)
              refine V.go (V.mv (v := (.int .i64 (k : Int))) (at_other rfl _ (at_other rfl _ (at_other rfl _ (at_other rfl _ (at_other rfl _ (at_other rfl _ (at_other rfl _ (s5_111)))))))) ?_)
              refine V.go (V.pvw [(63, .int .i64 (k : Int))] ⟨(at_same (((((((hz106.put _ _).put _ _).put _ _).put _ _).put _ _).put _ _).put _ _) rfl _), trivial⟩ (by kernel_rfl) (.int .i64 (IntKind.i64.wrap ((k : Int) + 1))) (.int .i64 ((k : Int) + 1)) (by kernel_rfl) (V.w_i64 (by omega) (by omega)) ?_)
              refine V.go (V.ixs s .i64 ((k : Int) + 1) (at_other rfl _ (at_other rfl _ (at_same ((((((hz106.put _ _).put _ _).put _ _).put _ _).put _ _).put _ _) rfl _))) (at_same ((((((((hz106.put _ _).put _ _).put _ _).put _ _).put _ _).put _ _).put _ _).put _ _) rfl _) (by omega) (by omega) (by kernel_rfl) ?_)
              have hb123 := byt_lt s ((k : Int) + 1)
              refine V.go (V.pv [(61, .int .u8 (bi s ((k : Int) + 1))), (65, .int .u8 (bi s ((k : Int) + 1)))] ⟨(at_other rfl _ (at_other rfl _ (at_other rfl _ (at_other rfl _ (at_same (((((hz106.put _ _).put _ _).put _ _).put _ _).put _ _) rfl _))))), (at_same (((((((((hz106.put _ _).put _ _).put _ _).put _ _).put _ _).put _ _).put _ _).put _ _).put _ _) rfl _), trivial⟩ (by kernel_rfl) (.agg #[.int .u8 (bi s ((k : Int) + 1)), .int .u8 (bi s ((k : Int) + 1))]) (by kernel_rfl) ?_)
              refine V.nil ?_
              refine ⟨chk [(59, .int .i64 (k : Int)), (63, .int .i64 (k : Int))] ⟨(at_other rfl _ (at_other rfl _ (at_other rfl _ (at_other rfl _ (at_other rfl _ (at_other rfl _ (at_other rfl _ (at_same (((hz106.put _ _).put _ _).put _ _) rfl _)))))))), (at_other rfl _ (at_other rfl _ (at_other rfl _ (at_same (((((((hz106.put _ _).put _ _).put _ _).put _ _).put _ _).put _ _).put _ _) rfl _)))), trivial⟩ (by kernel_rfl), ?_⟩
              refine V.go (V.mk [(66, .agg #[.int .u8 (bi s ((k : Int) + 1)), .int .u8 (bi s ((k : Int) + 1))])] ⟨(at_same ((((((((((hz106.put _ _).put _ _).put _ _).put _ _).put _ _).put _ _).put _ _).put _ _).put _ _).put _ _) rfl _), trivial⟩ (by kernel_rfl) [.int .u8 (bi s ((k : Int) + 1)), .int .u8 (bi s ((k : Int) + 1))] 54 (fun b => .slice (some ⟨b, 0, none⟩) 1 1) (by kernel_rfl) ?_)
              intro w125 b124 heb124 hB126 hF127 hsb124
              have hB4_128 := hB4_118.fr0 hF127
              have hO_129 := hO_119.fr0 hF127
              have hF_130 := hF_120.new hF127
              have hB5_131 := hB5_121.fr0 hF127
              refine V.nil ?_
              refine ⟨(fun _ => held_blk (n := 1) (hx := (at_other rfl _ (at_other rfl _ (at_other rfl _ (at_other rfl _ (at_other rfl _ (at_other rfl _ (at_other rfl _ (at_other rfl _ (at_other rfl _ (at_other rfl _ (at_same hz106 rfl _)))))))))))) hB4_118 hB4_128 (by kernel_rfl) rfl (by simp only [List.length]; omega)), ?_⟩
              refine V.nil ?_
              refine ⟨chk [] trivial (by kernel_rfl), ?_⟩
              refine V.go (V.app (R := spanR) (ys := ([⟨bi s ((k : Int) + 1), bi s ((k : Int) + 1)⟩])) (news := [.int .u8 (bi s ((k : Int) + 1)), .int .u8 (bi s ((k : Int) + 1))]) (at_other rfl _ (at_other rfl _ (at_other rfl _ (at_other rfl _ (at_other rfl _ (at_other rfl _ (at_other rfl _ (at_other rfl _ (at_other rfl _ (at_other rfl _ (at_same (hz106.put _ _) rfl _))))))))))) ⟨b124, 0, none⟩ 1 1 (at_same (((((((((((hz106.put _ _).put _ _).put _ _).put _ _).put _ _).put _ _).put _ _).put _ _).put _ _).put _ _).put _ _) rfl _) (by kernel_rfl) (info54) (by kernel_rfl) (by decide) hO_129 rfl ⟨[.int .u8 (bi s ((k : Int) + 1)), .int .u8 (bi s ((k : Int) + 1))], [], rfl, rfl, rfl⟩ (blk_cells hB126 0 _ rfl) (by omega) (by decide) (by omega) ?_)
              intro A132 c133 w134 hO135z hF136 hatw134
              have hsw134 := hF136.size
              have hB4_137 := hB4_128.fr hF136 (by first | exact own_notin hO_129 (by omega) | exact own_notin2 hO_80 (by omega))
              have hF_138 := hF_130.own hF136 (own_ge hO_129 (by omega))
              have hB5_139 := hB5_131.fr hF136 (by first | exact own_notin hO_129 (by omega) | exact own_notin2 hO_80 (by omega))
              have hO135 := hO135z.zone (Z' := NoZ) (fun _ _ q => q.1) (fun _ _ q => q)
              refine V.nil ?_
              refine ⟨trivial, ?_⟩
              refine V.go (V.pv [(4, .pointer (some ⟨b10, 0, none⟩))] ⟨(at_other rfl _ (at_other rfl _ (at_other rfl _ (at_other rfl _ (at_other rfl _ (at_other rfl _ (at_other rfl _ (at_other rfl _ (at_other rfl _ (at_other rfl _ (at_other rfl _ (at_other rfl _ (at_other rfl _ (s4_110)))))))))))))), trivial⟩ (by kernel_rfl) (.pointer (some ⟨b10, 3, none⟩)) (by kernel_rfl) ?_)
              refine V.nil ?_
              refine ⟨chk [] trivial (by kernel_rfl), ?_⟩
              refine V.go (V.stn b10 3 (.slice A132 (acc.length + 1) c133) [.slice A132 (acc.length + 1) c133] (at_same (((((((((((((hz106.put _ _).put _ _).put _ _).put _ _).put _ _).put _ _).put _ _).put _ _).put _ _).put _ _).put _ _).put _ _).put _ _) rfl _) (at_other rfl _ (at_same ((((((((((((hz106.put _ _).put _ _).put _ _).put _ _).put _ _).put _ _).put _ _).put _ _).put _ _).put _ _).put _ _).put _ _) rfl _)) rfl rfl (by kernel_rfl) hB4_137 (by simp) [.int .i64 4, .int .u8 0, .bool neg, .slice A132 (acc.length + 1) c133] rfl ?_)
              intro w140 hB141 hF142 hsw140
              have hF_143 := hF_138.own hF142 (by simp <;> omega)
              have hB5_144 := hB5_139.fr1 hF142 (by omega)
              have hO135_145 := hO135.frn hF142 (fun h => h) (by first | exact own_ne hO135 (by omega) | exact own_ne2 hO135 (by omega))
              refine V.nil ?_
              refine ⟨trivial, ?_⟩
              refine V.nil ?_
              refine ⟨chk [] trivial (by kernel_rfl), ?_⟩
              refine V.then_n (hK115 _ _ ?_)
              refine V.flushW ((((((((((((((hz106.put _ _).put _ _).put _ _).put _ _).put _ _).put _ _).put _ _).put _ _).put _ _).put _ _).put _ _).put _ _).put _ _).put _ _) (fun a146 hz147 up148 => ?_)
              have s0_149 : a146.eval (.tmp 0) = (.string s) := up148 _ _ (at_other rfl _ (at_other rfl _ (at_other rfl _ (at_other rfl _ (at_other rfl _ (at_other rfl _ (at_other rfl _ (at_other rfl _ (at_other rfl _ (at_other rfl _ (at_other rfl _ (at_other rfl _ (at_other rfl _ (at_other rfl _ (s0_108)))))))))))))))
              have s2_150 : a146.eval (.tmp 2) = (.pointer (some ⟨b3, 0, none⟩)) := up148 _ _ (at_other rfl _ (at_other rfl _ (at_other rfl _ (at_other rfl _ (at_other rfl _ (at_other rfl _ (at_other rfl _ (at_other rfl _ (at_other rfl _ (at_other rfl _ (at_other rfl _ (at_other rfl _ (at_other rfl _ (at_other rfl _ (s2_109)))))))))))))))
              have s4_151 : a146.eval (.tmp 4) = (.pointer (some ⟨b10, 0, none⟩)) := up148 _ _ (at_other rfl _ (at_other rfl _ (at_other rfl _ (at_other rfl _ (at_other rfl _ (at_other rfl _ (at_other rfl _ (at_other rfl _ (at_other rfl _ (at_other rfl _ (at_other rfl _ (at_other rfl _ (at_other rfl _ (at_other rfl _ (s4_110)))))))))))))))
              have s5_152 : a146.eval (.tmp 5) = (.int .i64 (k : Int)) := up148 _ _ (at_other rfl _ (at_other rfl _ (at_other rfl _ (at_other rfl _ (at_other rfl _ (at_other rfl _ (at_other rfl _ (at_other rfl _ (at_other rfl _ (at_other rfl _ (at_other rfl _ (at_other rfl _ (at_other rfl _ (at_other rfl _ (s5_111)))))))))))))))
              clear up148
              refine V.region (by kernel_rfl) ?_
              refine V.go (V.mv (v := (.int .i64 (k : Int))) (s5_152) ?_)
              refine V.go (V.pvw [(70, .int .i64 (k : Int))] ⟨(at_same hz147 rfl _), trivial⟩ (by kernel_rfl) (.int .i64 (IntKind.i64.wrap ((k : Int) + 2))) (.int .i64 ((k : Int) + 2)) (by kernel_rfl) (V.w_i64 (by omega) (by omega)) ?_)
              refine V.go (V.asg (v := (.int .i64 ((k : Int) + 2))) (at_same (hz147.put _ _) rfl _) ?_)
              refine V.nil ?_
              refine V.blk_n ?_
              refine V.blk_n ?_
              refine V.then_n ?_
              have hstep := sp_esc (s := s) (k := k) (by omega) (by omega)
              rw [hstep] at hsp
              refine ⟨k + 2, acc ++ [⟨bi s ((k : Int) + 1), bi s ((k : Int) + 1)⟩], A132, c133, by omega, ?_⟩
              refine ⟨(((hz147.put _ _).put _ _).put _ _), ?_, ?_, ?_, ?_, (by simpa using hB141), (by simpa using hO135_145), hF_143, hB5_144, (by omega), (by simp; omega), ⟨by simpa using hsp.1, by have := hsp.2; simp only [] at this; omega⟩⟩
              · exact (at_other rfl _ (at_other rfl _ (at_other rfl _ (s0_149))))
              · exact (at_other rfl _ (at_other rfl _ (at_other rfl _ (s2_150))))
              · exact (at_other rfl _ (at_other rfl _ (at_other rfl _ (s4_151))))
              · exact Eq.trans (at_same ((hz147.put _ _).put _ _) rfl _) (V.int_eq (by omega))
            ·
              refine V.seq (fun K153 hK154 => ?_)
              refine V.region (by kernel_rfl) ?_
              refine V.go (V.mv (v := (.int .i64 (k : Int))) (s5_111) ?_)
              refine V.go (V.pvw [(73, .int .i64 (k : Int))] ⟨(at_same hz106 rfl _), trivial⟩ (by kernel_rfl) (.int .i64 (IntKind.i64.wrap ((k : Int) + 2))) (.int .i64 ((k : Int) + 2)) (by kernel_rfl) (V.w_i64 (by omega) (by omega)) ?_)
              refine V.go (V.mv (v := (.string s)) (at_other rfl _ (at_other rfl _ (s0_108))) ?_)
              refine V.go (V.pv [(75, .string s)] ⟨(at_same ((hz106.put _ _).put _ _) rfl _), trivial⟩ (by kernel_rfl) (.int .i64 (s.size : Int)) (by kernel_rfl) ?_)
              refine V.go (V.pv [(74, .int .i64 ((k : Int) + 2)), (76, .int .i64 (s.size : Int))] ⟨(at_other rfl _ (at_other rfl _ (at_same (hz106.put _ _) rfl _))), (at_same (((hz106.put _ _).put _ _).put _ _) rfl _), trivial⟩ (by kernel_rfl) (.bool (decide (((k : Int) + 2) < (s.size : Int)))) (by kernel_rfl) ?_)
              refine V.go (V.mv (v := (.bool (decide (((k : Int) + 2) < (s.size : Int))))) (at_same ((((hz106.put _ _).put _ _).put _ _).put _ _) rfl _) ?_)
              by_cases hg155 : ((k : Int) + 2) < (s.size : Int)
              ·
                refine V.go_on 78 (by kernel_rfl) (((at_same (((((hz106.put _ _).put _ _).put _ _).put _ _).put _ _) rfl _ : Act.eval _ _ = (.bool (decide (((k : Int) + 2) < (s.size : Int)))))).trans (dt hg155)) (V.mv (v := (.string s)) (at_other rfl _ (at_other rfl _ (at_other rfl _ (at_other rfl _ (at_other rfl _ (at_other rfl _ (s0_108))))))) ?_)
                refine V.go_on 78 (by kernel_rfl) (((at_other rfl _ (at_same (((((hz106.put _ _).put _ _).put _ _).put _ _).put _ _) rfl _) : Act.eval _ _ = (.bool (decide (((k : Int) + 2) < (s.size : Int)))))).trans (dt hg155)) (V.mv (v := (.int .i64 (k : Int))) (at_other rfl _ (at_other rfl _ (at_other rfl _ (at_other rfl _ (at_other rfl _ (at_other rfl _ (at_other rfl _ (s5_111)))))))) ?_)
                refine V.go_on 78 (by kernel_rfl) (((at_other rfl _ (at_other rfl _ (at_same (((((hz106.put _ _).put _ _).put _ _).put _ _).put _ _) rfl _)) : Act.eval _ _ = (.bool (decide (((k : Int) + 2) < (s.size : Int)))))).trans (dt hg155)) (V.pvw [(80, .int .i64 (k : Int))] ⟨(at_same (((((((hz106.put _ _).put _ _).put _ _).put _ _).put _ _).put _ _).put _ _) rfl _), trivial⟩ (by kernel_rfl) (.int .i64 (IntKind.i64.wrap ((k : Int) + 1))) (.int .i64 ((k : Int) + 1)) (by kernel_rfl) (V.w_i64 (by omega) (by omega)) ?_)
                refine V.go_on 78 (by kernel_rfl) (((at_other rfl _ (at_other rfl _ (at_other rfl _ (at_same (((((hz106.put _ _).put _ _).put _ _).put _ _).put _ _) rfl _))) : Act.eval _ _ = (.bool (decide (((k : Int) + 2) < (s.size : Int)))))).trans (dt hg155)) (V.ixs s .i64 ((k : Int) + 1) (at_other rfl _ (at_other rfl _ (at_same ((((((hz106.put _ _).put _ _).put _ _).put _ _).put _ _).put _ _) rfl _))) (at_same ((((((((hz106.put _ _).put _ _).put _ _).put _ _).put _ _).put _ _).put _ _).put _ _) rfl _) (by omega) (by omega) (by kernel_rfl) ?_)
                have hb156 := byt_lt s ((k : Int) + 1)
                refine V.go_on 78 (by kernel_rfl) (((at_other rfl _ (at_other rfl _ (at_other rfl _ (at_other rfl _ (at_same (((((hz106.put _ _).put _ _).put _ _).put _ _).put _ _) rfl _)))) : Act.eval _ _ = (.bool (decide (((k : Int) + 2) < (s.size : Int)))))).trans (dt hg155)) (V.pvw [(82, .int .u8 (bi s ((k : Int) + 1)))] ⟨(at_same (((((((((hz106.put _ _).put _ _).put _ _).put _ _).put _ _).put _ _).put _ _).put _ _).put _ _) rfl _), trivial⟩ (by kernel_rfl) (.bool ((bi s ((k : Int) + 1)) == 45)) (.bool (decide ((bi s ((k : Int) + 1)) = 45))) (by kernel_rfl) V.t_eql ?_)
                refine V.go (V.pk_t (((at_other rfl _ (at_other rfl _ (at_other rfl _ (at_other rfl _ (at_other rfl _ (at_same (((((hz106.put _ _).put _ _).put _ _).put _ _).put _ _) rfl _))))) : Act.eval _ _ = (.bool (decide (((k : Int) + 2) < (s.size : Int)))))).trans (dt hg155)) (v := (.bool (decide ((bi s ((k : Int) + 1)) = 45)))) (at_same ((((((((((hz106.put _ _).put _ _).put _ _).put _ _).put _ _).put _ _).put _ _).put _ _).put _ _).put _ _) rfl _) ?_)
                refine V.go (V.asg (v := (.bool (decide ((bi s ((k : Int) + 1)) = 45)))) (at_same (((((((((((hz106.put _ _).put _ _).put _ _).put _ _).put _ _).put _ _).put _ _).put _ _).put _ _).put _ _).put _ _) rfl _) ?_)
                refine V.nil ?_
                refine V.then_n (hK154 _ _ ?_)
                refine V.flushW (((((((((((((hz106.put _ _).put _ _).put _ _).put _ _).put _ _).put _ _).put _ _).put _ _).put _ _).put _ _).put _ _).put _ _).put _ _) (fun a157 hz158 up159 => ?_)
                have s0_160 : a157.eval (.tmp 0) = (.string s) := up159 _ _ (at_other rfl _ (at_other rfl _ (at_other rfl _ (at_other rfl _ (at_other rfl _ (at_other rfl _ (at_other rfl _ (at_other rfl _ (at_other rfl _ (at_other rfl _ (at_other rfl _ (at_other rfl _ (at_other rfl _ (s0_108))))))))))))))
                have s2_161 : a157.eval (.tmp 2) = (.pointer (some ⟨b3, 0, none⟩)) := up159 _ _ (at_other rfl _ (at_other rfl _ (at_other rfl _ (at_other rfl _ (at_other rfl _ (at_other rfl _ (at_other rfl _ (at_other rfl _ (at_other rfl _ (at_other rfl _ (at_other rfl _ (at_other rfl _ (at_other rfl _ (s2_109))))))))))))))
                have s4_162 : a157.eval (.tmp 4) = (.pointer (some ⟨b10, 0, none⟩)) := up159 _ _ (at_other rfl _ (at_other rfl _ (at_other rfl _ (at_other rfl _ (at_other rfl _ (at_other rfl _ (at_other rfl _ (at_other rfl _ (at_other rfl _ (at_other rfl _ (at_other rfl _ (at_other rfl _ (at_other rfl _ (s4_110))))))))))))))
                have s5_163 : a157.eval (.tmp 5) = (.int .i64 (k : Int)) := up159 _ _ (at_other rfl _ (at_other rfl _ (at_other rfl _ (at_other rfl _ (at_other rfl _ (at_other rfl _ (at_other rfl _ (at_other rfl _ (at_other rfl _ (at_other rfl _ (at_other rfl _ (at_other rfl _ (at_other rfl _ (s5_111))))))))))))))
                have s72_164 : a157.eval (.tmp 72) = (.bool (decide ((bi s ((k : Int) + 1)) = 45))) := up159 _ _ (at_same ((((((((((((hz106.put _ _).put _ _).put _ _).put _ _).put _ _).put _ _).put _ _).put _ _).put _ _).put _ _).put _ _).put _ _) rfl _)
                clear up159
                refine V.condP (p := (bi s ((k : Int) + 1)) = 45) (s72_164) (fun ht165 => ?_) (fun ht165 => ?_)
                ·
                  refine V.seq (fun K166 hK167 => ?_)
                  refine V.plan [[], [0], [], [], [2, 3], [], [], [6], [5, 6, 7], [2, 3, 4, 5, 6, 7, 8], [], [], [10, 11], [], [], [14], [13, 14, 15], [10, 11, 12, 13, 14, 15, 16], [2, 3, 4, 5, 6, 7, 8, 9, 10, 11, 12, 13, 14, 15, 16, 17], [2, 3, 4, 5, 6, 7, 8, 9, 10, 11, 12, 13, 14, 15, 16, 17, 18], [0, 1, 2, 3, 4, 5, 6, 7, 8, 9, 10, 11, 12, 13, 14, 15, 16, 17, 18, 19], [0, 1, 2, 3, 4, 5, 6, 7, 8, 9, 10, 11, 12, 13, 14, 15, 16, 17, 18, 19, 20], [0, 1, 2, 3, 4, 5, 6, 7, 8, 9, 10, 11, 12, 13, 14, 15, 16, 17, 18, 19, 20, 21]] [([0, 1, 2, 3, 4, 5, 6, 7, 8, 9, 10, 11, 12, 13, 14, 15, 16, 17, 18], some (19, [1])), ([], some (20, [])), ([21], some (22, [])), ([], none)] (by kernel_rfl) (by kernel_rfl) (by exact fun _ _ _ _ h => h) ?_
                  simp only [Plan.wpSegs, Plan.pickAll, Plan.nth, V.L_eq]
                  obtain ⟨w168, hF169e⟩ : ∃ w1, w1 = w73.drew := ⟨_, rfl⟩
                  rw [← hF169e]
                  have hF169 : Fr [] w73 w168 := by rw [hF169e]; exact Fr.drew _ _
                  have hsw168 : w168.heap.size = w73.heap.size := by rw [hF169e]; rfl
                  clear hF169e
                  have hB4_170 := hB4_79.fr0 hF169
                  have hO_171 := hO_80.fr0 hF169
                  have hF_172 := hF_81.new hF169
                  have hB5_173 := hB5_82.fr0 hF169
                  refine V.go (V.pv [(4, .pointer (some ⟨b10, 0, none⟩))] ⟨(s4_162), trivial⟩ (by kernel_rfl) (.pointer (some ⟨b10, 3, none⟩)) (by kernel_rfl) ?_)
                  refine V.go (V.ld ⟨b10, 3, none⟩ (.slice A acc.length c) (at_same hz158 rfl _) (by kernel_rfl) (hB4_170.at 3 rfl) ?_)
                  refine V.go (V.mv (v := (.string s)) (at_other rfl _ (at_other rfl _ (s0_160))) ?_)
                  refine V.go (V.mv (v := (.int .i64 (k : Int))) (at_other rfl _ (at_other rfl _ (at_other rfl _ (s5_163)))) ?_)
                  refine V.go (V.ixs s .i64 (k : Int) (at_other rfl _ (at_same ((hz158.put _ _).put _ _) rfl _)) (at_same (((hz158.put _ _).put _ _).put _ _) rfl _) (by omega) (by omega) (by kernel_rfl) ?_)
                  have hb174 := byt_lt s (k : Int)
                  refine V.go (V.mv (v := (.string s)) (at_other rfl _ (at_other rfl _ (at_other rfl _ (at_other rfl _ (at_other rfl _ (s0_160)))))) ?_)
                  refine V.go (V.mv (v := (.int .i64 (k : Int))) (at_other rfl _ (at_other rfl _ (at_other rfl _ (at_other rfl _ (at_other rfl _ (at_other rfl _ (s5_163))))))) ?_)
                  refine V.go (V.pvw [(91, .int .i64 (k : Int))] ⟨(at_same ((((((hz158.put _ _).put _ _).put _ _).put _ _).put _ _).put _ _) rfl _), trivial⟩ (by kernel_rfl) (.int .i64 (IntKind.i64.wrap ((k : Int) + 2))) (.int .i64 ((k : Int) + 2)) (by kernel_rfl) (V.w_i64 (by omega) (by omega)) ?_)
                  refine V.go (V.ixs s .i64 ((k : Int) + 2) (at_other rfl _ (at_other rfl _ (at_same (((((hz158.put _ _).put _ _).put _ _).put _ _).put _ _) rfl _))) (at_same (((((((hz158.put _ _).put _ _).put _ _).put _ _).put _ _).put _ _).put _ _) rfl _) (by omega) (by omega) (by kernel_rfl) ?_)
                  have hb175 := byt_lt s ((k : Int) + 2)
                  refine V.go (V.pvw [(89, .int .u8 (bi s (k : Int))), (93, .int .u8 (bi s ((k : Int) + 2)))] ⟨(at_other rfl _ (at_other rfl _ (at_other rfl _ (at_other rfl _ (at_same ((((hz158.put _ _).put _ _).put _ _).put _ _) rfl _))))), (at_same ((((((((hz158.put _ _).put _ _).put _ _).put _ _).put _ _).put _ _).put _ _).put _ _) rfl _), trivial⟩ (by kernel_rfl) (.int .u8 (if (bi s ((k : Int) + 2)) < (bi s (k : Int)) then (bi s ((k : Int) + 2)) else (bi s (k : Int)))) (.int .u8 (min (bi s (k : Int)) (bi s ((k : Int) + 2)))) (by kernel_rfl) V.min_int ?_)
                  refine V.go (V.mv (v := (.string s)) (at_other rfl _ (at_other rfl _ (at_other rfl _ (at_other rfl _ (at_other rfl _ (at_other rfl _ (at_other rfl _ (at_other rfl _ (at_other rfl _ (at_other rfl _ (s0_160))))))))))) ?_)
                  refine V.go (V.mv (v := (.int .i64 (k : Int))) (at_other rfl _ (at_other rfl _ (at_other rfl _ (at_other rfl _ (at_other rfl _ (at_other rfl _ (at_other rfl _ (at_other rfl _ (at_other rfl _ (at_other rfl _ (at_other rfl _ (s5_163)))))))))))) ?_)
                  refine V.go (V.ixs s .i64 (k : Int) (at_other rfl _ (at_same ((((((((((hz158.put _ _).put _ _).put _ _).put _ _).put _ _).put _ _).put _ _).put _ _).put _ _).put _ _) rfl _)) (at_same (((((((((((hz158.put _ _).put _ _).put _ _).put _ _).put _ _).put _ _).put _ _).put _ _).put _ _).put _ _).put _ _) rfl _) (by omega) (by omega) (by kernel_rfl) ?_)
                  have hb176 := byt_lt s (k : Int)
                  refine V.go (V.mv (v := (.string s)) (at_other rfl _ (at_other rfl _ (at_other rfl _ (at_other rfl _ (at_other rfl _ (at_other rfl _ (at_other rfl _ (at_other rfl _ (at_other rfl _ (at_other rfl _ (at_other rfl _ (at_other rfl _ (at_other rfl _ (s0_160)))))))))))))) ?_)
                  refine V.go (V.mv (v := (.int .i64 (k : Int))) (at_other rfl _ (at_other rfl _ (at_other rfl _ (at_other rfl _ (at_other rfl _ (at_other rfl _ (at_other rfl _ (at_other rfl _ (at_other rfl _ (at_other rfl _ (at_other rfl _ (at_other rfl _ (at_other rfl _ (at_other rfl _ (s5_163))))))))))))))) ?_)
                  refine V.go (V.pvw [(99, .int .i64 (k : Int))] ⟨(at_same ((((((((((((((hz158.put _ _).put _ _).put _ _).put _ _).put _ _).put _ _).put _ _).put _ _).put _ _).put _ _).put _ _).put _ _).put _ _).put _ _) rfl _), trivial⟩ (by kernel_rfl) (.int .i64 (IntKind.i64.wrap ((k : Int) + 2))) (.int .i64 ((k : Int) + 2)) (by kernel_rfl) (V.w_i64 (by omega) (by omega)) ?_)
                  refine V.go (V.ixs s .i64 ((k : Int) + 2) (at_other rfl _ (at_other rfl _ (at_same (((((((((((((hz158.put _ _).put _ _).put _ _).put _ _).put _ _).put _ _).put _ _).put _ _).put _ _).put _ _).put _ _).put _ _).put _ _) rfl _))) (at_same (((((((((((((((hz158.put _ _).put _ _).put _ _).put _ _).put _ _).put _ _).put _ _).put _ _).put _ _).put _ _).put _ _).put _ _).put _ _).put _ _).put _ _) rfl _) (by omega) (by omega) (by kernel_rfl) ?_)
                  have hb177 := byt_lt s ((k : Int) + 2)
                  refine V.go (V.pvw [(97, .int .u8 (bi s (k : Int))), (101, .int .u8 (bi s ((k : Int) + 2)))] ⟨(at_other rfl _ (at_other rfl _ (at_other rfl _ (at_other rfl _ (at_same ((((((((((((hz158.put _ _).put _ _).put _ _).put _ _).put _ _).put _ _).put _ _).put _ _).put _ _).put _ _).put _ _).put _ _) rfl _))))), (at_same ((((((((((((((((hz158.put _ _).put _ _).put _ _).put _ _).put _ _).put _ _).put _ _).put _ _).put _ _).put _ _).put _ _).put _ _).put _ _).put _ _).put _ _).put _ _) rfl _), trivial⟩ (by kernel_rfl) (.int .u8 (if (bi s ((k : Int) + 2)) > (bi s (k : Int)) then (bi s ((k : Int) + 2)) else (bi s (k : Int)))) (.int .u8 (max (bi s (k : Int)) (bi s ((k : Int) + 2)))) (by kernel_rfl) V.max_int ?_)
                  refine V.go (V.pv [(94, .int .u8 (min (bi s (k : Int)) (bi s ((k : Int) + 2)))), (102, .int .u8 (max (bi s (k : Int)) (bi s ((k : Int) + 2))))] ⟨(at_other rfl _ (at_other rfl _ (at_other rfl _ (at_other rfl _ (at_other rfl _ (at_other rfl _ (at_other rfl _ (at_other rfl _ (at_same (((((((((hz158.put _ _).put _ _).put _ _).put _ _).put _ _).put _ _).put _ _).put _ _).put _ _) rfl _))))))))), (at_same (((((((((((((((((hz158.put _ _).put _ _).put _ _).put _ _).put _ _).put _ _).put _ _).put _ _).put _ _).put _ _).put _ _).put _ _).put _ _).put _ _).put _ _).put _ _).put _ _) rfl _), trivial⟩ (by kernel_rfl) (.agg #[.int .u8 (min (bi s (k : Int)) (bi s ((k : Int) + 2))), .int .u8 (max (bi s (k : Int)) (bi s ((k : Int) + 2)))]) (by kernel_rfl) ?_)
                  refine V.nil ?_
                  refine ⟨chk [(91, .int .i64 (k : Int)), (89, .int .u8 (bi s (k : Int))), (93, .int .u8 (bi s ((k : Int) + 2))), (99, .int .i64 (k : Int)), (97, .int .u8 (bi s (k : Int))), (101, .int .u8 (bi s ((k : Int) + 2)))] ⟨(at_other rfl _ (at_other rfl _ (at_other rfl _ (at_other rfl _ (at_other rfl _ (at_other rfl _ (at_other rfl _ (at_other rfl _ (at_other rfl _ (at_other rfl _ (at_other rfl _ (at_other rfl _ (at_same ((((((hz158.put _ _).put _ _).put _ _).put _ _).put _ _).put _ _) rfl _))))))))))))), (at_other rfl _ (at_other rfl _ (at_other rfl _ (at_other rfl _ (at_other rfl _ (at_other rfl _ (at_other rfl _ (at_other rfl _ (at_other rfl _ (at_other rfl _ (at_other rfl _ (at_other rfl _ (at_other rfl _ (at_other rfl _ (at_same ((((hz158.put _ _).put _ _).put _ _).put _ _) rfl _))))))))))))))), (at_other rfl _ (at_other rfl _ (at_other rfl _ (at_other rfl _ (at_other rfl _ (at_other rfl _ (at_other rfl _ (at_other rfl _ (at_other rfl _ (at_other rfl _ (at_same ((((((((hz158.put _ _).put _ _).put _ _).put _ _).put _ _).put _ _).put _ _).put _ _) rfl _))))))))))), (at_other rfl _ (at_other rfl _ (at_other rfl _ (at_other rfl _ (at_same ((((((((((((((hz158.put _ _).put _ _).put _ _).put _ _).put _ _).put _ _).put _ _).put _ _).put _ _).put _ _).put _ _).put _ _).put _ _).put _ _) rfl _))))), (at_other rfl _ (at_other rfl _ (at_other rfl _ (at_other rfl _ (at_other rfl _ (at_other rfl _ (at_same ((((((((((((hz158.put _ _).put _ _).put _ _).put _ _).put _ _).put _ _).put _ _).put _ _).put _ _).put _ _).put _ _).put _ _) rfl _))))))), (at_other rfl _ (at_other rfl _ (at_same ((((((((((((((((hz158.put _ _).put _ _).put _ _).put _ _).put _ _).put _ _).put _ _).put _ _).put _ _).put _ _).put _ _).put _ _).put _ _).put _ _).put _ _).put _ _) rfl _))), trivial⟩ (by kernel_rfl), ?_⟩
                  refine V.go (V.mk [(103, .agg #[.int .u8 (min (bi s (k : Int)) (bi s ((k : Int) + 2))), .int .u8 (max (bi s (k : Int)) (bi s ((k : Int) + 2)))])] ⟨(at_same ((((((((((((((((((hz158.put _ _).put _ _).put _ _).put _ _).put _ _).put _ _).put _ _).put _ _).put _ _).put _ _).put _ _).put _ _).put _ _).put _ _).put _ _).put _ _).put _ _).put _ _) rfl _), trivial⟩ (by kernel_rfl) [.int .u8 (min (bi s (k : Int)) (bi s ((k : Int) + 2))), .int .u8 (max (bi s (k : Int)) (bi s ((k : Int) + 2)))] 54 (fun b => .slice (some ⟨b, 0, none⟩) 1 1) (by kernel_rfl) ?_)
                  intro w179 b178 heb178 hB180 hF181 hsb178
                  have hB4_182 := hB4_170.fr0 hF181
                  have hO_183 := hO_171.fr0 hF181
                  have hF_184 := hF_172.new hF181
                  have hB5_185 := hB5_173.fr0 hF181
                  refine V.nil ?_
                  refine ⟨(fun _ => held_blk (n := 1) (hx := (at_other rfl _ (at_other rfl _ (at_other rfl _ (at_other rfl _ (at_other rfl _ (at_other rfl _ (at_other rfl _ (at_other rfl _ (at_other rfl _ (at_other rfl _ (at_other rfl _ (at_other rfl _ (at_other rfl _ (at_other rfl _ (at_other rfl _ (at_other rfl _ (at_other rfl _ (at_other rfl _ (at_same hz158 rfl _)))))))))))))))))))) hB4_170 hB4_182 (by kernel_rfl) rfl (by simp only [List.length]; omega)), ?_⟩
                  refine V.nil ?_
                  refine ⟨chk [] trivial (by kernel_rfl), ?_⟩
                  refine V.go (V.app (R := spanR) (ys := ([⟨min (bi s (k : Int)) (bi s ((k : Int) + 2)), max (bi s (k : Int)) (bi s ((k : Int) + 2))⟩])) (news := [.int .u8 (min (bi s (k : Int)) (bi s ((k : Int) + 2))), .int .u8 (max (bi s (k : Int)) (bi s ((k : Int) + 2)))]) (at_other rfl _ (at_other rfl _ (at_other rfl _ (at_other rfl _ (at_other rfl _ (at_other rfl _ (at_other rfl _ (at_other rfl _ (at_other rfl _ (at_other rfl _ (at_other rfl _ (at_other rfl _ (at_other rfl _ (at_other rfl _ (at_other rfl _ (at_other rfl _ (at_other rfl _ (at_other rfl _ (at_same (hz158.put _ _) rfl _))))))))))))))))))) ⟨b178, 0, none⟩ 1 1 (at_same (((((((((((((((((((hz158.put _ _).put _ _).put _ _).put _ _).put _ _).put _ _).put _ _).put _ _).put _ _).put _ _).put _ _).put _ _).put _ _).put _ _).put _ _).put _ _).put _ _).put _ _).put _ _) rfl _) (by kernel_rfl) (info54) (by kernel_rfl) (by decide) hO_183 rfl ⟨[.int .u8 (min (bi s (k : Int)) (bi s ((k : Int) + 2))), .int .u8 (max (bi s (k : Int)) (bi s ((k : Int) + 2)))], [], rfl, rfl, rfl⟩ (blk_cells hB180 0 _ rfl) (by omega) (by decide) (by omega) ?_)
                  intro A186 c187 w188 hO189z hF190 hatw188
                  have hsw188 := hF190.size
                  have hB4_191 := hB4_182.fr hF190 (by first | exact own_notin hO_183 (by omega) | exact own_notin2 hO_80 (by omega))
                  have hF_192 := hF_184.own hF190 (own_ge hO_183 (by omega))
                  have hB5_193 := hB5_185.fr hF190 (by first | exact own_notin hO_183 (by omega) | exact own_notin2 hO_80 (by omega))
                  have hO189 := hO189z.zone (Z' := NoZ) (fun _ _ q => q.1) (fun _ _ q => q)
                  refine V.nil ?_
                  refine ⟨trivial, ?_⟩
                  refine V.go (V.pv [(4, .pointer (some ⟨b10, 0, none⟩))] ⟨(at_other rfl _ (at_other rfl _ (at_other rfl _ (at_other rfl _ (at_other rfl _ (at_other rfl _ (at_other rfl _ (at_other rfl _ (at_other rfl _ (at_other rfl _ (at_other rfl _ (at_other rfl _ (at_other rfl _ (at_other rfl _ (at_other rfl _ (at_other rfl _ (at_other rfl _ (at_other rfl _ (at_other rfl _ (at_other rfl _ (at_other rfl _ (s4_162)))))))))))))))))))))), trivial⟩ (by kernel_rfl) (.pointer (some ⟨b10, 3, none⟩)) (by kernel_rfl) ?_)
                  refine V.nil ?_
                  refine ⟨chk [] trivial (by kernel_rfl), ?_⟩
                  refine V.go (V.stn b10 3 (.slice A186 (acc.length + 1) c187) [.slice A186 (acc.length + 1) c187] (at_same (((((((((((((((((((((hz158.put _ _).put _ _).put _ _).put _ _).put _ _).put _ _).put _ _).put _ _).put _ _).put _ _).put _ _).put _ _).put _ _).put _ _).put _ _).put _ _).put _ _).put _ _).put _ _).put _ _).put _ _) rfl _) (at_other rfl _ (at_same ((((((((((((((((((((hz158.put _ _).put _ _).put _ _).put _ _).put _ _).put _ _).put _ _).put _ _).put _ _).put _ _).put _ _).put _ _).put _ _).put _ _).put _ _).put _ _).put _ _).put _ _).put _ _).put _ _) rfl _)) rfl rfl (by kernel_rfl) hB4_191 (by simp) [.int .i64 4, .int .u8 0, .bool neg, .slice A186 (acc.length + 1) c187] rfl ?_)
                  intro w194 hB195 hF196 hsw194
                  have hF_197 := hF_192.own hF196 (by simp <;> omega)
                  have hB5_198 := hB5_193.fr1 hF196 (by omega)
                  have hO189_199 := hO189.frn hF196 (fun h => h) (by first | exact own_ne hO189 (by omega) | exact own_ne2 hO189 (by omega))
                  refine V.nil ?_
                  refine ⟨trivial, ?_⟩
                  refine V.nil ?_
                  refine ⟨chk [] trivial (by kernel_rfl), ?_⟩
                  refine V.then_n (hK167 _ _ ?_)
                  refine V.flushW ((((((((((((((((((((((hz158.put _ _).put _ _).put _ _).put _ _).put _ _).put _ _).put _ _).put _ _).put _ _).put _ _).put _ _).put _ _).put _ _).put _ _).put _ _).put _ _).put _ _).put _ _).put _ _).put _ _).put _ _).put _ _) (fun a200 hz201 up202 => ?_)
                  have s0_203 : a200.eval (.tmp 0) = (.string s) := up202 _ _ (at_other rfl _ (at_other rfl _ (at_other rfl _ (at_other rfl _ (at_other rfl _ (at_other rfl _ (at_other rfl _ (at_other rfl _ (at_other rfl _ (at_other rfl _ (at_other rfl _ (at_other rfl _ (at_other rfl _ (at_other rfl _ (at_other rfl _ (at_other rfl _ (at_other rfl _ (at_other rfl _ (at_other rfl _ (at_other rfl _ (at_other rfl _ (at_other rfl _ (s0_160)))))))))))))))))))))))
                  have s2_204 : a200.eval (.tmp 2) = (.pointer (some ⟨b3, 0, none⟩)) := up202 _ _ (at_other rfl _ (at_other rfl _ (at_other rfl _ (at_other rfl _ (at_other rfl _ (at_other rfl _ (at_other rfl _ (at_other rfl _ (at_other rfl _ (at_other rfl _ (at_other rfl _ (at_other rfl _ (at_other rfl _ (at_other rfl _ (at_other rfl _ (at_other rfl _ (at_other rfl _ (at_other rfl _ (at_other rfl _ (at_other rfl _ (at_other rfl _ (at_other rfl _ (s2_161)))))))))))))))))))))))
                  have s4_205 : a200.eval (.tmp 4) = (.pointer (some ⟨b10, 0, none⟩)) := up202 _ _ (at_other rfl _ (at_other rfl _ (at_other rfl _ (at_other rfl _ (at_other rfl _ (at_other rfl _ (at_other rfl _ (at_other rfl _ (at_other rfl _ (at_other rfl _ (at_other rfl _ (at_other rfl _ (at_other rfl _ (at_other rfl _ (at_other rfl _ (at_other rfl _ (at_other rfl _ (at_other rfl _ (at_other rfl _ (at_other rfl _ (at_other rfl _ (at_other rfl _ (s4_162)))))))))))))))))))))))
                  have s5_206 : a200.eval (.tmp 5) = (.int .i64 (k : Int)) := up202 _ _ (at_other rfl _ (at_other rfl _ (at_other rfl _ (at_other rfl _ (at_other rfl _ (at_other rfl _ (at_other rfl _ (at_other rfl _ (at_other rfl _ (at_other rfl _ (at_other rfl _ (at_other rfl _ (at_other rfl _ (at_other rfl _ (at_other rfl _ (at_other rfl _ (at_other rfl _ (at_other rfl _ (at_other rfl _ (at_other rfl _ (at_other rfl _ (at_other rfl _ (s5_163)))))))))))))))))))))))
                  clear up202
                  refine V.region (by kernel_rfl) ?_
                  refine V.go (V.mv (v := (.int .i64 (k : Int))) (s5_206) ?_)
                  refine V.go (V.pvw [(107, .int .i64 (k : Int))] ⟨(at_same hz201 rfl _), trivial⟩ (by kernel_rfl) (.int .i64 (IntKind.i64.wrap ((k : Int) + 3))) (.int .i64 ((k : Int) + 3)) (by kernel_rfl) (V.w_i64 (by omega) (by omega)) ?_)
                  refine V.go (V.asg (v := (.int .i64 ((k : Int) + 3))) (at_same (hz201.put _ _) rfl _) ?_)
                  refine V.nil ?_
                  refine V.blk_n ?_
                  refine V.blk_n ?_
                  refine V.then_n ?_
                  have hstep := sp_range (s := s) (k := k) (by omega) (by omega) (by omega) (by show bi s ((k : Int) + 1) = 45; assumption)
                  rw [hstep] at hsp
                  refine ⟨k + 3, acc ++ [⟨min (bi s (k : Int)) (bi s ((k : Int) + 2)), max (bi s (k : Int)) (bi s ((k : Int) + 2))⟩], A186, c187, by omega, ?_⟩
                  refine ⟨(((hz201.put _ _).put _ _).put _ _), ?_, ?_, ?_, ?_, (by simpa using hB195), (by simpa using hO189_199), hF_197, hB5_198, (by omega), (by simp; omega), ⟨by simpa using hsp.1, by have := hsp.2; simp only [] at this; omega⟩⟩
                  · exact (at_other rfl _ (at_other rfl _ (at_other rfl _ (s0_203))))
                  · exact (at_other rfl _ (at_other rfl _ (at_other rfl _ (s2_204))))
                  · exact (at_other rfl _ (at_other rfl _ (at_other rfl _ (s4_205))))
                  · exact Eq.trans (at_same ((hz201.put _ _).put _ _) rfl _) (V.int_eq (by omega))
                ·
                  refine V.seq (fun K207 hK208 => ?_)
                  refine V.plan [[], [0], [], [], [2, 3], [], [], [5, 6], [2, 3, 4, 5, 6, 7], [2, 3, 4, 5, 6, 7, 8], [0, 1, 2, 3, 4, 5, 6, 7, 8, 9], [0, 1, 2, 3, 4, 5, 6, 7, 8, 9, 10], [0, 1, 2, 3, 4, 5, 6, 7, 8, 9, 10, 11]] [([0, 1, 2, 3, 4, 5, 6, 7, 8], some (9, [1])), ([], some (10, [])), ([11], some (12, [])), ([], none)] (by kernel_rfl) (by kernel_rfl) (by exact fun _ _ _ _ h => h) ?_
                  simp only [Plan.wpSegs, Plan.pickAll, Plan.nth, V.L_eq]
                  obtain ⟨w209, hF210e⟩ : ∃ w1, w1 = w73.drew := ⟨_, rfl⟩
                  rw [← hF210e]
                  have hF210 : Fr [] w73 w209 := by rw [hF210e]; exact Fr.drew _ _
                  have hsw209 : w209.heap.size = w73.heap.size := by rw [hF210e]; rfl
                  clear hF210e
                  have hB4_211 := hB4_79.fr0 hF210
                  have hO_212 := hO_80.fr0 hF210
                  have hF_213 := hF_81.new hF210
                  have hB5_214 := hB5_82.fr0 hF210
                  refine V.go (V.pv [(4, .pointer (some ⟨b10, 0, none⟩))] ⟨(s4_162), trivial⟩ (by kernel_rfl) (.pointer (some ⟨b10, 3, none⟩)) (by kernel_rfl) ?_)
                  refine V.go (V.ld ⟨b10, 3, none⟩ (.slice A acc.length c) (at_same hz158 rfl _) (by kernel_rfl) (hB4_211.at 3 rfl) ?_)
                  refine V.go (V.mv (v := (.string s)) (at_other rfl _ (at_other rfl _ (s0_160))) ?_)
                  refine V.go (V.mv (v := (.int .i64 (k : Int))) (at_other rfl _ (at_other rfl _ (at_other rfl _ (s5_163)))) ?_)
                  refine V.go (V.ixs s .i64 (k : Int) (at_other rfl _ (at_same ((hz158.put _ _).put _ _) rfl _)) (at_same (((hz158.put _ _).put _ _).put _ _) rfl _) (by omega) (by omega) (by kernel_rfl) ?_)
                  have hb215 := byt_lt s (k : Int)
                  refine V.go (V.mv (v := (.string s)) (at_other rfl _ (at_other rfl _ (at_other rfl _ (at_other rfl _ (at_other rfl _ (s0_160)))))) ?_)
                  refine V.go (V.mv (v := (.int .i64 (k : Int))) (at_other rfl _ (at_other rfl _ (at_other rfl _ (at_other rfl _ (at_other rfl _ (at_other rfl _ (s5_163))))))) ?_)
                  refine V.go (V.ixs s .i64 (k : Int) (at_other rfl _ (at_same (((((hz158.put _ _).put _ _).put _ _).put _ _).put _ _) rfl _)) (at_same ((((((hz158.put _ _).put _ _).put _ _).put _ _).put _ _).put _ _) rfl _) (by omega) (by omega) (by kernel_rfl) ?_)
                  have hb216 := byt_lt s (k : Int)
                  refine V.go (V.pv [(34, .int .u8 (bi s (k : Int))), (37, .int .u8 (bi s (k : Int)))] ⟨(at_other rfl _ (at_other rfl _ (at_other rfl _ (at_same ((((hz158.put _ _).put _ _).put _ _).put _ _) rfl _)))), (at_same (((((((hz158.put _ _).put _ _).put _ _).put _ _).put _ _).put _ _).put _ _) rfl _), trivial⟩ (by kernel_rfl) (.agg #[.int .u8 (bi s (k : Int)), .int .u8 (bi s (k : Int))]) (by kernel_rfl) ?_)
                  refine V.nil ?_
                  refine ⟨chk [] trivial (by kernel_rfl), ?_⟩
                  refine V.go (V.mk [(38, .agg #[.int .u8 (bi s (k : Int)), .int .u8 (bi s (k : Int))])] ⟨(at_same ((((((((hz158.put _ _).put _ _).put _ _).put _ _).put _ _).put _ _).put _ _).put _ _) rfl _), trivial⟩ (by kernel_rfl) [.int .u8 (bi s (k : Int)), .int .u8 (bi s (k : Int))] 54 (fun b => .slice (some ⟨b, 0, none⟩) 1 1) (by kernel_rfl) ?_)
                  intro w218 b217 heb217 hB219 hF220 hsb217
                  have hB4_221 := hB4_211.fr0 hF220
                  have hO_222 := hO_212.fr0 hF220
                  have hF_223 := hF_213.new hF220
                  have hB5_224 := hB5_214.fr0 hF220
                  refine V.nil ?_
                  refine ⟨(fun _ => held_blk (n := 1) (hx := (at_other rfl _ (at_other rfl _ (at_other rfl _ (at_other rfl _ (at_other rfl _ (at_other rfl _ (at_other rfl _ (at_other rfl _ (at_same hz158 rfl _)))))))))) hB4_211 hB4_221 (by kernel_rfl) rfl (by simp only [List.length]; omega)), ?_⟩
                  refine V.nil ?_
                  refine ⟨chk [] trivial (by kernel_rfl), ?_⟩
                  refine V.go (V.app (R := spanR) (ys := ([⟨bi s (k : Int), bi s (k : Int)⟩])) (news := [.int .u8 (bi s (k : Int)), .int .u8 (bi s (k : Int))]) (at_other rfl _ (at_other rfl _ (at_other rfl _ (at_other rfl _ (at_other rfl _ (at_other rfl _ (at_other rfl _ (at_other rfl _ (at_same (hz158.put _ _) rfl _))))))))) ⟨b217, 0, none⟩ 1 1 (at_same (((((((((hz158.put _ _).put _ _).put _ _).put _ _).put _ _).put _ _).put _ _).put _ _).put _ _) rfl _) (by kernel_rfl) (info54) (by kernel_rfl) (by decide) hO_222 rfl ⟨[.int .u8 (bi s (k : Int)), .int .u8 (bi s (k : Int))], [], rfl, rfl, rfl⟩ (blk_cells hB219 0 _ rfl) (by omega) (by decide) (by omega) ?_)
                  intro A225 c226 w227 hO228z hF229 hatw227
                  have hsw227 := hF229.size
                  have hB4_230 := hB4_221.fr hF229 (by first | exact own_notin hO_222 (by omega) | exact own_notin2 hO_80 (by omega))
                  have hF_231 := hF_223.own hF229 (own_ge hO_222 (by omega))
                  have hB5_232 := hB5_224.fr hF229 (by first | exact own_notin hO_222 (by omega) | exact own_notin2 hO_80 (by omega))
                  have hO228 := hO228z.zone (Z' := NoZ) (fun _ _ q => q.1) (fun _ _ q => q)
                  refine V.nil ?_
                  refine ⟨trivial, ?_⟩
                  refine V.go (V.pv [(4, .pointer (some ⟨b10, 0, none⟩))] ⟨(at_other rfl _ (at_other rfl _ (at_other rfl _ (at_other rfl _ (at_other rfl _ (at_other rfl _ (at_other rfl _ (at_other rfl _ (at_other rfl _ (at_other rfl _ (at_other rfl _ (s4_162)))))))))))), trivial⟩ (by kernel_rfl) (.pointer (some ⟨b10, 3, none⟩)) (by kernel_rfl) ?_)
                  refine V.nil ?_
                  refine ⟨chk [] trivial (by kernel_rfl), ?_⟩
                  refine V.go (V.stn b10 3 (.slice A225 (acc.length + 1) c226) [.slice A225 (acc.length + 1) c226] (at_same (((((((((((hz158.put _ _).put _ _).put _ _).put _ _).put _ _).put _ _).put _ _).put _ _).put _ _).put _ _).put _ _) rfl _) (at_other rfl _ (at_same ((((((((((hz158.put _ _).put _ _).put _ _).put _ _).put _ _).put _ _).put _ _).put _ _).put _ _).put _ _) rfl _)) rfl rfl (by kernel_rfl) hB4_230 (by simp) [.int .i64 4, .int .u8 0, .bool neg, .slice A225 (acc.length + 1) c226] rfl ?_)
                  intro w233 hB234 hF235 hsw233
                  have hF_236 := hF_231.own hF235 (by simp <;> omega)
                  have hB5_237 := hB5_232.fr1 hF235 (by omega)
                  have hO228_238 := hO228.frn hF235 (fun h => h) (by first | exact own_ne hO228 (by omega) | exact own_ne2 hO228 (by omega))
                  refine V.nil ?_
                  refine ⟨trivial, ?_⟩
                  refine V.nil ?_
                  refine ⟨chk [] trivial (by kernel_rfl), ?_⟩
                  refine V.then_n (hK208 _ _ ?_)
                  refine V.flushW ((((((((((((hz158.put _ _).put _ _).put _ _).put _ _).put _ _).put _ _).put _ _).put _ _).put _ _).put _ _).put _ _).put _ _) (fun a239 hz240 up241 => ?_)
                  have s0_242 : a239.eval (.tmp 0) = (.string s) := up241 _ _ (at_other rfl _ (at_other rfl _ (at_other rfl _ (at_other rfl _ (at_other rfl _ (at_other rfl _ (at_other rfl _ (at_other rfl _ (at_other rfl _ (at_other rfl _ (at_other rfl _ (at_other rfl _ (s0_160)))))))))))))
                  have s2_243 : a239.eval (.tmp 2) = (.pointer (some ⟨b3, 0, none⟩)) := up241 _ _ (at_other rfl _ (at_other rfl _ (at_other rfl _ (at_other rfl _ (at_other rfl _ (at_other rfl _ (at_other rfl _ (at_other rfl _ (at_other rfl _ (at_other rfl _ (at_other rfl _ (at_other rfl _ (s2_161)))))))))))))
                  have s4_244 : a239.eval (.tmp 4) = (.pointer (some ⟨b10, 0, none⟩)) := up241 _ _ (at_other rfl _ (at_other rfl _ (at_other rfl _ (at_other rfl _ (at_other rfl _ (at_other rfl _ (at_other rfl _ (at_other rfl _ (at_other rfl _ (at_other rfl _ (at_other rfl _ (at_other rfl _ (s4_162)))))))))))))
                  have s5_245 : a239.eval (.tmp 5) = (.int .i64 (k : Int)) := up241 _ _ (at_other rfl _ (at_other rfl _ (at_other rfl _ (at_other rfl _ (at_other rfl _ (at_other rfl _ (at_other rfl _ (at_other rfl _ (at_other rfl _ (at_other rfl _ (at_other rfl _ (at_other rfl _ (s5_163)))))))))))))
                  clear up241
                  refine V.region (by kernel_rfl) ?_
                  refine V.go (V.mv (v := (.int .i64 (k : Int))) (s5_245) ?_)
                  refine V.go (V.pvw [(42, .int .i64 (k : Int))] ⟨(at_same hz240 rfl _), trivial⟩ (by kernel_rfl) (.int .i64 (IntKind.i64.wrap ((k : Int) + 1))) (.int .i64 ((k : Int) + 1)) (by kernel_rfl) (V.w_i64 (by omega) (by omega)) ?_)
                  refine V.go (V.asg (v := (.int .i64 ((k : Int) + 1))) (at_same (hz240.put _ _) rfl _) ?_)
                  refine V.nil ?_
                  refine V.blk_n ?_
                  refine V.blk_n ?_
                  refine V.then_n ?_
                  have hstep := sp_one (s := s) (k := k) (by omega) (by omega) (by omega) (by intro h; show bi s ((k : Int) + 1) ≠ 45; omega)
                  rw [hstep] at hsp
                  refine ⟨k + 1, acc ++ [⟨bi s (k : Int), bi s (k : Int)⟩], A225, c226, by omega, ?_⟩
                  refine ⟨(((hz240.put _ _).put _ _).put _ _), ?_, ?_, ?_, ?_, (by simpa using hB234), (by simpa using hO228_238), hF_236, hB5_237, (by omega), (by simp; omega), ⟨by simpa using hsp.1, by have := hsp.2; simp only [] at this; omega⟩⟩
                  · exact (at_other rfl _ (at_other rfl _ (at_other rfl _ (s0_242))))
                  · exact (at_other rfl _ (at_other rfl _ (at_other rfl _ (s2_243))))
                  · exact (at_other rfl _ (at_other rfl _ (at_other rfl _ (s4_244))))
                  · exact Eq.trans (at_same ((hz240.put _ _).put _ _) rfl _) (V.int_eq (by omega))
              ·
                refine V.go_off 78 (by kernel_rfl) (((at_same (((((hz106.put _ _).put _ _).put _ _).put _ _).put _ _) rfl _ : Act.eval _ _ = (.bool (decide (((k : Int) + 2) < (s.size : Int)))))).trans (df hg155)) (by kernel_rfl) ?_
                refine V.go_off 78 (by kernel_rfl) (((at_other rfl _ (at_same (((((hz106.put _ _).put _ _).put _ _).put _ _).put _ _) rfl _) : Act.eval _ _ = (.bool (decide (((k : Int) + 2) < (s.size : Int)))))).trans (df hg155)) (by kernel_rfl) ?_
                refine V.go_off 78 (by kernel_rfl) (((at_other rfl _ (at_other rfl _ (at_same (((((hz106.put _ _).put _ _).put _ _).put _ _).put _ _) rfl _)) : Act.eval _ _ = (.bool (decide (((k : Int) + 2) < (s.size : Int)))))).trans (df hg155)) (by kernel_rfl) ?_
                refine V.go_off 78 (by kernel_rfl) (((at_other rfl _ (at_other rfl _ (at_other rfl _ (at_same (((((hz106.put _ _).put _ _).put _ _).put _ _).put _ _) rfl _))) : Act.eval _ _ = (.bool (decide (((k : Int) + 2) < (s.size : Int)))))).trans (df hg155)) (by kernel_rfl) ?_
                refine V.go_off 78 (by kernel_rfl) (((at_other rfl _ (at_other rfl _ (at_other rfl _ (at_other rfl _ (at_same (((((hz106.put _ _).put _ _).put _ _).put _ _).put _ _) rfl _)))) : Act.eval _ _ = (.bool (decide (((k : Int) + 2) < (s.size : Int)))))).trans (df hg155)) (by kernel_rfl) ?_
                refine V.go (V.pk_f (((at_other rfl _ (at_other rfl _ (at_other rfl _ (at_other rfl _ (at_other rfl _ (at_same (((((hz106.put _ _).put _ _).put _ _).put _ _).put _ _) rfl _))))) : Act.eval _ _ = (.bool (decide (((k : Int) + 2) < (s.size : Int)))))).trans (df hg155)) (v := (.bool false)) evc ?_)
                refine V.go (V.asg (v := (.bool false)) (at_same (((((((((((hz106.put _ _).put _ _).put _ _).put _ _).put _ _).put _ _).put _ _).put _ _).put _ _).put _ _).put _ _) rfl _) ?_)
                refine V.nil ?_
                refine V.then_n (hK154 _ _ ?_)
                refine V.flushW (((((((((((((hz106.put _ _).put _ _).put _ _).put _ _).put _ _).put _ _).put _ _).put _ _).put _ _).put _ _).put _ _).put _ _).put _ _) (fun a246 hz247 up248 => ?_)
                have s0_249 : a246.eval (.tmp 0) = (.string s) := up248 _ _ (at_other rfl _ (at_other rfl _ (at_other rfl _ (at_other rfl _ (at_other rfl _ (at_other rfl _ (at_other rfl _ (at_other rfl _ (at_other rfl _ (at_other rfl _ (at_other rfl _ (at_other rfl _ (at_other rfl _ (s0_108))))))))))))))
                have s2_250 : a246.eval (.tmp 2) = (.pointer (some ⟨b3, 0, none⟩)) := up248 _ _ (at_other rfl _ (at_other rfl _ (at_other rfl _ (at_other rfl _ (at_other rfl _ (at_other rfl _ (at_other rfl _ (at_other rfl _ (at_other rfl _ (at_other rfl _ (at_other rfl _ (at_other rfl _ (at_other rfl _ (s2_109))))))))))))))
                have s4_251 : a246.eval (.tmp 4) = (.pointer (some ⟨b10, 0, none⟩)) := up248 _ _ (at_other rfl _ (at_other rfl _ (at_other rfl _ (at_other rfl _ (at_other rfl _ (at_other rfl _ (at_other rfl _ (at_other rfl _ (at_other rfl _ (at_other rfl _ (at_other rfl _ (at_other rfl _ (at_other rfl _ (s4_110))))))))))))))
                have s5_252 : a246.eval (.tmp 5) = (.int .i64 (k : Int)) := up248 _ _ (at_other rfl _ (at_other rfl _ (at_other rfl _ (at_other rfl _ (at_other rfl _ (at_other rfl _ (at_other rfl _ (at_other rfl _ (at_other rfl _ (at_other rfl _ (at_other rfl _ (at_other rfl _ (at_other rfl _ (s5_111))))))))))))))
                have s72_253 : a246.eval (.tmp 72) = (.bool false) := up248 _ _ (at_same ((((((((((((hz106.put _ _).put _ _).put _ _).put _ _).put _ _).put _ _).put _ _).put _ _).put _ _).put _ _).put _ _).put _ _) rfl _)
                clear up248
                refine V.cond_f (s72_253) ?_
                refine V.seq (fun K254 hK255 => ?_)
                refine V.plan [[], [0], [], [], [2, 3], [], [], [5, 6], [2, 3, 4, 5, 6, 7], [2, 3, 4, 5, 6, 7, 8], [0, 1, 2, 3, 4, 5, 6, 7, 8, 9], [0, 1, 2, 3, 4, 5, 6, 7, 8, 9, 10], [0, 1, 2, 3, 4, 5, 6, 7, 8, 9, 10, 11]] [([0, 1, 2, 3, 4, 5, 6, 7, 8], some (9, [1])), ([], some (10, [])), ([11], some (12, [])), ([], none)] (by kernel_rfl) (by kernel_rfl) (by exact fun _ _ _ _ h => h) ?_
                simp only [Plan.wpSegs, Plan.pickAll, Plan.nth, V.L_eq]
                obtain ⟨w256, hF257e⟩ : ∃ w1, w1 = w73.drew := ⟨_, rfl⟩
                rw [← hF257e]
                have hF257 : Fr [] w73 w256 := by rw [hF257e]; exact Fr.drew _ _
                have hsw256 : w256.heap.size = w73.heap.size := by rw [hF257e]; rfl
                clear hF257e
                have hB4_258 := hB4_79.fr0 hF257
                have hO_259 := hO_80.fr0 hF257
                have hF_260 := hF_81.new hF257
                have hB5_261 := hB5_82.fr0 hF257
                refine V.go (V.pv [(4, .pointer (some ⟨b10, 0, none⟩))] ⟨(s4_251), trivial⟩ (by kernel_rfl) (.pointer (some ⟨b10, 3, none⟩)) (by kernel_rfl) ?_)
                refine V.go (V.ld ⟨b10, 3, none⟩ (.slice A acc.length c) (at_same hz247 rfl _) (by kernel_rfl) (hB4_258.at 3 rfl) ?_)
                refine V.go (V.mv (v := (.string s)) (at_other rfl _ (at_other rfl _ (s0_249))) ?_)
                refine V.go (V.mv (v := (.int .i64 (k : Int))) (at_other rfl _ (at_other rfl _ (at_other rfl _ (s5_252)))) ?_)
                refine V.go (V.ixs s .i64 (k : Int) (at_other rfl _ (at_same ((hz247.put _ _).put _ _) rfl _)) (at_same (((hz247.put _ _).put _ _).put _ _) rfl _) (by omega) (by omega) (by kernel_rfl) ?_)
                have hb262 := byt_lt s (k : Int)
                refine V.go (V.mv (v := (.string s)) (at_other rfl _ (at_other rfl _ (at_other rfl _ (at_other rfl _ (at_other rfl _ (s0_249)))))) ?_)
                refine V.go (V.mv (v := (.int .i64 (k : Int))) (at_other rfl _ (at_other rfl _ (at_other rfl _ (at_other rfl _ (at_other rfl _ (at_other rfl _ (s5_252))))))) ?_)
                refine V.go (V.ixs s .i64 (k : Int) (at_other rfl _ (at_same (((((hz247.put _ _).put _ _).put _ _).put _ _).put _ _) rfl _)) (at_same ((((((hz247.put _ _).put _ _).put _ _).put _ _).put _ _).put _ _) rfl _) (by omega) (by omega) (by kernel_rfl) ?_)
                have hb263 := byt_lt s (k : Int)
                refine V.go (V.pv [(34, .int .u8 (bi s (k : Int))), (37, .int .u8 (bi s (k : Int)))] ⟨(at_other rfl _ (at_other rfl _ (at_other rfl _ (at_same ((((hz247.put _ _).put _ _).put _ _).put _ _) rfl _)))), (at_same (((((((hz247.put _ _).put _ _).put _ _).put _ _).put _ _).put _ _).put _ _) rfl _), trivial⟩ (by kernel_rfl) (.agg #[.int .u8 (bi s (k : Int)), .int .u8 (bi s (k : Int))]) (by kernel_rfl) ?_)
                refine V.nil ?_
                refine ⟨chk [] trivial (by kernel_rfl), ?_⟩
                refine V.go (V.mk [(38, .agg #[.int .u8 (bi s (k : Int)), .int .u8 (bi s (k : Int))])] ⟨(at_same ((((((((hz247.put _ _).put _ _).put _ _).put _ _).put _ _).put _ _).put _ _).put _ _) rfl _), trivial⟩ (by kernel_rfl) [.int .u8 (bi s (k : Int)), .int .u8 (bi s (k : Int))] 54 (fun b => .slice (some ⟨b, 0, none⟩) 1 1) (by kernel_rfl) ?_)
                intro w265 b264 heb264 hB266 hF267 hsb264
                have hB4_268 := hB4_258.fr0 hF267
                have hO_269 := hO_259.fr0 hF267
                have hF_270 := hF_260.new hF267
                have hB5_271 := hB5_261.fr0 hF267
                refine V.nil ?_
                refine ⟨(fun _ => held_blk (n := 1) (hx := (at_other rfl _ (at_other rfl _ (at_other rfl _ (at_other rfl _ (at_other rfl _ (at_other rfl _ (at_other rfl _ (at_other rfl _ (at_same hz247 rfl _)))))))))) hB4_258 hB4_268 (by kernel_rfl) rfl (by simp only [List.length]; omega)), ?_⟩
                refine V.nil ?_
                refine ⟨chk [] trivial (by kernel_rfl), ?_⟩
                refine V.go (V.app (R := spanR) (ys := ([⟨bi s (k : Int), bi s (k : Int)⟩])) (news := [.int .u8 (bi s (k : Int)), .int .u8 (bi s (k : Int))]) (at_other rfl _ (at_other rfl _ (at_other rfl _ (at_other rfl _ (at_other rfl _ (at_other rfl _ (at_other rfl _ (at_other rfl _ (at_same (hz247.put _ _) rfl _))))))))) ⟨b264, 0, none⟩ 1 1 (at_same (((((((((hz247.put _ _).put _ _).put _ _).put _ _).put _ _).put _ _).put _ _).put _ _).put _ _) rfl _) (by kernel_rfl) (info54) (by kernel_rfl) (by decide) hO_269 rfl ⟨[.int .u8 (bi s (k : Int)), .int .u8 (bi s (k : Int))], [], rfl, rfl, rfl⟩ (blk_cells hB266 0 _ rfl) (by omega) (by decide) (by omega) ?_)
                intro A272 c273 w274 hO275z hF276 hatw274
                have hsw274 := hF276.size
                have hB4_277 := hB4_268.fr hF276 (by first | exact own_notin hO_269 (by omega) | exact own_notin2 hO_80 (by omega))
                have hF_278 := hF_270.own hF276 (own_ge hO_269 (by omega))
                have hB5_279 := hB5_271.fr hF276 (by first | exact own_notin hO_269 (by omega) | exact own_notin2 hO_80 (by omega))
                have hO275 := hO275z.zone (Z' := NoZ) (fun _ _ q => q.1) (fun _ _ q => q)
                refine V.nil ?_
                refine ⟨trivial, ?_⟩
                refine V.go (V.pv [(4, .pointer (some ⟨b10, 0, none⟩))] ⟨(at_other rfl _ (at_other rfl _ (at_other rfl _ (at_other rfl _ (at_other rfl _ (at_other rfl _ (at_other rfl _ (at_other rfl _ (at_other rfl _ (at_other rfl _ (at_other rfl _ (s4_251)))))))))))), trivial⟩ (by kernel_rfl) (.pointer (some ⟨b10, 3, none⟩)) (by kernel_rfl) ?_)
                refine V.nil ?_
                refine ⟨chk [] trivial (by kernel_rfl), ?_⟩
                refine V.go (V.stn b10 3 (.slice A272 (acc.length + 1) c273) [.slice A272 (acc.length + 1) c273] (at_same (((((((((((hz247.put _ _).put _ _).put _ _).put _ _).put _ _).put _ _).put _ _).put _ _).put _ _).put _ _).put _ _) rfl _) (at_other rfl _ (at_same ((((((((((hz247.put _ _).put _ _).put _ _).put _ _).put _ _).put _ _).put _ _).put _ _).put _ _).put _ _) rfl _)) rfl rfl (by kernel_rfl) hB4_277 (by simp) [.int .i64 4, .int .u8 0, .bool neg, .slice A272 (acc.length + 1) c273] rfl ?_)
                intro w280 hB281 hF282 hsw280
                have hF_283 := hF_278.own hF282 (by simp <;> omega)
                have hB5_284 := hB5_279.fr1 hF282 (by omega)
                have hO275_285 := hO275.frn hF282 (fun h => h) (by first | exact own_ne hO275 (by omega) | exact own_ne2 hO275 (by omega))
                refine V.nil ?_
                refine ⟨trivial, ?_⟩
                refine V.nil ?_
                refine ⟨chk [] trivial (by kernel_rfl), ?_⟩
                refine V.then_n (hK255 _ _ ?_)
                refine V.flushW ((((((((((((hz247.put _ _).put _ _).put _ _).put _ _).put _ _).put _ _).put _ _).put _ _).put _ _).put _ _).put _ _).put _ _) (fun a286 hz287 up288 => ?_)
                have s0_289 : a286.eval (.tmp 0) = (.string s) := up288 _ _ (at_other rfl _ (at_other rfl _ (at_other rfl _ (at_other rfl _ (at_other rfl _ (at_other rfl _ (at_other rfl _ (at_other rfl _ (at_other rfl _ (at_other rfl _ (at_other rfl _ (at_other rfl _ (s0_249)))))))))))))
                have s2_290 : a286.eval (.tmp 2) = (.pointer (some ⟨b3, 0, none⟩)) := up288 _ _ (at_other rfl _ (at_other rfl _ (at_other rfl _ (at_other rfl _ (at_other rfl _ (at_other rfl _ (at_other rfl _ (at_other rfl _ (at_other rfl _ (at_other rfl _ (at_other rfl _ (at_other rfl _ (s2_250)))))))))))))
                have s4_291 : a286.eval (.tmp 4) = (.pointer (some ⟨b10, 0, none⟩)) := up288 _ _ (at_other rfl _ (at_other rfl _ (at_other rfl _ (at_other rfl _ (at_other rfl _ (at_other rfl _ (at_other rfl _ (at_other rfl _ (at_other rfl _ (at_other rfl _ (at_other rfl _ (at_other rfl _ (s4_251)))))))))))))
                have s5_292 : a286.eval (.tmp 5) = (.int .i64 (k : Int)) := up288 _ _ (at_other rfl _ (at_other rfl _ (at_other rfl _ (at_other rfl _ (at_other rfl _ (at_other rfl _ (at_other rfl _ (at_other rfl _ (at_other rfl _ (at_other rfl _ (at_other rfl _ (at_other rfl _ (s5_252)))))))))))))
                clear up288
                refine V.region (by kernel_rfl) ?_
                refine V.go (V.mv (v := (.int .i64 (k : Int))) (s5_292) ?_)
                refine V.go (V.pvw [(42, .int .i64 (k : Int))] ⟨(at_same hz287 rfl _), trivial⟩ (by kernel_rfl) (.int .i64 (IntKind.i64.wrap ((k : Int) + 1))) (.int .i64 ((k : Int) + 1)) (by kernel_rfl) (V.w_i64 (by omega) (by omega)) ?_)
                refine V.go (V.asg (v := (.int .i64 ((k : Int) + 1))) (at_same (hz287.put _ _) rfl _) ?_)
                refine V.nil ?_
                refine V.blk_n ?_
                refine V.blk_n ?_
                refine V.then_n ?_
                have hstep := sp_one (s := s) (k := k) (by omega) (by omega) (by omega) (by intro h; show bi s ((k : Int) + 1) ≠ 45; omega)
                rw [hstep] at hsp
                refine ⟨k + 1, acc ++ [⟨bi s (k : Int), bi s (k : Int)⟩], A272, c273, by omega, ?_⟩
                refine ⟨(((hz287.put _ _).put _ _).put _ _), ?_, ?_, ?_, ?_, (by simpa using hB281), (by simpa using hO275_285), hF_283, hB5_284, (by omega), (by simp; omega), ⟨by simpa using hsp.1, by have := hsp.2; simp only [] at this; omega⟩⟩
                · exact (at_other rfl _ (at_other rfl _ (at_other rfl _ (s0_289))))
                · exact (at_other rfl _ (at_other rfl _ (at_other rfl _ (s2_290))))
                · exact (at_other rfl _ (at_other rfl _ (at_other rfl _ (s4_291))))
                · exact Eq.trans (at_same ((hz287.put _ _).put _ _) rfl _) (V.int_eq (by omega))
          ·
            refine V.go_off 49 (by kernel_rfl) (((at_same ((((hz93.put _ _).put _ _).put _ _).put _ _) rfl _ : Act.eval _ _ = (.bool (decide ((bi s (k : Int)) = 92))))).trans (df hg104)) (by kernel_rfl) ?_
            refine V.go_off 49 (by kernel_rfl) (((at_other rfl _ (at_same ((((hz93.put _ _).put _ _).put _ _).put _ _) rfl _) : Act.eval _ _ = (.bool (decide ((bi s (k : Int)) = 92))))).trans (df hg104)) (by kernel_rfl) ?_
            refine V.go_off 49 (by kernel_rfl) (((at_other rfl _ (at_other rfl _ (at_same ((((hz93.put _ _).put _ _).put _ _).put _ _) rfl _)) : Act.eval _ _ = (.bool (decide ((bi s (k : Int)) = 92))))).trans (df hg104)) (by kernel_rfl) ?_
            refine V.go_off 49 (by kernel_rfl) (((at_other rfl _ (at_other rfl _ (at_other rfl _ (at_same ((((hz93.put _ _).put _ _).put _ _).put _ _) rfl _))) : Act.eval _ _ = (.bool (decide ((bi s (k : Int)) = 92))))).trans (df hg104)) (by kernel_rfl) ?_
            refine V.go_off 49 (by kernel_rfl) (((at_other rfl _ (at_other rfl _ (at_other rfl _ (at_other rfl _ (at_same ((((hz93.put _ _).put _ _).put _ _).put _ _) rfl _)))) : Act.eval _ _ = (.bool (decide ((bi s (k : Int)) = 92))))).trans (df hg104)) (by kernel_rfl) ?_
            refine V.go (V.pk_f (((at_other rfl _ (at_other rfl _ (at_other rfl _ (at_other rfl _ (at_other rfl _ (at_same ((((hz93.put _ _).put _ _).put _ _).put _ _) rfl _))))) : Act.eval _ _ = (.bool (decide ((bi s (k : Int)) = 92))))).trans (df hg104)) (v := (.bool false)) evc ?_)
            refine V.go (V.asg (v := (.bool false)) (at_same ((((((((((hz93.put _ _).put _ _).put _ _).put _ _).put _ _).put _ _).put _ _).put _ _).put _ _).put _ _) rfl _) ?_)
            refine V.nil ?_
            refine V.then_n (hK102 _ _ ?_)
            refine V.flushW ((((((((((((hz93.put _ _).put _ _).put _ _).put _ _).put _ _).put _ _).put _ _).put _ _).put _ _).put _ _).put _ _).put _ _) (fun a293 hz294 up295 => ?_)
            have s0_296 : a293.eval (.tmp 0) = (.string s) := up295 _ _ (at_other rfl _ (at_other rfl _ (at_other rfl _ (at_other rfl _ (at_other rfl _ (at_other rfl _ (at_other rfl _ (at_other rfl _ (at_other rfl _ (at_other rfl _ (at_other rfl _ (at_other rfl _ (s0_95)))))))))))))
            have s2_297 : a293.eval (.tmp 2) = (.pointer (some ⟨b3, 0, none⟩)) := up295 _ _ (at_other rfl _ (at_other rfl _ (at_other rfl _ (at_other rfl _ (at_other rfl _ (at_other rfl _ (at_other rfl _ (at_other rfl _ (at_other rfl _ (at_other rfl _ (at_other rfl _ (at_other rfl _ (s2_96)))))))))))))
            have s4_298 : a293.eval (.tmp 4) = (.pointer (some ⟨b10, 0, none⟩)) := up295 _ _ (at_other rfl _ (at_other rfl _ (at_other rfl _ (at_other rfl _ (at_other rfl _ (at_other rfl _ (at_other rfl _ (at_other rfl _ (at_other rfl _ (at_other rfl _ (at_other rfl _ (at_other rfl _ (s4_97)))))))))))))
            have s5_299 : a293.eval (.tmp 5) = (.int .i64 (k : Int)) := up295 _ _ (at_other rfl _ (at_other rfl _ (at_other rfl _ (at_other rfl _ (at_other rfl _ (at_other rfl _ (at_other rfl _ (at_other rfl _ (at_other rfl _ (at_other rfl _ (at_other rfl _ (at_other rfl _ (s5_98)))))))))))))
            have s44_300 : a293.eval (.tmp 44) = (.bool false) := up295 _ _ (at_same (((((((((((hz93.put _ _).put _ _).put _ _).put _ _).put _ _).put _ _).put _ _).put _ _).put _ _).put _ _).put _ _) rfl _)
            clear up295
            refine V.cond_f (s44_300) ?_
            refine V.seq (fun K301 hK302 => ?_)
            refine V.region (by kernel_rfl) ?_
            refine V.go (V.mv (v := (.int .i64 (k : Int))) (s5_299) ?_)
            refine V.go (V.pvw [(73, .int .i64 (k : Int))] ⟨(at_same hz294 rfl _), trivial⟩ (by kernel_rfl) (.int .i64 (IntKind.i64.wrap ((k : Int) + 2))) (.int .i64 ((k : Int) + 2)) (by kernel_rfl) (V.w_i64 (by omega) (by omega)) ?_)
            refine V.go (V.mv (v := (.string s)) (at_other rfl _ (at_other rfl _ (s0_296))) ?_)
            refine V.go (V.pv [(75, .string s)] ⟨(at_same ((hz294.put _ _).put _ _) rfl _), trivial⟩ (by kernel_rfl) (.int .i64 (s.size : Int)) (by kernel_rfl) ?_)
            refine V.go (V.pv [(74, .int .i64 ((k : Int) + 2)), (76, .int .i64 (s.size : Int))] ⟨(at_other rfl _ (at_other rfl _ (at_same (hz294.put _ _) rfl _))), (at_same (((hz294.put _ _).put _ _).put _ _) rfl _), trivial⟩ (by kernel_rfl) (.bool (decide (((k : Int) + 2) < (s.size : Int)))) (by kernel_rfl) ?_)
            refine V.go (V.mv (v := (.bool (decide (((k : Int) + 2) < (s.size : Int))))) (at_same ((((hz294.put _ _).put _ _).put _ _).put _ _) rfl _) ?_)
            by_cases hg303 : ((k : Int) + 2) < (s.size : Int)
            ·
              refine V.go_on 78 (by kernel_rfl) (((at_same (((((hz294.put _ _).put _ _).put _ _).put _ _).put _ _) rfl _ : Act.eval _ _ = (.bool (decide (((k : Int) + 2) < (s.size : Int)))))).trans (dt hg303)) (V.mv (v := (.string s)) (at_other rfl _ (at_other rfl _ (at_other rfl _ (at_other rfl _ (at_other rfl _ (at_other rfl _ (s0_296))))))) ?_)
              refine V.go_on 78 (by kernel_rfl) (((at_other rfl _ (at_same (((((hz294.put _ _).put _ _).put _ _).put _ _).put _ _) rfl _) : Act.eval _ _ = (.bool (decide (((k : Int) + 2) < (s.size : Int)))))).trans (dt hg303)) (V.mv (v := (.int .i64 (k : Int))) (at_other rfl _ (at_other rfl _ (at_other rfl _ (at_other rfl _ (at_other rfl _ (at_other rfl _ (at_other rfl _ (s5_299)))))))) ?_)
              refine V.go_on 78 (by kernel_rfl) (((at_other rfl _ (at_other rfl _ (at_same (((((hz294.put _ _).put _ _).put _ _).put _ _).put _ _) rfl _)) : Act.eval _ _ = (.bool (decide (((k : Int) + 2) < (s.size : Int)))))).trans (dt hg303)) (V.pvw [(80, .int .i64 (k : Int))] ⟨(at_same (((((((hz294.put _ _).put _ _).put _ _).put _ _).put _ _).put _ _).put _ _) rfl _), trivial⟩ (by kernel_rfl) (.int .i64 (IntKind.i64.wrap ((k : Int) + 1))) (.int .i64 ((k : Int) + 1)) (by kernel_rfl) (V.w_i64 (by omega) (by omega)) ?_)
              refine V.go_on 78 (by kernel_rfl) (((at_other rfl _ (at_other rfl _ (at_other rfl _ (at_same (((((hz294.put _ _).put _ _).put _ _).put _ _).put _ _) rfl _))) : Act.eval _ _ = (.bool (decide (((k : Int) + 2) < (s.size : Int)))))).trans (dt hg303)) (V.ixs s .i64 ((k : Int) + 1) (at_other rfl _ (at_other rfl _ (at_same ((((((hz294.put _ _).put _ _).put _ _).put _ _).put _ _).put _ _) rfl _))) (at_same ((((((((hz294.put _ _).put _ _).put _ _).put _ _).put _ _).put _ _).put _ _).put _ _) rfl _) (by omega) (by omega) (by kernel_rfl) ?_)
              have hb304 := byt_lt s ((k : Int) + 1)
              refine V.go_on 78 (by kernel_rfl) (((at_other rfl _ (at_other rfl _ (at_other rfl _ (at_other rfl _ (at_same (((((hz294.put _ _).put _ _).put _ _).put _ _).put _ _) rfl _)))) : Act.eval _ _ = (.bool (decide (((k : Int) + 2) < (s.size : Int)))))).trans (dt hg303)) (V.pvw [(82, .int .u8 (bi s ((k : Int) + 1)))] ⟨(at_same (((((((((hz294.put _ _).put _ _).put _ _).put _ _).put _ _).put _ _).put _ _).put _ _).put _ _) rfl _), trivial⟩ (by kernel_rfl) (.bool ((bi s ((k : Int) + 1)) == 45)) (.bool (decide ((bi s ((k : Int) + 1)) = 45))) (by kernel_rfl) V.t_eql ?_)
              refine V.go (V.pk_t (((at_other rfl _ (at_other rfl _ (at_other rfl _ (at_other rfl _ (at_other rfl _ (at_same (((((hz294.put _ _).put _ _).put _ _).put _ _).put _ _) rfl _))))) : Act.eval _ _ = (.bool (decide (((k : Int) + 2) < (s.size : Int)))))).trans (dt hg303)) (v := (.bool (decide ((bi s ((k : Int) + 1)) = 45)))) (at_same ((((((((((hz294.put _ _).put _ _).put _ _).put _ _).put _ _).put _ _).put _ _).put _ _).put _ _).put _ _) rfl _) ?_)
              refine V.go (V.asg (v := (.bool (decide ((bi s ((k : Int) + 1)) = 45)))) (at_same (((((((((((hz294.put _ _).put _ _).put _ _).put _ _).put _ _).put _ _).put _ _).put _ _).put _ _).put _ _).put _ _) rfl _) ?_)
              refine V.nil ?_
              refine V.then_n (hK302 _ _ ?_)
              refine V.flushW (((((((((((((hz294.put _ _).put _ _).put _ _).put _ _).put _ _).put _ _).put _ _).put _ _).put _ _).put _ _).put _ _).put _ _).put _ _) (fun a305 hz306 up307 => ?_)
              have s0_308 : a305.eval (.tmp 0) = (.string s) := up307 _ _ (at_other rfl _ (at_other rfl _ (at_other rfl _ (at_other rfl _ (at_other rfl _ (at_other rfl _ (at_other rfl _ (at_other rfl _ (at_other rfl _ (at_other rfl _ (at_other rfl _ (at_other rfl _ (at_other rfl _ (s0_296))))))))))))))
              have s2_309 : a305.eval (.tmp 2) = (.pointer (some ⟨b3, 0, none⟩)) := up307 _ _ (at_other rfl _ (at_other rfl _ (at_other rfl _ (at_other rfl _ (at_other rfl _ (at_other rfl _ (at_other rfl _ (at_other rfl _ (at_other rfl _ (at_other rfl _ (at_other rfl _ (at_other rfl _ (at_other rfl _ (s2_297))))))))))))))
              have s4_310 : a305.eval (.tmp 4) = (.pointer (some ⟨b10, 0, none⟩)) := up307 _ _ (at_other rfl _ (at_other rfl _ (at_other rfl _ (at_other rfl _ (at_other rfl _ (at_other rfl _ (at_other rfl _ (at_other rfl _ (at_other rfl _ (at_other rfl _ (at_other rfl _ (at_other rfl _ (at_other rfl _ (s4_298))))))))))))))
              have s5_311 : a305.eval (.tmp 5) = (.int .i64 (k : Int)) := up307 _ _ (at_other rfl _ (at_other rfl _ (at_other rfl _ (at_other rfl _ (at_other rfl _ (at_other rfl _ (at_other rfl _ (at_other rfl _ (at_other rfl _ (at_other rfl _ (at_other rfl _ (at_other rfl _ (at_other rfl _ (s5_299))))))))))))))
              have s72_312 : a305.eval (.tmp 72) = (.bool (decide ((bi s ((k : Int) + 1)) = 45))) := up307 _ _ (at_same ((((((((((((hz294.put _ _).put _ _).put _ _).put _ _).put _ _).put _ _).put _ _).put _ _).put _ _).put _ _).put _ _).put _ _) rfl _)
              clear up307
              refine V.condP (p := (bi s ((k : Int) + 1)) = 45) (s72_312) (fun ht313 => ?_) (fun ht313 => ?_)
              ·
                refine V.seq (fun K314 hK315 => ?_)
                refine V.plan [[], [0], [], [], [2, 3], [], [], [6], [5, 6, 7], [2, 3, 4, 5, 6, 7, 8], [], [], [10, 11], [], [], [14], [13, 14, 15], [10, 11, 12, 13, 14, 15, 16], [2, 3, 4, 5, 6, 7, 8, 9, 10, 11, 12, 13, 14, 15, 16, 17], [2, 3, 4, 5, 6, 7, 8, 9, 10, 11, 12, 13, 14, 15, 16, 17, 18], [0, 1, 2, 3, 4, 5, 6, 7, 8, 9, 10, 11, 12, 13, 14, 15, 16, 17, 18, 19], [0, 1, 2, 3, 4, 5, 6, 7, 8, 9, 10, 11, 12, 13, 14, 15, 16, 17, 18, 19, 20], [0, 1, 2, 3, 4, 5, 6, 7, 8, 9, 10, 11, 12, 13, 14, 15, 16, 17, 18, 19, 20, 21]] [([0, 1, 2, 3, 4, 5, 6, 7, 8, 9, 10, 11, 12, 13, 14, 15, 16, 17, 18], some (19, [1])), ([], some (20, [])), ([21], some (22, [])), ([], none)] (by kernel_rfl) (by kernel_rfl) (by exact fun _ _ _ _ h => h) ?_
                simp only [Plan.wpSegs, Plan.pickAll, Plan.nth, V.L_eq]
                obtain ⟨w316, hF317e⟩ : ∃ w1, w1 = w73.drew := ⟨_, rfl⟩
                rw [← hF317e]
                have hF317 : Fr [] w73 w316 := by rw [hF317e]; exact Fr.drew _ _
                have hsw316 : w316.heap.size = w73.heap.size := by rw [hF317e]; rfl
                clear hF317e
                have hB4_318 := hB4_79.fr0 hF317
                have hO_319 := hO_80.fr0 hF317
                have hF_320 := hF_81.new hF317
                have hB5_321 := hB5_82.fr0 hF317
                refine V.go (V.pv [(4, .pointer (some ⟨b10, 0, none⟩))] ⟨(s4_310), trivial⟩ (by kernel_rfl) (.pointer (some ⟨b10, 3, none⟩)) (by kernel_rfl) ?_)
                refine V.go (V.ld ⟨b10, 3, none⟩ (.slice A acc.length c) (at_same hz306 rfl _) (by kernel_rfl) (hB4_318.at 3 rfl) ?_)
                refine V.go (V.mv (v := (.string s)) (at_other rfl _ (at_other rfl _ (s0_308))) ?_)
                refine V.go (V.mv (v := (.int .i64 (k : Int))) (at_other rfl _ (at_other rfl _ (at_other rfl _ (s5_311)))) ?_)
                refine V.go (V.ixs s .i64 (k : Int) (at_other rfl _ (at_same ((hz306.put _ _).put _ _) rfl _)) (at_same (((hz306.put _ _).put _ _).put _ _) rfl _) (by omega) (by omega) (by kernel_rfl) ?_)
                have hb322 := byt_lt s (k : Int)
                refine V.go (V.mv (v := (.string s)) (at_other rfl _ (at_other rfl _ (at_other rfl _ (at_other rfl _ (at_other rfl _ (s0_308)))))) ?_)
                refine V.go (V.mv (v := (.int .i64 (k : Int))) (at_other rfl _ (at_other rfl _ (at_other rfl _ (at_other rfl _ (at_other rfl _ (at_other rfl _ (s5_311))))))) ?_)
                refine V.go (V.pvw [(91, .int .i64 (k : Int))] ⟨(at_same ((((((hz306.put _ _).put _ _).put _ _).put _ _).put _ _).put _ _) rfl _), trivial⟩ (by kernel_rfl) (.int .i64 (IntKind.i64.wrap ((k : Int) + 2))) (.int .i64 ((k : Int) + 2)) (by kernel_rfl) (V.w_i64 (by omega) (by omega)) ?_)
                refine V.go (V.ixs s .i64 ((k : Int) + 2) (at_other rfl _ (at_other rfl _ (at_same (((((hz306.put _ _).put _ _).put _ _).put _ _).put _ _) rfl _))) (at_same (((((((hz306.put _ _).put _ _).put _ _).put _ _).put _ _).put _ _).put _ _) rfl _) (by omega) (by omega) (by kernel_rfl) ?_)
                have hb323 := byt_lt s ((k : Int) + 2)
                refine V.go (V.pvw [(89, .int .u8 (bi s (k : Int))), (93, .int .u8 (bi s ((k : Int) + 2)))] ⟨(at_other rfl _ (at_other rfl _ (at_other rfl _ (at_other rfl _ (at_same ((((hz306.put _ _).put _ _).put _ _).put _ _) rfl _))))), (at_same ((((((((hz306.put _ _).put _ _).put _ _).put _ _).put _ _).put _ _).put _ _).put _ _) rfl _), trivial⟩ (by kernel_rfl) (.int .u8 (if (bi s ((k : Int) + 2)) < (bi s (k : Int)) then (bi s ((k : Int) + 2)) else (bi s (k : Int)))) (.int .u8 (min (bi s (k : Int)) (bi s ((k : Int) + 2)))) (by kernel_rfl) V.min_int ?_)
                refine V.go (V.mv (v := (.string s)) (at_other rfl _ (at_other rfl _ (at_other rfl _ (at_other rfl _ (at_other rfl _ (at_other rfl _ (at_other rfl _ (at_other rfl _ (at_other rfl _ (at_other rfl _ (s0_308))))))))))) ?_)
                refine V.go (V.mv (v := (.int .i64 (k : Int))) (at_other rfl _ (at_other rfl _ (at_other rfl _ (at_other rfl _ (at_other rfl _ (at_other rfl _ (at_other rfl _ (at_other rfl _ (at_other rfl _ (at_other rfl _ (at_other rfl _ (s5_311)))))))))))) ?_)
                refine V.go (V.ixs s .i64 (k : Int) (at_other rfl _ (at_same ((((((((((hz306.put _ _).put _ _).put _ _).put _ _).put _ _).put _ _).put _ _).put _ _).put _ _).put _ _) rfl _)) (at_same (((((((((((hz306.put _ _).put _ _).put _ _).put _ _).put _ _).put _ _).put _ _).put _ _).put _ _).put _ _).put _ _) rfl _) (by omega) (by omega) (by kernel_rfl) ?_)
                have hb324 := byt_lt s (k : Int)
                refine V.go (V.mv (v := (.string s)) (at_other rfl _ (at_other rfl _ (at_other rfl _ (at_other rfl _ (at_other rfl _ (at_other rfl _ (at_other rfl _ (at_other rfl _ (at_other rfl _ (at_other rfl _ (at_other rfl _ (at_other rfl _ (at_other rfl _ (s0_308)))))))))))))) ?_)
                refine V.go (V.mv (v := (.int .i64 (k : Int))) (at_other rfl _ (at_other rfl _ (at_other rfl _ (at_other rfl _ (at_other rfl _ (at_other rfl _ (at_other rfl _ (at_other rfl _ (at_other rfl _ (at_other rfl _ (at_other rfl _ (at_other rfl _ (at_other rfl _ (at_other rfl _ (s5_311))))))))))))))) ?_)
                refine V.go (V.pvw [(99, .int .i64 (k : Int))] ⟨(at_same ((((((((((((((hz306.put _ _).put _ _).put _ _).put _ _).put _ _).put _ _).put _ _).put _ _).put _ _).put _ _).put _ _).put _ _).put _ _).put _ _) rfl _), trivial⟩ (by kernel_rfl) (.int .i64 (IntKind.i64.wrap ((k : Int) + 2))) (.int .i64 ((k : Int) + 2)) (by kernel_rfl) (V.w_i64 (by omega) (by omega)) ?_)
                refine V.go (V.ixs s .i64 ((k : Int) + 2) (at_other rfl _ (at_other rfl _ (at_same (((((((((((((hz306.put _ _).put _ _).put _ _).put _ _).put _ _).put _ _).put _ _).put _ _).put _ _).put _ _).put _ _).put _ _).put _ _) rfl _))) (at_same (((((((((((((((hz306.put _ _).put _ _).put _ _).put _ _).put _ _).put _ _).put _ _).put _ _).put _ _).put _ _).put _ _).put _ _).put _ _).put _ _).put _ _) rfl _) (by omega) (by omega) (by kernel_rfl) ?_)
                have hb325 := byt_lt s ((k : Int) + 2)
                refine V.go (V.pvw [(97, .int .u8 (bi s (k : Int))), (101, .int .u8 (bi s ((k : Int) + 2)))] ⟨(at_other rfl _ (at_other rfl _ (at_other rfl _ (at_other rfl _ (at_same ((((((((((((hz306.put _ _).put _ _).put _ _).put _ _).put _ _).put _ _).put _ _).put _ _).put _ _).put _ _).put _ _).put _ _) rfl _))))), (at_same ((((((((((((((((hz306.put _ _).put _ _).put _ _).put _ _).put _ _).put _ _).put _ _).put _ _).put _ _).put _ _).put _ _).put _ _).put _ _).put _ _).put _ _).put _ _) rfl _), trivial⟩ (by kernel_rfl) (.int .u8 (if (bi s ((k : Int) + 2)) > (bi s (k : Int)) then (bi s ((k : Int) + 2)) else (bi s (k : Int)))) (.int .u8 (max (bi s (k : Int)) (bi s ((k : Int) + 2)))) (by kernel_rfl) V.max_int ?_)
                refine V.go (V.pv [(94, .int .u8 (min (bi s (k : Int)) (bi s ((k : Int) + 2)))), (102, .int .u8 (max (bi s (k : Int)) (bi s ((k : Int) + 2))))] ⟨(at_other rfl _ (at_other rfl _ (at_other rfl _ (at_other rfl _ (at_other rfl _ (at_other rfl _ (at_other rfl _ (at_other rfl _ (at_same (((((((((hz306.put _ _).put _ _).put _ _).put _ _).put _ _).put _ _).put _ _).put _ _).put _ _) rfl _))))))))), (at_same (((((((((((((((((hz306.put _ _).put _ _).put _ _).put _ _).put _ _).put _ _).put _ _).put _ _).put _ _).put _ _).put _ _).put _ _).put _ _).put _ _).put _ _).put _ _).put _ _) rfl _), trivial⟩ (by kernel_rfl) (.agg #[.int .u8 (min (bi s (k : Int)) (bi s ((k : Int) + 2))), .int .u8 (max (bi s (k : Int)) (bi s ((k : Int) + 2)))]) (by kernel_rfl) ?_)
                refine V.nil ?_
                refine ⟨chk [(91, .int .i64 (k : Int)), (89, .int .u8 (bi s (k : Int))), (93, .int .u8 (bi s ((k : Int) + 2))), (99, .int .i64 (k : Int)), (97, .int .u8 (bi s (k : Int))), (101, .int .u8 (bi s ((k : Int) + 2)))] ⟨(at_other rfl _ (at_other rfl _ (at_other rfl _ (at_other rfl _ (at_other rfl _ (at_other rfl _ (at_other rfl _ (at_other rfl _ (at_other rfl _ (at_other rfl _ (at_other rfl _ (at_other rfl _ (at_same ((((((hz306.put _ _).put _ _).put _ _).put _ _).put _ _).put _ _) rfl _))))))))))))), (at_other rfl _ (at_other rfl _ (at_other rfl _ (at_other rfl _ (at_other rfl _ (at_other rfl _ (at_other rfl _ (at_other rfl _ (at_other rfl _ (at_other rfl _ (at_other rfl _ (at_other rfl _ (at_other rfl _ (at_other rfl _ (at_same ((((hz306.put _ _).put _ _).put _ _).put _ _) rfl _))))))))))))))), (at_other rfl _ (at_other rfl _ (at_other rfl _ (at_other rfl _ (at_other rfl _ (at_other rfl _ (at_other rfl _ (at_other rfl _ (at_other rfl _ (at_other rfl _ (at_same ((((((((hz306.put _ _).put _ _).put _ _).put _ _).put _ _).put _ _).put _ _).put _ _) rfl _))))))))))), (at_other rfl _ (at_other rfl _ (at_other rfl _ (at_other rfl _ (at_same ((((((((((((((hz306.put _ _).put _ _).put _ _).put _ _).put _ _).put _ _).put _ _).put _ _).put _ _).put _ _).put _ _).put _ _).put _ _).put _ _) rfl _))))), (at_other rfl _ (at_other rfl _ (at_other rfl _ (at_other rfl _ (at_other rfl _ (at_other rfl _ (at_same ((((((((((((hz306.put _ _).put _ _).put _ _).put _ _).put _ _).put _ _).put _ _).put _ _).put _ _).put _ _).put _ _).put _ _) rfl _))))))), (at_other rfl _ (at_other rfl _ (at_same ((((((((((((((((hz306.put _ _).put _ _).put _ _).put _ _).put _ _).put _ _).put _ _).put _ _).put _ _).put _ _).put _ _).put _ _).put _ _).put _ _).put _ _).put _ _) rfl _))), trivial⟩ (by kernel_rfl), ?_⟩
                refine V.go (V.mk [(103, .agg #[.int .u8 (min (bi s (k : Int)) (bi s ((k : Int) + 2))), .int .u8 (max (bi s (k : Int)) (bi s ((k : Int) + 2)))])] ⟨(at_same ((((((((((((((((((hz306.put _ _).put _ _).put _ _).put _ _).put _ _).put _ _).put _ _).put _ _).put _ _).put _ _).put _ _).put _ _).put _ _).put _ _).put _ _).put _ _).put _ _).put _ _) rfl _), trivial⟩ (by kernel_rfl) [.int .u8 (min (bi s (k : Int)) (bi s ((k : Int) + 2))), .int .u8 (max (bi s (k : Int)) (bi s ((k : Int) + 2)))] 54 (fun b => .slice (some ⟨b, 0, none⟩) 1 1) (by kernel_rfl) ?_)
                intro w327 b326 heb326 hB328 hF329 hsb326
                have hB4_330 := hB4_318.fr0 hF329
                have hO_331 := hO_319.fr0 hF329
                have hF_332 := hF_320.new hF329
                have hB5_333 := hB5_321.fr0 hF329
                refine V.nil ?_
                refine ⟨(fun _ => held_blk (n := 1) (hx := (at_other rfl _ (at_other rfl _ (at_other rfl _ (at_other rfl _ (at_other rfl _ (at_other rfl _ (at_other rfl _ (at_other rfl _ (at_other rfl _ (at_other rfl _ (at_other rfl _ (at_other rfl _ (at_other rfl _ (at_other rfl _ (at_other rfl _ (at_other rfl _ (at_other rfl _ (at_other rfl _ (at_same hz306 rfl _)))))))))))))))))))) hB4_318 hB4_330 (by kernel_rfl) rfl (by simp only [List.length]; omega)), ?_⟩
                refine V.nil ?_
                refine ⟨chk [] trivial (by kernel_rfl), ?_⟩
                refine V.go (V.app (R := spanR) (ys := ([⟨min (bi s (k : Int)) (bi s ((k : Int) + 2)), max (bi s (k : Int)) (bi s ((k : Int) + 2))⟩])) (news := [.int .u8 (min (bi s (k : Int)) (bi s ((k : Int) + 2))), .int .u8 (max (bi s (k : Int)) (bi s ((k : Int) + 2)))]) (at_other rfl _ (at_other rfl _ (at_other rfl _ (at_other rfl _ (at_other rfl _ (at_other rfl _ (at_other rfl _ (at_other rfl _ (at_other rfl _ (at_other rfl _ (at_other rfl _ (at_other rfl _ (at_other rfl _ (at_other rfl _ (at_other rfl _ (at_other rfl _ (at_other rfl _ (at_other rfl _ (at_same (hz306.put _ _) rfl _))))))))))))))))))) ⟨b326, 0, none⟩ 1 1 (at_same (((((((((((((((((((hz306.put _ _).put _ _).put _ _).put _ _).put _ _).put _ _).put _ _).put _ _).put _ _).put _ _).put _ _).put _ _).put _ _).put _ _).put _ _).put _ _).put _ _).put _ _).put _ _) rfl _) (by kernel_rfl) (info54) (by kernel_rfl) (by decide) hO_331 rfl ⟨[.int .u8 (min (bi s (k : Int)) (bi s ((k : Int) + 2))), .int .u8 (max (bi s (k : Int)) (bi s ((k : Int) + 2)))], [], rfl, rfl, rfl⟩ (blk_cells hB328 0 _ rfl) (by omega) (by decide) (by omega) ?_)
                intro A334 c335 w336 hO337z hF338 hatw336
                have hsw336 := hF338.size
                have hB4_339 := hB4_330.fr hF338 (by first | exact own_notin hO_331 (by omega) | exact own_notin2 hO_80 (by omega))
                have hF_340 := hF_332.own hF338 (own_ge hO_331 (by omega))
                have hB5_341 := hB5_333.fr hF338 (by first | exact own_notin hO_331 (by omega) | exact own_notin2 hO_80 (by omega))
                have hO337 := hO337z.zone (Z' := NoZ) (fun _ _ q => q.1) (fun _ _ q => q)
                refine V.nil ?_
                refine ⟨trivial, ?_⟩
                refine V.go (V.pv [(4, .pointer (some ⟨b10, 0, none⟩))] ⟨(at_other rfl _ (at_other rfl _ (at_other rfl _ (at_other rfl _ (at_other rfl _ (at_other rfl _ (at_other rfl _ (at_other rfl _ (at_other rfl _ (at_other rfl _ (at_other rfl _ (at_other rfl _ (at_other rfl _ (at_other rfl _ (at_other rfl _ (at_other rfl _ (at_other rfl _ (at_other rfl _ (at_other rfl _ (at_other rfl _ (at_other rfl _ (s4_310)))))))))))))))))))))), trivial⟩ (by kernel_rfl) (.pointer (some ⟨b10, 3, none⟩)) (by kernel_rfl) ?_)
                refine V.nil ?_
                refine ⟨chk [] trivial (by kernel_rfl), ?_⟩
                refine V.go (V.stn b10 3 (.slice A334 (acc.length + 1) c335) [.slice A334 (acc.length + 1) c335] (at_same (((((((((((((((((((((hz306.put _ _).put _ _).put _ _).put _ _).put _ _).put _ _).put _ _).put _ _).put _ _).put _ _).put _ _).put _ _).put _ _).put _ _).put _ _).put _ _).put _ _).put _ _).put _ _).put _ _).put _ _) rfl _) (at_other rfl _ (at_same ((((((((((((((((((((hz306.put _ _).put _ _).put _ _).put _ _).put _ _).put _ _).put _ _).put _ _).put _ _).put _ _).put _ _).put _ _).put _ _).put _ _).put _ _).put _ _).put _ _).put _ _).put _ _).put _ _) rfl _)) rfl rfl (by kernel_rfl) hB4_339 (by simp) [.int .i64 4, .int .u8 0, .bool neg, .slice A334 (acc.length + 1) c335] rfl ?_)
                intro w342 hB343 hF344 hsw342
                have hF_345 := hF_340.own hF344 (by simp <;> omega)
                have hB5_346 := hB5_341.fr1 hF344 (by omega)
                have hO337_347 := hO337.frn hF344 (fun h => h) (by first | exact own_ne hO337 (by omega) | exact own_ne2 hO337 (by omega))
                refine V.nil ?_
                refine ⟨trivial, ?_⟩
                refine V.nil ?_
                refine ⟨chk [] trivial (by kernel_rfl), ?_⟩
                refine V.then_n (hK315 _ _ ?_)
                refine V.flushW ((((((((((((((((((((((hz306.put _ _).put _ _).put _ _).put _ _).put _ _).put _ _).put _ _).put _ _).put _ _).put _ _).put _ _).put _ _).put _ _).put _ _).put _ _).put _ _).put _ _).put _ _).put _ _).put _ _).put _ _).put _ _) (fun a348 hz349 up350 => ?_)
                have s0_351 : a348.eval (.tmp 0) = (.string s) := up350 _ _ (at_other rfl _ (at_other rfl _ (at_other rfl _ (at_other rfl _ (at_other rfl _ (at_other rfl _ (at_other rfl _ (at_other rfl _ (at_other rfl _ (at_other rfl _ (at_other rfl _ (at_other rfl _ (at_other rfl _ (at_other rfl _ (at_other rfl _ (at_other rfl _ (at_other rfl _ (at_other rfl _ (at_other rfl _ (at_other rfl _ (at_other rfl _ (at_other rfl _ (s0_308)))))))))))))))))))))))
                have s2_352 : a348.eval (.tmp 2) = (.pointer (some ⟨b3, 0, none⟩)) := up350 _ _ (at_other rfl _ (at_other rfl _ (at_other rfl _ (at_other rfl _ (at_other rfl _ (at_other rfl _ (at_other rfl _ (at_other rfl _ (at_other rfl _ (at_other rfl _ (at_other rfl _ (at_other rfl _ (at_other rfl _ (at_other rfl _ (at_other rfl _ (at_other rfl _ (at_other rfl _ (at_other rfl _ (at_other rfl _ (at_other rfl _ (at_other rfl _ (at_other rfl _ (s2_309)))))))))))))))))))))))
                have s4_353 : a348.eval (.tmp 4) = (.pointer (some ⟨b10, 0, none⟩)) := up350 _ _ (at_other rfl _ (at_other rfl _ (at_other rfl _ (at_other rfl _ (at_other rfl _ (at_other rfl _ (at_other rfl _ (at_other rfl _ (at_other rfl _ (at_other rfl _ (at_other rfl _ (at_other rfl _ (at_other rfl _ (at_other rfl _ (at_other rfl _ (at_other rfl _ (at_other rfl _ (at_other rfl _ (at_other rfl _ (at_other rfl _ (at_other rfl _ (at_other rfl _ (s4_310)))))))))))))))))))))))
                have s5_354 : a348.eval (.tmp 5) = (.int .i64 (k : Int)) := up350 _ _ (at_other rfl _ (at_other rfl _ (at_other rfl _ (at_other rfl _ (at_other rfl _ (at_other rfl _ (at_other rfl _ (at_other rfl _ (at_other rfl _ (at_other rfl _ (at_other rfl _ (at_other rfl _ (at_other rfl _ (at_other rfl _ (at_other rfl _ (at_other rfl _ (at_other rfl _ (at_other rfl _ (at_other rfl _ (at_other rfl _ (at_other rfl _ (at_other rfl _ (s5_311)))))))))))))))))))))))
                clear up350
                refine V.region (by kernel_rfl) ?_
                refine V.go (V.mv (v := (.int .i64 (k : Int))) (s5_354) ?_)
                refine V.go (V.pvw [(107, .int .i64 (k : Int))] ⟨(at_same hz349 rfl _), trivial⟩ (by kernel_rfl) (.int .i64 (IntKind.i64.wrap ((k : Int) + 3))) (.int .i64 ((k : Int) + 3)) (by kernel_rfl) (V.w_i64 (by omega) (by omega)) ?_)
                refine V.go (V.asg (v := (.int .i64 ((k : Int) + 3))) (at_same (hz349.put _ _) rfl _) ?_)
                refine V.nil ?_
                refine V.blk_n ?_
                refine V.blk_n ?_
                refine V.then_n ?_
                have hstep := sp_range (s := s) (k := k) (by omega) (by omega) (by omega) (by show bi s ((k : Int) + 1) = 45; assumption)
                rw [hstep] at hsp
                refine ⟨k + 3, acc ++ [⟨min (bi s (k : Int)) (bi s ((k : Int) + 2)), max (bi s (k : Int)) (bi s ((k : Int) + 2))⟩], A334, c335, by omega, ?_⟩
                refine ⟨(((hz349.put _ _).put _ _).put _ _), ?_, ?_, ?_, ?_, (by simpa using hB343), (by simpa using hO337_347), hF_345, hB5_346, (by omega), (by simp; omega), ⟨by simpa using hsp.1, by have := hsp.2; simp only [] at this; omega⟩⟩
                · exact (at_other rfl _ (at_other rfl _ (at_other rfl _ (s0_351))))
                · exact (at_other rfl _ (at_other rfl _ (at_other rfl _ (s2_352))))
                · exact (at_other rfl _ (at_other rfl _ (at_other rfl _ (s4_353))))
                · exact Eq.trans (at_same ((hz349.put _ _).put _ _) rfl _) (V.int_eq (by omega))
              ·
                refine V.seq (fun K355 hK356 => ?_)
                refine V.plan [[], [0], [], [], [2, 3], [], [], [5, 6], [2, 3, 4, 5, 6, 7], [2, 3, 4, 5, 6, 7, 8], [0, 1, 2, 3, 4, 5, 6, 7, 8, 9], [0, 1, 2, 3, 4, 5, 6, 7, 8, 9, 10], [0, 1, 2, 3, 4, 5, 6, 7, 8, 9, 10, 11]] [([0, 1, 2, 3, 4, 5, 6, 7, 8], some (9, [1])), ([], some (10, [])), ([11], some (12, [])), ([], none)] (by kernel_rfl) (by kernel_rfl) (by exact fun _ _ _ _ h => h) ?_
                simp only [Plan.wpSegs, Plan.pickAll, Plan.nth, V.L_eq]
                obtain ⟨w357, hF358e⟩ : ∃ w1, w1 = w73.drew := ⟨_, rfl⟩
                rw [← hF358e]
                have hF358 : Fr [] w73 w357 := by rw [hF358e]; exact Fr.drew _ _
                have hsw357 : w357.heap.size = w73.heap.size := by rw [hF358e]; rfl
                clear hF358e
                have hB4_359 := hB4_79.fr0 hF358
                have hO_360 := hO_80.fr0 hF358
                have hF_361 := hF_81.new hF358
                have hB5_362 := hB5_82.fr0 hF358
                refine V.go (V.pv [(4, .pointer (some ⟨b10, 0, none⟩))] ⟨(s4_310), trivial⟩ (by kernel_rfl) (.pointer (some ⟨b10, 3, none⟩)) (by kernel_rfl) ?_)
                refine V.go (V.ld ⟨b10, 3, none⟩ (.slice A acc.length c) (at_same hz306 rfl _) (by kernel_rfl) (hB4_359.at 3 rfl) ?_)
                refine V.go (V.mv (v := (.string s)) (at_other rfl _ (at_other rfl _ (s0_308))) ?_)
                refine V.go (V.mv (v := (.int .i64 (k : Int))) (at_other rfl _ (at_other rfl _ (at_other rfl _ (s5_311)))) ?_)
                refine V.go (V.ixs s .i64 (k : Int) (at_other rfl _ (at_same ((hz306.put _ _).put _ _) rfl _)) (at_same (((hz306.put _ _).put _ _).put _ _) rfl _) (by omega) (by omega) (by kernel_rfl) ?_)
                have hb363 := byt_lt s (k : Int)
                refine V.go (V.mv (v := (.string s)) (at_other rfl _ (at_other rfl _ (at_other rfl _ (at_other rfl _ (at_other rfl _ (s0_308)))))) ?_)
                refine V.go (V.mv (v := (.int .i64 (k : Int))) (at_other rfl _ (at_other rfl _ (at_other rfl _ (at_other rfl _ (at_other rfl _ (at_other rfl _ (s5_311))))))) ?_)
                refine V.go (V.ixs s .i64 (k : Int) (at_other rfl _ (at_same (((((hz306.put _ _).put _ _).put _ _).put _ _).put _ _) rfl _)) (at_same ((((((hz306.put _ _).put _ _).put _ _).put _ _).put _ _).put _ _) rfl _) (by omega) (by omega) (by kernel_rfl) ?_)
                have hb364 := byt_lt s (k : Int)
                refine V.go (V.pv [(34, .int .u8 (bi s (k : Int))), (37, .int .u8 (bi s (k : Int)))] ⟨(at_other rfl _ (at_other rfl _ (at_other rfl _ (at_same ((((hz306.put _ _).put _ _).put _ _).put _ _) rfl _)))), (at_same (((((((hz306.put _ _).put _ _).put _ _).put _ _).put _ _).put _ _).put _ _) rfl _), trivial⟩ (by kernel_rfl) (.agg #[.int .u8 (bi s (k : Int)), .int .u8 (bi s (k : Int))]) (by kernel_rfl) ?_)
                refine V.nil ?_
                refine ⟨chk [] trivial (by kernel_rfl), ?_⟩
                refine V.go (V.mk [(38, .agg #[.int .u8 (bi s (k : Int)), .int .u8 (bi s (k : Int))])] ⟨(at_same ((((((((hz306.put _ _).put _ _).put _ _).put _ _).put _ _).put _ _).put _ _).put _ _) rfl _), trivial⟩ (by kernel_rfl) [.int .u8 (bi s (k : Int)), .int .u8 (bi s (k : Int))] 54 (fun b => .slice (some ⟨b, 0, none⟩) 1 1) (by kernel_rfl) ?_)
                intro w366 b365 heb365 hB367 hF368 hsb365
                have hB4_369 := hB4_359.fr0 hF368
                have hO_370 := hO_360.fr0 hF368
                have hF_371 := hF_361.new hF368
                have hB5_372 := hB5_362.fr0 hF368
                refine V.nil ?_
                refine ⟨(fun _ => held_blk (n := 1) (hx := (at_other rfl _ (at_other rfl _ (at_other rfl _ (at_other rfl _ (at_other rfl _ (at_other rfl _ (at_other rfl _ (at_other rfl _ (at_same hz306 rfl _)))))))))) hB4_359 hB4_369 (by kernel_rfl) rfl (by simp only [List.length]; omega)), ?_⟩
                refine V.nil ?_
                refine ⟨chk [] trivial (by kernel_rfl), ?_⟩
                refine V.go (V.app (R := spanR) (ys := ([⟨bi s (k : Int), bi s (k : Int)⟩])) (news := [.int .u8 (bi s (k : Int)), .int .u8 (bi s (k : Int))]) (at_other rfl _ (at_other rfl _ (at_other rfl _ (at_other rfl _ (at_other rfl _ (at_other rfl _ (at_other rfl _ (at_other rfl _ (at_same (hz306.put _ _) rfl _))))))))) ⟨b365, 0, none⟩ 1 1 (at_same (((((((((hz306.put _ _).put _ _).put _ _).put _ _).put _ _).put _ _).put _ _).put _ _).put _ _) rfl _) (by kernel_rfl) (info54) (by kernel_rfl) (by decide) hO_370 rfl ⟨[.int .u8 (bi s (k : Int)), .int .u8 (bi s (k : Int))], [], rfl, rfl, rfl⟩ (blk_cells hB367 0 _ rfl) (by omega) (by decide) (by omega) ?_)
                intro A373 c374 w375 hO376z hF377 hatw375
                have hsw375 := hF377.size
                have hB4_378 := hB4_369.fr hF377 (by first | exact own_notin hO_370 (by omega) | exact own_notin2 hO_80 (by omega))
                have hF_379 := hF_371.own hF377 (own_ge hO_370 (by omega))
                have hB5_380 := hB5_372.fr hF377 (by first | exact own_notin hO_370 (by omega) | exact own_notin2 hO_80 (by omega))
                have hO376 := hO376z.zone (Z' := NoZ) (fun _ _ q => q.1) (fun _ _ q => q)
                refine V.nil ?_
                refine ⟨trivial, ?_⟩
                refine V.go (V.pv [(4, .pointer (some ⟨b10, 0, none⟩))] ⟨(at_other rfl _ (at_other rfl _ (at_other rfl _ (at_other rfl _ (at_other rfl _ (at_other rfl _ (at_other rfl _ (at_other rfl _ (at_other rfl _ (at_other rfl _ (at_other rfl _ (s4_310)))))))))))), trivial⟩ (by kernel_rfl) (.pointer (some ⟨b10, 3, none⟩)) (by kernel_rfl) ?_)
                refine V.nil ?_
                refine ⟨chk [] trivial (by kernel_rfl), ?_⟩
                refine V.go (V.stn b10 3 (.slice A373 (acc.length + 1) c374) [.slice A373 (acc.length + 1) c374] (at_same (((((((((((hz306.put _ _).put _ _).put _ _).put _ _).put _ _).put _ _).put _ _).put _ _).put _ _).put _ _).put _ _) rfl _) (at_other rfl _ (at_same ((((((((((hz306.put _ _).put _ _).put _ _).put _ _).put _ _).put _ _).put _ _).put _ _).put _ _).put _ _) rfl _)) rfl rfl (by kernel_rfl) hB4_378 (by simp) [.int .i64 4, .int .u8 0, .bool neg, .slice A373 (acc.length + 1) c374] rfl ?_)
                intro w381 hB382 hF383 hsw381
                have hF_384 := hF_379.own hF383 (by simp <;> omega)
                have hB5_385 := hB5_380.fr1 hF383 (by omega)
                have hO376_386 := hO376.frn hF383 (fun h => h) (by first | exact own_ne hO376 (by omega) | exact own_ne2 hO376 (by omega))
                refine V.nil ?_
                refine ⟨trivial, ?_⟩
                refine V.nil ?_
                refine ⟨chk [] trivial (by kernel_rfl), ?_⟩
                refine V.then_n (hK356 _ _ ?_)
                refine V.flushW ((((((((((((hz306.put _ _).put _ _).put _ _).put _ _).put _ _).put _ _).put _ _).put _ _).put _ _).put _ _).put _ _).put _ _) (fun a387 hz388 up389 => ?_)
                have s0_390 : a387.eval (.tmp 0) = (.string s) := up389 _ _ (at_other rfl _ (at_other rfl _ (at_other rfl _ (at_other rfl _ (at_other rfl _ (at_other rfl _ (at_other rfl _ (at_other rfl _ (at_other rfl _ (at_other rfl _ (at_other rfl _ (at_other rfl _ (s0_308)))))))))))))
                have s2_391 : a387.eval (.tmp 2) = (.pointer (some ⟨b3, 0, none⟩)) := up389 _ _ (at_other rfl _ (at_other rfl _ (at_other rfl _ (at_other rfl _ (at_other rfl _ (at_other rfl _ (at_other rfl _ (at_other rfl _ (at_other rfl _ (at_other rfl _ (at_other rfl _ (at_other rfl _ (s2_309)))))))))))))
                have s4_392 : a387.eval (.tmp 4) = (.pointer (some ⟨b10, 0, none⟩)) := up389 _ _ (at_other rfl _ (at_other rfl _ (at_other rfl _ (at_other rfl _ (at_other rfl _ (at_other rfl _ (at_other rfl _ (at_other rfl _ (at_other rfl _ (at_other rfl _ (at_other rfl _ (at_other rfl _ (s4_310)))))))))))))
                have s5_393 : a387.eval (.tmp 5) = (.int .i64 (k : Int)) := up389 _ _ (at_other rfl _ (at_other rfl _ (at_other rfl _ (at_other rfl _ (at_other rfl _ (at_other rfl _ (at_other rfl _ (at_other rfl _ (at_other rfl _ (at_other rfl _ (at_other rfl _ (at_other rfl _ (s5_311)))))))))))))
                clear up389
                refine V.region (by kernel_rfl) ?_
                refine V.go (V.mv (v := (.int .i64 (k : Int))) (s5_393) ?_)
                refine V.go (V.pvw [(42, .int .i64 (k : Int))] ⟨(at_same hz388 rfl _), trivial⟩ (by kernel_rfl) (.int .i64 (IntKind.i64.wrap ((k : Int) + 1))) (.int .i64 ((k : Int) + 1)) (by kernel_rfl) (V.w_i64 (by omega) (by omega)) ?_)
                refine V.go (V.asg (v := (.int .i64 ((k : Int) + 1))) (at_same (hz388.put _ _) rfl _) ?_)
                refine V.nil ?_
                refine V.blk_n ?_
                refine V.blk_n ?_
                refine V.then_n ?_
                have hstep := sp_one (s := s) (k := k) (by omega) (by omega) (by omega) (by intro h; show bi s ((k : Int) + 1) ≠ 45; omega)
                rw [hstep] at hsp
                refine ⟨k + 1, acc ++ [⟨bi s (k : Int), bi s (k : Int)⟩], A373, c374, by omega, ?_⟩
                refine ⟨(((hz388.put _ _).put _ _).put _ _), ?_, ?_, ?_, ?_, (by simpa using hB382), (by simpa using hO376_386), hF_384, hB5_385, (by omega), (by simp; omega), ⟨by simpa using hsp.1, by have := hsp.2; simp only [] at this; omega⟩⟩
                · exact (at_other rfl _ (at_other rfl _ (at_other rfl _ (s0_390))))
                · exact (at_other rfl _ (at_other rfl _ (at_other rfl _ (s2_391))))
                · exact (at_other rfl _ (at_other rfl _ (at_other rfl _ (s4_392))))
                · exact Eq.trans (at_same ((hz388.put _ _).put _ _) rfl _) (V.int_eq (by omega))
            ·
              refine V.go_off 78 (by kernel_rfl) (((at_same (((((hz294.put _ _).put _ _).put _ _).put _ _).put _ _) rfl _ : Act.eval _ _ = (.bool (decide (((k : Int) + 2) < (s.size : Int)))))).trans (df hg303)) (by kernel_rfl) ?_
              refine V.go_off 78 (by kernel_rfl) (((at_other rfl _ (at_same (((((hz294.put _ _).put _ _).put _ _).put _ _).put _ _) rfl _) : Act.eval _ _ = (.bool (decide (((k : Int) + 2) < (s.size : Int)))))).trans (df hg303)) (by kernel_rfl) ?_
              refine V.go_off 78 (by kernel_rfl) (((at_other rfl _ (at_other rfl _ (at_same (((((hz294.put _ _).put _ _).put _ _).put _ _).put _ _) rfl _)) : Act.eval _ _ = (.bool (decide (((k : Int) + 2) < (s.size : Int)))))).trans (df hg303)) (by kernel_rfl) ?_
              refine V.go_off 78 (by kernel_rfl) (((at_other rfl _ (at_other rfl _ (at_other rfl _ (at_same (((((hz294.put _ _).put _ _).put _ _).put _ _).put _ _) rfl _))) : Act.eval _ _ = (.bool (decide (((k : Int) + 2) < (s.size : Int)))))).trans (df hg303)) (by kernel_rfl) ?_
              refine V.go_off 78 (by kernel_rfl) (((at_other rfl _ (at_other rfl _ (at_other rfl _ (at_other rfl _ (at_same (((((hz294.put _ _).put _ _).put _ _).put _ _).put _ _) rfl _)))) : Act.eval _ _ = (.bool (decide (((k : Int) + 2) < (s.size : Int)))))).trans (df hg303)) (by kernel_rfl) ?_
              refine V.go (V.pk_f (((at_other rfl _ (at_other rfl _ (at_other rfl _ (at_other rfl _ (at_other rfl _ (at_same (((((hz294.put _ _).put _ _).put _ _).put _ _).put _ _) rfl _))))) : Act.eval _ _ = (.bool (decide (((k : Int) + 2) < (s.size : Int)))))).trans (df hg303)) (v := (.bool false)) evc ?_)
              refine V.go (V.asg (v := (.bool false)) (at_same (((((((((((hz294.put _ _).put _ _).put _ _).put _ _).put _ _).put _ _).put _ _).put _ _).put _ _).put _ _).put _ _) rfl _) ?_)
              refine V.nil ?_
              refine V.then_n (hK302 _ _ ?_)
              refine V.flushW (((((((((((((hz294.put _ _).put _ _).put _ _).put _ _).put _ _).put _ _).put _ _).put _ _).put _ _).put _ _).put _ _).put _ _).put _ _) (fun a394 hz395 up396 => ?_)
              have s0_397 : a394.eval (.tmp 0) = (.string s) := up396 _ _ (at_other rfl _ (at_other rfl _ (at_other rfl _ (at_other rfl _ (at_other rfl _ (at_other rfl _ (at_other rfl _ (at_other rfl _ (at_other rfl _ (at_other rfl _ (at_other rfl _ (at_other rfl _ (at_other rfl _ (s0_296))))))))))))))
              have s2_398 : a394.eval (.tmp 2) = (.pointer (some ⟨b3, 0, none⟩)) := up396 _ _ (at_other rfl _ (at_other rfl _ (at_other rfl _ (at_other rfl _ (at_other rfl _ (at_other rfl _ (at_other rfl _ (at_other rfl _ (at_other rfl _ (at_other rfl _ (at_other rfl _ (at_other rfl _ (at_other rfl _ (s2_297))))))))))))))
              have s4_399 : a394.eval (.tmp 4) = (.pointer (some ⟨b10, 0, none⟩)) := up396 _ _ (at_other rfl _ (at_other rfl _ (at_other rfl _ (at_other rfl _ (at_other rfl _ (at_other rfl _ (at_other rfl _ (at_other rfl _ (at_other rfl _ (at_other rfl _ (at_other rfl _ (at_other rfl _ (at_other rfl _ (s4_298))))))))))))))
              have s5_400 : a394.eval (.tmp 5) = (.int .i64 (k : Int)) := up396 _ _ (at_other rfl _ (at_other rfl _ (at_other rfl _ (at_other rfl _ (at_other rfl _ (at_other rfl _ (at_other rfl _ (at_other rfl _ (at_other rfl _ (at_other rfl _ (at_other rfl _ (at_other rfl _ (at_other rfl _ (s5_299))))))))))))))
              have s72_401 : a394.eval (.tmp 72) = (.bool false) := up396 _ _ (at_same ((((((((((((hz294.put _ _).put _ _).put _ _).put _ _).put _ _).put _ _).put _ _).put _ _).put _ _).put _ _).put _ _).put _ _) rfl _)
              clear up396
              refine V.cond_f (s72_401) ?_
              refine V.seq (fun K402 hK403 => ?_)
              refine V.plan [[], [0], [], [], [2, 3], [], [], [5, 6], [2, 3, 4, 5, 6, 7], [2, 3, 4, 5, 6, 7, 8], [0, 1, 2, 3, 4, 5, 6, 7, 8, 9], [0, 1, 2, 3, 4, 5, 6, 7, 8, 9, 10], [0, 1, 2, 3, 4, 5, 6, 7, 8, 9, 10, 11]] [([0, 1, 2, 3, 4, 5, 6, 7, 8], some (9, [1])), ([], some (10, [])), ([11], some (12, [])), ([], none)] (by kernel_rfl) (by kernel_rfl) (by exact fun _ _ _ _ h => h) ?_
              simp only [Plan.wpSegs, Plan.pickAll, Plan.nth, V.L_eq]
              obtain ⟨w404, hF405e⟩ : ∃ w1, w1 = w73.drew := ⟨_, rfl⟩
              rw [← hF405e]
              have hF405 : Fr [] w73 w404 := by rw [hF405e]; exact Fr.drew _ _
              have hsw404 : w404.heap.size = w73.heap.size := by rw [hF405e]; rfl
              clear hF405e
              have hB4_406 := hB4_79.fr0 hF405
              have hO_407 := hO_80.fr0 hF405
              have hF_408 := hF_81.new hF405
              have hB5_409 := hB5_82.fr0 hF405
              refine V.go (V.pv [(4, .pointer (some ⟨b10, 0, none⟩))] ⟨(s4_399), trivial⟩ (by kernel_rfl) (.pointer (some ⟨b10, 3, none⟩)) (by kernel_rfl) ?_)
              refine V.go (V.ld ⟨b10, 3, none⟩ (.slice A acc.length c) (at_same hz395 rfl _) (by kernel_rfl) (hB4_406.at 3 rfl) ?_)
              refine V.go (V.mv (v := (.string s)) (at_other rfl _ (at_other rfl _ (s0_397))) ?_)
              refine V.go (V.mv (v := (.int .i64 (k : Int))) (at_other rfl _ (at_other rfl _ (at_other rfl _ (s5_400)))) ?_)
              refine V.go (V.ixs s .i64 (k : Int) (at_other rfl _ (at_same ((hz395.put _ _).put _ _) rfl _)) (at_same (((hz395.put _ _).put _ _).put _ _) rfl _) (by omega) (by omega) (by kernel_rfl) ?_)
              have hb410 := byt_lt s (k : Int)
              refine V.go (V.mv (v := (.string s)) (at_other rfl _ (at_other rfl _ (at_other rfl _ (at_other rfl _ (at_other rfl _ (s0_397)))))) ?_)
              refine V.go (V.mv (v := (.int .i64 (k : Int))) (at_other rfl _ (at_other rfl _ (at_other rfl _ (at_other rfl _ (at_other rfl _ (at_other rfl _ (s5_400))))))) ?_)
              refine V.go (V.ixs s .i64 (k : Int) (at_other rfl _ (at_same (((((hz395.put _ _).put _ _).put _ _).put _ _).put _ _) rfl _)) (at_same ((((((hz395.put _ _).put _ _).put _ _).put _ _).put _ _).put _ _) rfl _) (by omega) (by omega) (by kernel_rfl) ?_)
              have hb411 := byt_lt s (k : Int)
              refine V.go (V.pv [(34, .int .u8 (bi s (k : Int))), (37, .int .u8 (bi s (k : Int)))] ⟨(at_other rfl _ (at_other rfl _ (at_other rfl _ (at_same ((((hz395.put _ _).put _ _).put _ _).put _ _) rfl _)))), (at_same (((((((hz395.put _ _).put _ _).put _ _).put _ _).put _ _).put _ _).put _ _) rfl _), trivial⟩ (by kernel_rfl) (.agg #[.int .u8 (bi s (k : Int)), .int .u8 (bi s (k : Int))]) (by kernel_rfl) ?_)
              refine V.nil ?_
              refine ⟨chk [] trivial (by kernel_rfl), ?_⟩
              refine V.go (V.mk [(38, .agg #[.int .u8 (bi s (k : Int)), .int .u8 (bi s (k : Int))])] ⟨(at_same ((((((((hz395.put _ _).put _ _).put _ _).put _ _).put _ _).put _ _).put _ _).put _ _) rfl _), trivial⟩ (by kernel_rfl) [.int .u8 (bi s (k : Int)), .int .u8 (bi s (k : Int))] 54 (fun b => .slice (some ⟨b, 0, none⟩) 1 1) (by kernel_rfl) ?_)
              intro w413 b412 heb412 hB414 hF415 hsb412
              have hB4_416 := hB4_406.fr0 hF415
              have hO_417 := hO_407.fr0 hF415
              have hF_418 := hF_408.new hF415
              have hB5_419 := hB5_409.fr0 hF415
              refine V.nil ?_
              refine ⟨(fun _ => held_blk (n := 1) (hx := (at_other rfl _ (at_other rfl _ (at_other rfl _ (at_other rfl _ (at_other rfl _ (at_other rfl _ (at_other rfl _ (at_other rfl _ (at_same hz395 rfl _)))))))))) hB4_406 hB4_416 (by kernel_rfl) rfl (by simp only [List.length]; omega)), ?_⟩
              refine V.nil ?_
              refine ⟨chk [] trivial (by kernel_rfl), ?_⟩
              refine V.go (V.app (R := spanR) (ys := ([⟨bi s (k : Int), bi s (k : Int)⟩])) (news := [.int .u8 (bi s (k : Int)), .int .u8 (bi s (k : Int))]) (at_other rfl _ (at_other rfl _ (at_other rfl _ (at_other rfl _ (at_other rfl _ (at_other rfl _ (at_other rfl _ (at_other rfl _ (at_same (hz395.put _ _) rfl _))))))))) ⟨b412, 0, none⟩ 1 1 (at_same (((((((((hz395.put _ _).put _ _).put _ _).put _ _).put _ _).put _ _).put _ _).put _ _).put _ _) rfl _) (by kernel_rfl) (info54) (by kernel_rfl) (by decide) hO_417 rfl ⟨[.int .u8 (bi s (k : Int)), .int .u8 (bi s (k : Int))], [], rfl, rfl, rfl⟩ (blk_cells hB414 0 _ rfl) (by omega) (by decide) (by omega) ?_)
              intro A420 c421 w422 hO423z hF424 hatw422
              have hsw422 := hF424.size
              have hB4_425 := hB4_416.fr hF424 (by first | exact own_notin hO_417 (by omega) | exact own_notin2 hO_80 (by omega))
              have hF_426 := hF_418.own hF424 (own_ge hO_417 (by omega))
              have hB5_427 := hB5_419.fr hF424 (by first | exact own_notin hO_417 (by omega) | exact own_notin2 hO_80 (by omega))
              have hO423 := hO423z.zone (Z' := NoZ) (fun _ _ q => q.1) (fun _ _ q => q)
              refine V.nil ?_
              refine ⟨trivial, ?_⟩
              refine V.go (V.pv [(4, .pointer (some ⟨b10, 0, none⟩))] ⟨(at_other rfl _ (at_other rfl _ (at_other rfl _ (at_other rfl _ (at_other rfl _ (at_other rfl _ (at_other rfl _ (at_other rfl _ (at_other rfl _ (at_other rfl _ (at_other rfl _ (s4_399)))))))))))), trivial⟩ (by kernel_rfl) (.pointer (some ⟨b10, 3, none⟩)) (by kernel_rfl) ?_)
              refine V.nil ?_
              refine ⟨chk [] trivial (by kernel_rfl), ?_⟩
              refine V.go (V.stn b10 3 (.slice A420 (acc.length + 1) c421) [.slice A420 (acc.length + 1) c421] (at_same (((((((((((hz395.put _ _).put _ _).put _ _).put _ _).put _ _).put _ _).put _ _).put _ _).put _ _).put _ _).put _ _) rfl _) (at_other rfl _ (at_same ((((((((((hz395.put _ _).put _ _).put _ _).put _ _).put _ _).put _ _).put _ _).put _ _).put _ _).put _ _) rfl _)) rfl rfl (by kernel_rfl) hB4_425 (by simp) [.int .i64 4, .int .u8 0, .bool neg, .slice A420 (acc.length + 1) c421] rfl ?_)
              intro w428 hB429 hF430 hsw428
              have hF_431 := hF_426.own hF430 (by simp <;> omega)
              have hB5_432 := hB5_427.fr1 hF430 (by omega)
              have hO423_433 := hO423.frn hF430 (fun h => h) (by first | exact own_ne hO423 (by omega) | exact own_ne2 hO423 (by omega))
              refine V.nil ?_
              refine ⟨trivial, ?_⟩
              refine V.nil ?_
              refine ⟨chk [] trivial (by kernel_rfl), ?_⟩
              refine V.then_n (hK403 _ _ ?_)
              refine V.flushW ((((((((((((hz395.put _ _).put _ _).put _ _).put _ _).put _ _).put _ _).put _ _).put _ _).put _ _).put _ _).put _ _).put _ _) (fun a434 hz435 up436 => ?_)
              have s0_437 : a434.eval (.tmp 0) = (.string s) := up436 _ _ (at_other rfl _ (at_other rfl _ (at_other rfl _ (at_other rfl _ (at_other rfl _ (at_other rfl _ (at_other rfl _ (at_other rfl _ (at_other rfl _ (at_other rfl _ (at_other rfl _ (at_other rfl _ (s0_397)))))))))))))
              have s2_438 : a434.eval (.tmp 2) = (.pointer (some ⟨b3, 0, none⟩)) := up436 _ _ (at_other rfl _ (at_other rfl _ (at_other rfl _ (at_other rfl _ (at_other rfl _ (at_other rfl _ (at_other rfl _ (at_other rfl _ (at_other rfl _ (at_other rfl _ (at_other rfl _ (at_other rfl _ (s2_398)))))))))))))
              have s4_439 : a434.eval (.tmp 4) = (.pointer (some ⟨b10, 0, none⟩)) := up436 _ _ (at_other rfl _ (at_other rfl _ (at_other rfl _ (at_other rfl _ (at_other rfl _ (at_other rfl _ (at_other rfl _ (at_other rfl _ (at_other rfl _ (at_other rfl _ (at_other rfl _ (at_other rfl _ (s4_399)))))))))))))
              have s5_440 : a434.eval (.tmp 5) = (.int .i64 (k : Int)) := up436 _ _ (at_other rfl _ (at_other rfl _ (at_other rfl _ (at_other rfl _ (at_other rfl _ (at_other rfl _ (at_other rfl _ (at_other rfl _ (at_other rfl _ (at_other rfl _ (at_other rfl _ (at_other rfl _ (s5_400)))))))))))))
              clear up436
              refine V.region (by kernel_rfl) ?_
              refine V.go (V.mv (v := (.int .i64 (k : Int))) (s5_440) ?_)
              refine V.go (V.pvw [(42, .int .i64 (k : Int))] ⟨(at_same hz435 rfl _), trivial⟩ (by kernel_rfl) (.int .i64 (IntKind.i64.wrap ((k : Int) + 1))) (.int .i64 ((k : Int) + 1)) (by kernel_rfl) (V.w_i64 (by omega) (by omega)) ?_)
              refine V.go (V.asg (v := (.int .i64 ((k : Int) + 1))) (at_same (hz435.put _ _) rfl _) ?_)
              refine V.nil ?_
              refine V.blk_n ?_
              refine V.blk_n ?_
              refine V.then_n ?_
              have hstep := sp_one (s := s) (k := k) (by omega) (by omega) (by omega) (by intro h; show bi s ((k : Int) + 1) ≠ 45; omega)
              rw [hstep] at hsp
              refine ⟨k + 1, acc ++ [⟨bi s (k : Int), bi s (k : Int)⟩], A420, c421, by omega, ?_⟩
              refine ⟨(((hz435.put _ _).put _ _).put _ _), ?_, ?_, ?_, ?_, (by simpa using hB429), (by simpa using hO423_433), hF_431, hB5_432, (by omega), (by simp; omega), ⟨by simpa using hsp.1, by have := hsp.2; simp only [] at this; omega⟩⟩
              · exact (at_other rfl _ (at_other rfl _ (at_other rfl _ (s0_437))))
              · exact (at_other rfl _ (at_other rfl _ (at_other rfl _ (s2_438))))
              · exact (at_other rfl _ (at_other rfl _ (at_other rfl _ (s4_439))))
              · exact Eq.trans (at_same ((hz435.put _ _).put _ _) rfl _) (V.int_eq (by omega))
        ·
          refine V.exit ?_
          refine V.then_e ?_
          refine V.then_e ?_
          refine V.blk_hit ?_
          refine V.then_n (hK71 _ _ ?_)
          refine V.seq (fun K441 hK442 => ?_)
          refine V.seq (fun K443 hK444 => ?_)
          refine V.region (by kernel_rfl) ?_
          refine V.go (V.mv (v := (.int .i64 (k : Int))) (s5_98) ?_)
          refine V.go (V.mv (v := (.string s)) (at_other rfl _ (s0_95)) ?_)
          refine V.go (V.pv [(110, .string s)] ⟨(at_same (hz93.put _ _) rfl _), trivial⟩ (by kernel_rfl) (.int .i64 (s.size : Int)) (by kernel_rfl) ?_)
          refine V.go (V.pv [(109, .int .i64 (k : Int)), (111, .int .i64 (s.size : Int))] ⟨(at_other rfl _ (at_other rfl _ (at_same hz93 rfl _))), (at_same ((hz93.put _ _).put _ _) rfl _), trivial⟩ (by kernel_rfl) (.bool (decide ((k : Int) < (s.size : Int)))) (by kernel_rfl) ?_)
          refine V.nil ?_
          refine V.then_n (hK444 _ _ ?_)
          refine V.flushW ((((hz93.put _ _).put _ _).put _ _).put _ _) (fun a445 hz446 up447 => ?_)
          have s2_448 : a445.eval (.tmp 2) = (.pointer (some ⟨b3, 0, none⟩)) := up447 _ _ (at_other rfl _ (at_other rfl _ (at_other rfl _ (at_other rfl _ (s2_96)))))
          have s4_449 : a445.eval (.tmp 4) = (.pointer (some ⟨b10, 0, none⟩)) := up447 _ _ (at_other rfl _ (at_other rfl _ (at_other rfl _ (at_other rfl _ (s4_97)))))
          have s5_450 : a445.eval (.tmp 5) = (.int .i64 (k : Int)) := up447 _ _ (at_other rfl _ (at_other rfl _ (at_other rfl _ (at_other rfl _ (s5_98)))))
          have s112_451 : a445.eval (.tmp 112) = (.bool (decide ((k : Int) < (s.size : Int)))) := up447 _ _ (at_same (((hz93.put _ _).put _ _).put _ _) rfl _)
          clear up447
          refine V.cond_t ((s112_451).trans (dt hg90)) ?_
          refine V.region (by kernel_rfl) ?_
          refine V.go (V.mv (v := (.int .i64 (k : Int))) (s5_450) ?_)
          refine V.go (V.pvw [(113, .int .i64 (k : Int))] ⟨(at_same hz446 rfl _), trivial⟩ (by kernel_rfl) (.int .i64 (IntKind.i64.wrap ((k : Int) + 1))) (.int .i64 ((k : Int) + 1)) (by kernel_rfl) (V.w_i64 (by omega) (by omega)) ?_)
          refine V.go (V.asg (v := (.int .i64 ((k : Int) + 1))) (at_same (hz446.put _ _) rfl _) ?_)
          refine V.nil ?_
          refine V.then_n (hK442 _ _ ?_)
          refine V.seq (fun K452 hK453 => ?_)
          refine V.region (by kernel_rfl) ?_
          refine V.go (V.lds ⟨b10, 0, none⟩ [.int .i64 4, .int .u8 0, .bool neg, .slice A acc.length c] (at_other rfl _ (at_other rfl _ (at_other rfl _ (s4_449)))) (by kernel_rfl) (blk_cells hB4_79 0 _ rfl) ?_)
          refine V.go (V.mv (v := (.int .i64 ((k : Int) + 1))) (at_other rfl _ (at_same ((hz446.put _ _).put _ _) rfl _)) ?_)
          refine V.go (V.stn b3 0 (.agg #[.int .i64 4, .int .u8 0, .bool neg, .slice A acc.length c]) [.int .i64 4, .int .u8 0, .bool neg, .slice A acc.length c] (at_other rfl _ (at_other rfl _ (at_other rfl _ (at_other rfl _ (at_other rfl _ (s2_448)))))) (at_other rfl _ (at_same (((hz446.put _ _).put _ _).put _ _) rfl _)) rfl rfl (by kernel_rfl) hB5_82 (by simp) [.int .i64 4, .int .u8 0, .bool neg, .slice A acc.length c] rfl ?_)
          intro w454 hB455 hF456 hsw454
          have hB4_457 := hB4_79.fr1 hF456 (by omega)
          have hO_458 := hO_80.frn hF456 (fun h => h) (by first | exact own_ne hO_80 (by omega) | exact own_ne2 hO_80 (by omega))
          have hF_459 := hF_81.own hF456 (by simp <;> omega)
          refine V.go (V.asg (v := (.int .i64 ((k : Int) + 1))) (at_same ((((hz446.put _ _).put _ _).put _ _).put _ _) rfl _) ?_)
          refine V.nil ?_
          refine V.then_n (hK453 _ _ ?_)
          refine V.flushW ((((((hz446.put _ _).put _ _).put _ _).put _ _).put _ _).put _ _) (fun a460 hz461 up462 => ?_)
          have s2_463 : a460.eval (.tmp 2) = (.pointer (some ⟨b3, 0, none⟩)) := up462 _ _ (at_other rfl _ (at_other rfl _ (at_other rfl _ (at_other rfl _ (at_other rfl _ (at_other rfl _ (s2_448)))))))
          have s3_464 : a460.eval (.tmp 3) = (.int .i64 ((k : Int) + 1)) := up462 _ _ (at_same (((((hz446.put _ _).put _ _).put _ _).put _ _).put _ _) rfl _)
          clear up462
          refine V.ret ?_
          refine V.retCT hz461 rfl _ (s2_463) (V.run_loadVar_agg (cs := [.int .i64 4, .int .u8 0, .bool neg, .slice A acc.length c]) (by kernel_rfl) (blk_cells hB455 0 _ rfl)) (s3_464) ?_
          rw [sp_close (s := s) (k := k) (by omega) (by omega)] at hsp
          have hc := cls_at (s := s) neg i0 hneg
          obtain ⟨hsp1, hsp2⟩ := hsp
          simp only [List.append_nil] at hsp1
          refine ⟨A, c, ?_, ?_, hF_459⟩
          · rw [hc, ← hsp1]; exact congrArg Ending.returned (congrArg Value.tuple (by simp only [Array.mk.injEq, List.cons.injEq, Value.int.injEq, and_true, true_and] <;> omega))
          · rw [hc, ← hsp1]; exact (hO_458.read (fun _ _ h => h.elim) (fun b hb _ => by omega))
      ·
        refine V.go_off 24 (by kernel_rfl) (((at_same ((((hz74.put _ _).put _ _).put _ _).put _ _) rfl _ : Act.eval _ _ = (.bool (decide ((k : Int) < (s.size : Int)))))).trans (df hg90)) (by kernel_rfl) ?_
        refine V.go_off 24 (by kernel_rfl) (((at_other rfl _ (at_same ((((hz74.put _ _).put _ _).put _ _).put _ _) rfl _) : Act.eval _ _ = (.bool (decide ((k : Int) < (s.size : Int)))))).trans (df hg90)) (by kernel_rfl) ?_
        refine V.go_off 24 (by kernel_rfl) (((at_other rfl _ (at_other rfl _ (at_same ((((hz74.put _ _).put _ _).put _ _).put _ _) rfl _)) : Act.eval _ _ = (.bool (decide ((k : Int) < (s.size : Int)))))).trans (df hg90)) (by kernel_rfl) ?_
        refine V.go_off 24 (by kernel_rfl) (((at_other rfl _ (at_other rfl _ (at_other rfl _ (at_same ((((hz74.put _ _).put _ _).put _ _).put _ _) rfl _))) : Act.eval _ _ = (.bool (decide ((k : Int) < (s.size : Int)))))).trans (df hg90)) (by kernel_rfl) ?_
        refine V.go (V.pk_f (((at_other rfl _ (at_other rfl _ (at_other rfl _ (at_other rfl _ (at_same ((((hz74.put _ _).put _ _).put _ _).put _ _) rfl _)))) : Act.eval _ _ = (.bool (decide ((k : Int) < (s.size : Int)))))).trans (df hg90)) (v := (.bool false)) evc ?_)
        refine V.nil ?_
        refine V.then_n (hK89 _ _ ?_)
        refine V.flushW ((((((((((hz74.put _ _).put _ _).put _ _).put _ _).put _ _).put _ _).put _ _).put _ _).put _ _).put _ _) (fun a465 hz466 up467 => ?_)
        have s0_468 : a465.eval (.tmp 0) = (.string s) := up467 _ _ (at_other rfl _ (at_other rfl _ (at_other rfl _ (at_other rfl _ (at_other rfl _ (at_other rfl _ (at_other rfl _ (at_other rfl _ (at_other rfl _ (at_other rfl _ (s0_75)))))))))))
        have s2_469 : a465.eval (.tmp 2) = (.pointer (some ⟨b3, 0, none⟩)) := up467 _ _ (at_other rfl _ (at_other rfl _ (at_other rfl _ (at_other rfl _ (at_other rfl _ (at_other rfl _ (at_other rfl _ (at_other rfl _ (at_other rfl _ (at_other rfl _ (s2_76)))))))))))
        have s4_470 : a465.eval (.tmp 4) = (.pointer (some ⟨b10, 0, none⟩)) := up467 _ _ (at_other rfl _ (at_other rfl _ (at_other rfl _ (at_other rfl _ (at_other rfl _ (at_other rfl _ (at_other rfl _ (at_other rfl _ (at_other rfl _ (at_other rfl _ (s4_77)))))))))))
        have s5_471 : a465.eval (.tmp 5) = (.int .i64 (k : Int)) := up467 _ _ (at_other rfl _ (at_other rfl _ (at_other rfl _ (at_other rfl _ (at_other rfl _ (at_other rfl _ (at_other rfl _ (at_other rfl _ (at_other rfl _ (at_other rfl _ (s5_78)))))))))))
        have s29_472 : a465.eval (.tmp 29) = (.bool false) := up467 _ _ (at_same (((((((((hz74.put _ _).put _ _).put _ _).put _ _).put _ _).put _ _).put _ _).put _ _).put _ _) rfl _)
        clear up467
        refine V.cond_f (s29_472) ?_
        refine V.exit ?_
        refine V.then_e ?_
        refine V.then_e ?_
        refine V.blk_hit ?_
        refine V.then_n (hK71 _ _ ?_)
        refine V.seq (fun K473 hK474 => ?_)
        refine V.seq (fun K475 hK476 => ?_)
        refine V.region (by kernel_rfl) ?_
        refine V.go (V.mv (v := (.int .i64 (k : Int))) (s5_471) ?_)
        refine V.go (V.mv (v := (.string s)) (at_other rfl _ (s0_468)) ?_)
        refine V.go (V.pv [(110, .string s)] ⟨(at_same (hz466.put _ _) rfl _), trivial⟩ (by kernel_rfl) (.int .i64 (s.size : Int)) (by kernel_rfl) ?_)
        refine V.go (V.pv [(109, .int .i64 (k : Int)), (111, .int .i64 (s.size : Int))] ⟨(at_other rfl _ (at_other rfl _ (at_same hz466 rfl _))), (at_same ((hz466.put _ _).put _ _) rfl _), trivial⟩ (by kernel_rfl) (.bool (decide ((k : Int) < (s.size : Int)))) (by kernel_rfl) ?_)
        refine V.nil ?_
        refine V.then_n (hK476 _ _ ?_)
        refine V.flushW ((((hz466.put _ _).put _ _).put _ _).put _ _) (fun a477 hz478 up479 => ?_)
        have s2_480 : a477.eval (.tmp 2) = (.pointer (some ⟨b3, 0, none⟩)) := up479 _ _ (at_other rfl _ (at_other rfl _ (at_other rfl _ (at_other rfl _ (s2_469)))))
        have s4_481 : a477.eval (.tmp 4) = (.pointer (some ⟨b10, 0, none⟩)) := up479 _ _ (at_other rfl _ (at_other rfl _ (at_other rfl _ (at_other rfl _ (s4_470)))))
        have s5_482 : a477.eval (.tmp 5) = (.int .i64 (k : Int)) := up479 _ _ (at_other rfl _ (at_other rfl _ (at_other rfl _ (at_other rfl _ (s5_471)))))
        have s112_483 : a477.eval (.tmp 112) = (.bool (decide ((k : Int) < (s.size : Int)))) := up479 _ _ (at_same (((hz466.put _ _).put _ _).put _ _) rfl _)
        clear up479
        refine V.cond_f ((s112_483).trans (df hg90)) ?_
        refine V.skip ?_
        refine V.then_n (hK474 _ _ ?_)
        refine V.seq (fun K484 hK485 => ?_)
        refine V.region (by kernel_rfl) ?_
        refine V.go (V.lds ⟨b10, 0, none⟩ [.int .i64 4, .int .u8 0, .bool neg, .slice A acc.length c] (s4_481) (by kernel_rfl) (blk_cells hB4_79 0 _ rfl) ?_)
        refine V.go (V.mv (v := (.int .i64 (k : Int))) (at_other rfl _ (s5_482)) ?_)
        refine V.go (V.stn b3 0 (.agg #[.int .i64 4, .int .u8 0, .bool neg, .slice A acc.length c]) [.int .i64 4, .int .u8 0, .bool neg, .slice A acc.length c] (at_other rfl _ (at_other rfl _ (s2_480))) (at_other rfl _ (at_same hz478 rfl _)) rfl rfl (by kernel_rfl) hB5_82 (by simp) [.int .i64 4, .int .u8 0, .bool neg, .slice A acc.length c] rfl ?_)
        intro w486 hB487 hF488 hsw486
        have hB4_489 := hB4_79.fr1 hF488 (by omega)
        have hO_490 := hO_80.frn hF488 (fun h => h) (by first | exact own_ne hO_80 (by omega) | exact own_ne2 hO_80 (by omega))
        have hF_491 := hF_81.own hF488 (by simp <;> omega)
        refine V.go (V.asg (v := (.int .i64 (k : Int))) (at_same (hz478.put _ _) rfl _) ?_)
        refine V.nil ?_
        refine V.then_n (hK485 _ _ ?_)
        refine V.ret ?_
        refine V.retCT (((hz478.put _ _).put _ _).put _ _) rfl _ (at_other rfl _ (at_other rfl _ (at_other rfl _ (s2_480)))) (V.run_loadVar_agg (cs := [.int .i64 4, .int .u8 0, .bool neg, .slice A acc.length c]) (by kernel_rfl) (blk_cells hB487 0 _ rfl)) (at_same ((hz478.put _ _).put _ _) rfl _) ?_
        rw [sp_end (s := s) (k := k) (by omega)] at hsp
        have hc := cls_at (s := s) neg i0 hneg
        obtain ⟨hsp1, hsp2⟩ := hsp
        simp only [List.append_nil] at hsp1
        refine ⟨A, c, ?_, ?_, hF_491⟩
        · rw [hc, ← hsp1]; exact congrArg Ending.returned (congrArg Value.tuple (by simp only [Array.mk.injEq, List.cons.injEq, Value.int.injEq, and_true, true_and] <;> omega))
        · rw [hc, ← hsp1]; exact (hO_490.read (fun _ _ h => h.elim) (fun b hb _ => by omega))
end Go.Proofs.Ytmlohijidjbbjaa
