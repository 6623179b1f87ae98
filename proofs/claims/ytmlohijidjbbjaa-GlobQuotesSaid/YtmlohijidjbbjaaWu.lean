/- Walks: the reference's Quote, Quote, GlobQuotes. -/
import Derived.Test.YtmlohijidjbbjaaProg
import Derived.Test.YtmlohijidjbbjaaWl
import Derived.Test.YtmlohijidjbbjaaWt
import Derived.Test.YtmlohijidjbbjaaQt
namespace Go.Proofs.Ytmlohijidjbbjaa
open Go.V Go.Base
open Go.RowKit (Below)
attribute [local irreducible] Act.put Act.eval
set_option linter.unusedVariables false
set_option linter.unusedSimpArgs false
set_option maxHeartbeats 4000000 in
set_option maxRecDepth 20000 in
theorem rquote_any (w : World) (s : ByteArray) (hs : s.size ≤ 1048576) : Calls Try.prog 25 #[.string s] w (fun e w' => e = .returned (.string (quoteS s)) ∧ Fr [] w w') := by
  have hF := Fr.refl [] w
  refine V.enter 33 Try.func25 rfl rfl ?_
  intro a hz ha
  have s0 : a.eval (.tmp 0) = (.string s) := ha 0 _ rfl
  clear ha
  refine V.seq (fun K1 hK2 => ?_)
  refine V.region (by kernel_rfl) ?_
  refine V.go (V.asg (v := (.string ⟨#[]⟩)) evc ?_)
  refine V.nil ?_
  refine V.then_n (hK2 _ _ ?_)
  refine V.seq (fun K3 hK4 => ?_)
  refine V.region (by kernel_rfl) ?_
  refine V.go (V.asg (v := (.slice none 0 0)) evc ?_)
  refine V.nil ?_
  refine V.then_n (hK4 _ _ ?_)
  refine V.seq (fun K5 hK6 => ?_)
  refine V.seq (fun K7 hK8 => ?_)
  refine V.region (by kernel_rfl) ?_
  refine V.go (V.asg (v := (.int .i64 0)) evc ?_)
  refine V.nil ?_
  refine V.then_n (hK8 _ _ ?_)
  refine V.block ?_
  have hO0 := OwR.nil (Rp.int .u8) NoZ w w.heap.size 5
  refine V.loop4 (fun (k : Nat) (acc : List Int) (A : Option Addr) (c : Nat) a_ w_ => Sz 33 a_ ∧ a_.eval (.tmp 0) = (.string s) ∧ a_.eval (.tmp 3) = (.slice A acc.length c) ∧ a_.eval (.tmp 4) = (.int .i64 (k : Int)) ∧ OwR (Rp.int .u8) NoZ w_ w.heap.size 5 (.slice A acc.length c) acc ∧ Fr [] w w_ ∧ (k ≤ s.size) ∧ (acc.length ≤ 2 * k) ∧ (quoteI ((ints s).take k) = acc)) (fun (k : Nat) (acc : List Int) (A : Option Addr) (c : Nat) => s.size - k) 0 ([]) none 0 ?_ ?_
  ·
    refine ⟨(((hz.put _ _).put _ _).put _ _), ?_, ?_, ?_, hO0, hF, (by omega), (by simp), (by simp [quoteI])⟩
    · exact (at_other rfl _ (at_other rfl _ (at_other rfl _ (s0))))
    · exact Eq.trans (at_other rfl _ (at_same (hz.put _ _) rfl _)) (V.sl_eq (by simp))
    · exact Eq.trans (at_same ((hz.put _ _).put _ _) rfl _) (V.int_eq (by omega))
  ·
    rintro k acc A c a9 w10 ⟨hz11, s0_12, s3_13, s4_14, hO_15, hF_16, hk, hacc, hf⟩
    have hfs17 := hF_16.size
    refine V.seq (fun K18 hK19 => ?_)
    refine V.seq (fun K20 hK21 => ?_)
    refine V.region (by kernel_rfl) ?_
    refine V.go (V.mv (v := (.int .i64 (k : Int))) (s4_14) ?_)
    refine V.go (V.mv (v := (.string s)) (at_other rfl _ (s0_12)) ?_)
    refine V.go (V.pv [(6, .string s)] ⟨(at_same (hz11.put _ _) rfl _), trivial⟩ (by kernel_rfl) (.int .i64 (s.size : Int)) (by kernel_rfl) ?_)
    refine V.go (V.pv [(5, .int .i64 (k : Int)), (7, .int .i64 (s.size : Int))] ⟨(at_other rfl _ (at_other rfl _ (at_same hz11 rfl _))), (at_same ((hz11.put _ _).put _ _) rfl _), trivial⟩ (by kernel_rfl) (.bool (decide ((k : Int) < (s.size : Int)))) (by kernel_rfl) ?_)
    refine V.nil ?_
    refine V.then_n (hK21 _ _ ?_)
    refine V.flushW ((((hz11.put _ _).put _ _).put _ _).put _ _) (fun a22 hz23 up24 => ?_)
    have s0_25 : a22.eval (.tmp 0) = (.string s) := up24 _ _ (at_other rfl _ (at_other rfl _ (at_other rfl _ (at_other rfl _ (s0_12)))))
    have s3_26 : a22.eval (.tmp 3) = (.slice A acc.length c) := up24 _ _ (at_other rfl _ (at_other rfl _ (at_other rfl _ (at_other rfl _ (s3_13)))))
    have s4_27 : a22.eval (.tmp 4) = (.int .i64 (k : Int)) := up24 _ _ (at_other rfl _ (at_other rfl _ (at_other rfl _ (at_other rfl _ (s4_14)))))
    have s8_28 : a22.eval (.tmp 8) = (.bool (decide ((k : Int) < (s.size : Int)))) := up24 _ _ (at_same (((hz11.put _ _).put _ _).put _ _) rfl _)
    clear up24
    refine V.condP (p := (k : Int) < (s.size : Int)) (s8_28) (fun ht29 => ?_) (fun ht29 => ?_)
    ·
      refine V.skip ?_
      refine V.then_n (hK19 _ _ ?_)
      refine V.seq (fun K30 hK31 => ?_)
      refine V.block ?_
      refine V.seq (fun K32 hK33 => ?_)
      refine V.seq (fun K34 hK35 => ?_)
      refine V.region (by kernel_rfl) ?_
      refine V.go (V.mv (v := (.string s)) (s0_25) ?_)
      refine V.go (V.mv (v := (.int .i64 (k : Int))) (at_other rfl _ (s4_27)) ?_)
      refine V.go (V.ixs s .i64 (k : Int) (at_other rfl _ (at_same hz23 rfl _)) (at_same (hz23.put _ _) rfl _) (by omega) (by omega) (by kernel_rfl) ?_)
      have hb36 := byt_lt s (k : Int)
      refine V.nil ?_
      refine V.then_n (hK35 _ _ ?_)
      refine V.block ?_
      refine V.seq (fun K37 hK38 => ?_)
      refine V.seq (fun K39 hK40 => ?_)
      refine V.region (by kernel_rfl) ?_
      refine V.go (V.pvw [(13, .int .u8 (bi s (k : Int)))] ⟨(at_same ((hz23.put _ _).put _ _) rfl _), trivial⟩ (by kernel_rfl) (.bool ((bi s (k : Int)) == 42)) (.bool (decide ((bi s (k : Int)) = 42))) (by kernel_rfl) V.t_eql ?_)
      refine V.go (V.asg (v := (.bool (decide ((bi s (k : Int)) = 42)))) (at_same (((hz23.put _ _).put _ _).put _ _) rfl _) ?_)
      refine V.nil ?_
      refine V.then_n (hK40 _ _ ?_)
      refine V.flushW (((((hz23.put _ _).put _ _).put _ _).put _ _).put _ _) (fun a41 hz42 up43 => ?_)
      have s0_44 : a41.eval (.tmp 0) = (.string s) := up43 _ _ (at_other rfl _ (at_other rfl _ (at_other rfl _ (at_other rfl _ (at_other rfl _ (s0_25))))))
      have s3_45 : a41.eval (.tmp 3) = (.slice A acc.length c) := up43 _ _ (at_other rfl _ (at_other rfl _ (at_other rfl _ (at_other rfl _ (at_other rfl _ (s3_26))))))
      have s4_46 : a41.eval (.tmp 4) = (.int .i64 (k : Int)) := up43 _ _ (at_other rfl _ (at_other rfl _ (at_other rfl _ (at_other rfl _ (at_other rfl _ (s4_27))))))
      have s13_47 : a41.eval (.tmp 13) = (.int .u8 (bi s (k : Int))) := up43 _ _ (at_other rfl _ (at_other rfl _ (at_same ((hz23.put _ _).put _ _) rfl _)))
      have s14_48 : a41.eval (.tmp 14) = (.bool (decide ((bi s (k : Int)) = 42))) := up43 _ _ (at_same ((((hz23.put _ _).put _ _).put _ _).put _ _) rfl _)
      clear up43
      refine V.condP (p := (bi s (k : Int)) = 42) (s14_48) (fun ht49 => ?_) (fun ht49 => ?_)
      ·
        refine V.skip ?_
        refine V.then_n (hK38 _ _ ?_)
        refine V.cond_t ((s14_48).trans (dt ht49)) ?_
        refine V.region (by kernel_rfl) ?_
        refine V.go (V.mv (v := (.slice A acc.length c)) (s3_45) ?_)
        refine V.go (V.mk [] trivial (by kernel_rfl) [.int .u8 92] 5 (fun b => .slice (some ⟨b, 0, none⟩) 1 1) (by kernel_rfl) ?_)
        intro w51 b50 heb50 hB52 hF53 hsb50
        have hO_54 := hO_15.fr0 hF53
        have hF_55 := hF_16.new hF53
        refine V.go (V.app (R := (Rp.int .u8)) (ys := ([92])) (news := [.int .u8 92]) (at_other rfl _ (at_same hz42 rfl _)) ⟨b50, 0, none⟩ 1 1 (at_same (hz42.put _ _) rfl _) (by kernel_rfl) (info5) (by kernel_rfl) (by decide) hO_54 rfl ⟨[.int .u8 92], [], rfl, rfl, rfl⟩ (blk_cells hB52 0 _ rfl) (by first | omega | (simp; omega)) (by decide) (by omega) ?_)
        intro A56 c57 w58 hO59z hF60 hatw58
        have hsw58 := hF60.size
        have hF_61 := hF_55.own hF60 (own_ge hO_54 (by omega))
        have hO59 := hO59z.zone (Z' := NoZ) (fun _ _ q => q.1) (fun _ _ q => q)
        refine V.go (V.asg (v := (.slice A56 ((acc.length) + 1) c57)) (at_same ((hz42.put _ _).put _ _) rfl _) ?_)
        refine V.nil ?_
        refine V.blk_n ?_
        refine V.then_n (hK33 _ _ ?_)
        refine V.flushW ((((hz42.put _ _).put _ _).put _ _).put _ _) (fun a62 hz63 up64 => ?_)
        have s0_65 : a62.eval (.tmp 0) = (.string s) := up64 _ _ (at_other rfl _ (at_other rfl _ (at_other rfl _ (at_other rfl _ (s0_44)))))
        have s3_66 : a62.eval (.tmp 3) = (.slice A56 ((acc.length) + 1) c57) := up64 _ _ (at_same (((hz42.put _ _).put _ _).put _ _) rfl _)
        have s4_67 : a62.eval (.tmp 4) = (.int .i64 (k : Int)) := up64 _ _ (at_other rfl _ (at_other rfl _ (at_other rfl _ (at_other rfl _ (s4_46)))))
        clear up64
        refine V.region (by kernel_rfl) ?_
        refine V.go (V.mv (v := (.slice A56 ((acc.length) + 1) c57)) (s3_66) ?_)
        refine V.go (V.mv (v := (.string s)) (at_other rfl _ (s0_65)) ?_)
        refine V.go (V.mv (v := (.int .i64 (k : Int))) (at_other rfl _ (at_other rfl _ (s4_67))) ?_)
        refine V.go (V.ixs s .i64 (k : Int) (at_other rfl _ (at_same (hz63.put _ _) rfl _)) (at_same ((hz63.put _ _).put _ _) rfl _) (by omega) (by omega) (by kernel_rfl) ?_)
        have hb68 := byt_lt s (k : Int)
        refine V.go (V.mk [(28, .int .u8 (bi s (k : Int)))] ⟨(at_same (((hz63.put _ _).put _ _).put _ _) rfl _), trivial⟩ (by kernel_rfl) [.int .u8 (bi s (k : Int))] 5 (fun b => .slice (some ⟨b, 0, none⟩) 1 1) (by kernel_rfl) ?_)
        intro w70 b69 heb69 hB71 hF72 hsb69
        have hF_73 := hF_61.new hF72
        have hO59_74 := hO59.fr0 hF72
        refine V.go (V.app (R := (Rp.int .u8)) (ys := ([bi s (k : Int)])) (news := [.int .u8 (bi s (k : Int))]) (at_other rfl _ (at_other rfl _ (at_other rfl _ (at_other rfl _ (at_same hz63 rfl _))))) ⟨b69, 0, none⟩ 1 1 (at_same ((((hz63.put _ _).put _ _).put _ _).put _ _) rfl _) (by kernel_rfl) (info5) (by kernel_rfl) (by decide) hO59_74 rfl ⟨[.int .u8 (bi s (k : Int))], [], rfl, rfl, rfl⟩ (blk_cells hB71 0 _ rfl) (by first | omega | (simp; omega)) (by decide) (by omega) ?_)
        intro A75 c76 w77 hO78z hF79 hatw77
        have hsw77 := hF79.size
        have hF_80 := hF_73.own hF79 (own_ge hO59_74 (by omega))
        have hO78 := hO78z.zone (Z' := NoZ) (fun _ _ q => q.1) (fun _ _ q => q)
        refine V.go (V.asg (v := (.slice A75 (((acc ++ [92]).length) + 1) c76)) (at_same (((((hz63.put _ _).put _ _).put _ _).put _ _).put _ _) rfl _) ?_)
        refine V.nil ?_
        refine V.blk_n ?_
        refine V.then_n (hK31 _ _ ?_)
        refine V.flushW (((((((hz63.put _ _).put _ _).put _ _).put _ _).put _ _).put _ _).put _ _) (fun a81 hz82 up83 => ?_)
        have s0_84 : a81.eval (.tmp 0) = (.string s) := up83 _ _ (at_other rfl _ (at_other rfl _ (at_other rfl _ (at_other rfl _ (at_other rfl _ (at_other rfl _ (at_other rfl _ (s0_65))))))))
        have s3_85 : a81.eval (.tmp 3) = (.slice A75 (((acc ++ [92]).length) + 1) c76) := up83 _ _ (at_same ((((((hz63.put _ _).put _ _).put _ _).put _ _).put _ _).put _ _) rfl _)
        have s4_86 : a81.eval (.tmp 4) = (.int .i64 (k : Int)) := up83 _ _ (at_other rfl _ (at_other rfl _ (at_other rfl _ (at_other rfl _ (at_other rfl _ (at_other rfl _ (at_other rfl _ (s4_67))))))))
        clear up83
        refine V.region (by kernel_rfl) ?_
        refine V.go (V.mv (v := (.int .i64 (k : Int))) (s4_86) ?_)
        refine V.go (V.pvw [(9, .int .i64 (k : Int))] ⟨(at_same hz82 rfl _), trivial⟩ (by kernel_rfl) (.int .i64 (IntKind.i64.wrap ((k : Int) + 1))) (.int .i64 ((k : Int) + 1)) (by kernel_rfl) (V.w_i64 (by omega) (by omega)) ?_)
        refine V.go (V.asg (v := (.int .i64 ((k : Int) + 1))) (at_same (hz82.put _ _) rfl _) ?_)
        refine V.nil ?_
        refine V.then_n ?_
        refine ⟨k + 1, (acc ++ [92]) ++ [bi s (k : Int)], A75, c76, by omega, ?_⟩
        refine ⟨(((hz82.put _ _).put _ _).put _ _), ?_, ?_, ?_, (by simpa using hO78), hF_80, (by omega), (by simp; omega), (quote_t (by omega) hf (decide_eq_true (by omega)))⟩
        · exact (at_other rfl _ (at_other rfl _ (at_other rfl _ (s0_84))))
        · exact Eq.trans (at_other rfl _ (at_other rfl _ (at_other rfl _ (s3_85)))) (V.sl_eq (by simp))
        · exact Eq.trans (at_same ((hz82.put _ _).put _ _) rfl _) (V.int_eq (by omega))
      ·
        refine V.seq (fun K87 hK88 => ?_)
        refine V.region (by kernel_rfl) ?_
        refine V.go (V.pvw [(13, .int .u8 (bi s (k : Int)))] ⟨(s13_47), trivial⟩ (by kernel_rfl) (.bool ((bi s (k : Int)) == 63)) (.bool (decide ((bi s (k : Int)) = 63))) (by kernel_rfl) V.t_eql ?_)
        refine V.go (V.asg (v := (.bool (decide ((bi s (k : Int)) = 63)))) (at_same hz42 rfl _) ?_)
        refine V.nil ?_
        refine V.then_n (hK88 _ _ ?_)
        refine V.condP (p := (bi s (k : Int)) = 63) (at_same (hz42.put _ _) rfl _) (fun ht89 => ?_) (fun ht89 => ?_)
        ·
          refine V.skip ?_
          refine V.then_n (hK38 _ _ ?_)
          refine V.cond_t (((at_same (hz42.put _ _) rfl _ : Act.eval _ _ = (.bool (decide ((bi s (k : Int)) = 63))))).trans (dt ht89)) ?_
          refine V.region (by kernel_rfl) ?_
          refine V.go (V.mv (v := (.slice A acc.length c)) (at_other rfl _ (at_other rfl _ (s3_45))) ?_)
          refine V.go (V.mk [] trivial (by kernel_rfl) [.int .u8 92] 5 (fun b => .slice (some ⟨b, 0, none⟩) 1 1) (by kernel_rfl) ?_)
          intro w91 b90 heb90 hB92 hF93 hsb90
          have hO_94 := hO_15.fr0 hF93
          have hF_95 := hF_16.new hF93
          refine V.go (V.app (R := (Rp.int .u8)) (ys := ([92])) (news := [.int .u8 92]) (at_other rfl _ (at_same ((hz42.put _ _).put _ _) rfl _)) ⟨b90, 0, none⟩ 1 1 (at_same (((hz42.put _ _).put _ _).put _ _) rfl _) (by kernel_rfl) (info5) (by kernel_rfl) (by decide) hO_94 rfl ⟨[.int .u8 92], [], rfl, rfl, rfl⟩ (blk_cells hB92 0 _ rfl) (by first | omega | (simp; omega)) (by decide) (by omega) ?_)
          intro A96 c97 w98 hO99z hF100 hatw98
          have hsw98 := hF100.size
          have hF_101 := hF_95.own hF100 (own_ge hO_94 (by omega))
          have hO99 := hO99z.zone (Z' := NoZ) (fun _ _ q => q.1) (fun _ _ q => q)
          refine V.go (V.asg (v := (.slice A96 ((acc.length) + 1) c97)) (at_same ((((hz42.put _ _).put _ _).put _ _).put _ _) rfl _) ?_)
          refine V.nil ?_
          refine V.blk_n ?_
          refine V.then_n (hK33 _ _ ?_)
          refine V.flushW ((((((hz42.put _ _).put _ _).put _ _).put _ _).put _ _).put _ _) (fun a102 hz103 up104 => ?_)
          have s0_105 : a102.eval (.tmp 0) = (.string s) := up104 _ _ (at_other rfl _ (at_other rfl _ (at_other rfl _ (at_other rfl _ (at_other rfl _ (at_other rfl _ (s0_44)))))))
          have s3_106 : a102.eval (.tmp 3) = (.slice A96 ((acc.length) + 1) c97) := up104 _ _ (at_same (((((hz42.put _ _).put _ _).put _ _).put _ _).put _ _) rfl _)
          have s4_107 : a102.eval (.tmp 4) = (.int .i64 (k : Int)) := up104 _ _ (at_other rfl _ (at_other rfl _ (at_other rfl _ (at_other rfl _ (at_other rfl _ (at_other rfl _ (s4_46)))))))
          clear up104
          refine V.region (by kernel_rfl) ?_
          refine V.go (V.mv (v := (.slice A96 ((acc.length) + 1) c97)) (s3_106) ?_)
          refine V.go (V.mv (v := (.string s)) (at_other rfl _ (s0_105)) ?_)
          refine V.go (V.mv (v := (.int .i64 (k : Int))) (at_other rfl _ (at_other rfl _ (s4_107))) ?_)
          refine V.go (V.ixs s .i64 (k : Int) (at_other rfl _ (at_same (hz103.put _ _) rfl _)) (at_same ((hz103.put _ _).put _ _) rfl _) (by omega) (by omega) (by kernel_rfl) ?_)
          have hb108 := byt_lt s (k : Int)
          refine V.go (V.mk [(28, .int .u8 (bi s (k : Int)))] ⟨(at_same (((hz103.put _ _).put _ _).put _ _) rfl _), trivial⟩ (by kernel_rfl) [.int .u8 (bi s (k : Int))] 5 (fun b => .slice (some ⟨b, 0, none⟩) 1 1) (by kernel_rfl) ?_)
          intro w110 b109 heb109 hB111 hF112 hsb109
          have hF_113 := hF_101.new hF112
          have hO99_114 := hO99.fr0 hF112
          refine V.go (V.app (R := (Rp.int .u8)) (ys := ([bi s (k : Int)])) (news := [.int .u8 (bi s (k : Int))]) (at_other rfl _ (at_other rfl _ (at_other rfl _ (at_other rfl _ (at_same hz103 rfl _))))) ⟨b109, 0, none⟩ 1 1 (at_same ((((hz103.put _ _).put _ _).put _ _).put _ _) rfl _) (by kernel_rfl) (info5) (by kernel_rfl) (by decide) hO99_114 rfl ⟨[.int .u8 (bi s (k : Int))], [], rfl, rfl, rfl⟩ (blk_cells hB111 0 _ rfl) (by first | omega | (simp; omega)) (by decide) (by omega) ?_)
          intro A115 c116 w117 hO118z hF119 hatw117
          have hsw117 := hF119.size
          have hF_120 := hF_113.own hF119 (own_ge hO99_114 (by omega))
          have hO118 := hO118z.zone (Z' := NoZ) (fun _ _ q => q.1) (fun _ _ q => q)
          refine V.go (V.asg (v := (.slice A115 (((acc ++ [92]).length) + 1) c116)) (at_same (((((hz103.put _ _).put _ _).put _ _).put _ _).put _ _) rfl _) ?_)
          refine V.nil ?_
          refine V.blk_n ?_
          refine V.then_n (hK31 _ _ ?_)
          refine V.flushW (((((((hz103.put _ _).put _ _).put _ _).put _ _).put _ _).put _ _).put _ _) (fun a121 hz122 up123 => ?_)
          have s0_124 : a121.eval (.tmp 0) = (.string s) := up123 _ _ (at_other rfl _ (at_other rfl _ (at_other rfl _ (at_other rfl _ (at_other rfl _ (at_other rfl _ (at_other rfl _ (s0_105))))))))
          have s3_125 : a121.eval (.tmp 3) = (.slice A115 (((acc ++ [92]).length) + 1) c116) := up123 _ _ (at_same ((((((hz103.put _ _).put _ _).put _ _).put _ _).put _ _).put _ _) rfl _)
          have s4_126 : a121.eval (.tmp 4) = (.int .i64 (k : Int)) := up123 _ _ (at_other rfl _ (at_other rfl _ (at_other rfl _ (at_other rfl _ (at_other rfl _ (at_other rfl _ (at_other rfl _ (s4_107))))))))
          clear up123
          refine V.region (by kernel_rfl) ?_
          refine V.go (V.mv (v := (.int .i64 (k : Int))) (s4_126) ?_)
          refine V.go (V.pvw [(9, .int .i64 (k : Int))] ⟨(at_same hz122 rfl _), trivial⟩ (by kernel_rfl) (.int .i64 (IntKind.i64.wrap ((k : Int) + 1))) (.int .i64 ((k : Int) + 1)) (by kernel_rfl) (V.w_i64 (by omega) (by omega)) ?_)
          refine V.go (V.asg (v := (.int .i64 ((k : Int) + 1))) (at_same (hz122.put _ _) rfl _) ?_)
          refine V.nil ?_
          refine V.then_n ?_
          refine ⟨k + 1, (acc ++ [92]) ++ [bi s (k : Int)], A115, c116, by omega, ?_⟩
          refine ⟨(((hz122.put _ _).put _ _).put _ _), ?_, ?_, ?_, (by simpa using hO118), hF_120, (by omega), (by simp; omega), (quote_t (by omega) hf (decide_eq_true (by omega)))⟩
          · exact (at_other rfl _ (at_other rfl _ (at_other rfl _ (s0_124))))
          · exact Eq.trans (at_other rfl _ (at_other rfl _ (at_other rfl _ (s3_125)))) (V.sl_eq (by simp))
          · exact Eq.trans (at_same ((hz122.put _ _).put _ _) rfl _) (V.int_eq (by omega))
        ·
          refine V.seq (fun K127 hK128 => ?_)
          refine V.region (by kernel_rfl) ?_
          refine V.go (V.pvw [(13, .int .u8 (bi s (k : Int)))] ⟨(at_other rfl _ (at_other rfl _ (s13_47))), trivial⟩ (by kernel_rfl) (.bool ((bi s (k : Int)) == 91)) (.bool (decide ((bi s (k : Int)) = 91))) (by kernel_rfl) V.t_eql ?_)
          refine V.go (V.asg (v := (.bool (decide ((bi s (k : Int)) = 91)))) (at_same ((hz42.put _ _).put _ _) rfl _) ?_)
          refine V.nil ?_
          refine V.then_n (hK128 _ _ ?_)
          refine V.flushW ((((hz42.put _ _).put _ _).put _ _).put _ _) (fun a129 hz130 up131 => ?_)
          have s0_132 : a129.eval (.tmp 0) = (.string s) := up131 _ _ (at_other rfl _ (at_other rfl _ (at_other rfl _ (at_other rfl _ (s0_44)))))
          have s3_133 : a129.eval (.tmp 3) = (.slice A acc.length c) := up131 _ _ (at_other rfl _ (at_other rfl _ (at_other rfl _ (at_other rfl _ (s3_45)))))
          have s4_134 : a129.eval (.tmp 4) = (.int .i64 (k : Int)) := up131 _ _ (at_other rfl _ (at_other rfl _ (at_other rfl _ (at_other rfl _ (s4_46)))))
          have s13_135 : a129.eval (.tmp 13) = (.int .u8 (bi s (k : Int))) := up131 _ _ (at_other rfl _ (at_other rfl _ (at_other rfl _ (at_other rfl _ (s13_47)))))
          have s14_136 : a129.eval (.tmp 14) = (.bool (decide ((bi s (k : Int)) = 91))) := up131 _ _ (at_same (((hz42.put _ _).put _ _).put _ _) rfl _)
          clear up131
          refine V.condP (p := (bi s (k : Int)) = 91) (s14_136) (fun ht137 => ?_) (fun ht137 => ?_)
          ·
            refine V.skip ?_
            refine V.then_n (hK38 _ _ ?_)
            refine V.cond_t ((s14_136).trans (dt ht137)) ?_
            refine V.region (by kernel_rfl) ?_
            refine V.go (V.mv (v := (.slice A acc.length c)) (s3_133) ?_)
            refine V.go (V.mk [] trivial (by kernel_rfl) [.int .u8 92] 5 (fun b => .slice (some ⟨b, 0, none⟩) 1 1) (by kernel_rfl) ?_)
            intro w139 b138 heb138 hB140 hF141 hsb138
            have hO_142 := hO_15.fr0 hF141
            have hF_143 := hF_16.new hF141
            refine V.go (V.app (R := (Rp.int .u8)) (ys := ([92])) (news := [.int .u8 92]) (at_other rfl _ (at_same hz130 rfl _)) ⟨b138, 0, none⟩ 1 1 (at_same (hz130.put _ _) rfl _) (by kernel_rfl) (info5) (by kernel_rfl) (by decide) hO_142 rfl ⟨[.int .u8 92], [], rfl, rfl, rfl⟩ (blk_cells hB140 0 _ rfl) (by first | omega | (simp; omega)) (by decide) (by omega) ?_)
            intro A144 c145 w146 hO147z hF148 hatw146
            have hsw146 := hF148.size
            have hF_149 := hF_143.own hF148 (own_ge hO_142 (by omega))
            have hO147 := hO147z.zone (Z' := NoZ) (fun _ _ q => q.1) (fun _ _ q => q)
            refine V.go (V.asg (v := (.slice A144 ((acc.length) + 1) c145)) (at_same ((hz130.put _ _).put _ _) rfl _) ?_)
            refine V.nil ?_
            refine V.blk_n ?_
            refine V.then_n (hK33 _ _ ?_)
            refine V.flushW ((((hz130.put _ _).put _ _).put _ _).put _ _) (fun a150 hz151 up152 => ?_)
            have s0_153 : a150.eval (.tmp 0) = (.string s) := up152 _ _ (at_other rfl _ (at_other rfl _ (at_other rfl _ (at_other rfl _ (s0_132)))))
            have s3_154 : a150.eval (.tmp 3) = (.slice A144 ((acc.length) + 1) c145) := up152 _ _ (at_same (((hz130.put _ _).put _ _).put _ _) rfl _)
            have s4_155 : a150.eval (.tmp 4) = (.int .i64 (k : Int)) := up152 _ _ (at_other rfl _ (at_other rfl _ (at_other rfl _ (at_other rfl _ (s4_134)))))
            clear up152
            refine V.region (by kernel_rfl) ?_
            refine V.go (V.mv (v := (.slice A144 ((acc.length) + 1) c145)) (s3_154) ?_)
            refine V.go (V.mv (v := (.string s)) (at_other rfl _ (s0_153)) ?_)
            refine V.go (V.mv (v := (.int .i64 (k : Int))) (at_other rfl _ (at_other rfl _ (s4_155))) ?_)
            refine V.go (V.ixs s .i64 (k : Int) (at_other rfl _ (at_same (hz151.put _ _) rfl _)) (at_same ((hz151.put _ _).put _ _) rfl _) (by omega) (by omega) (by kernel_rfl) ?_)
            have hb156 := byt_lt s (k : Int)
            refine V.go (V.mk [(28, .int .u8 (bi s (k : Int)))] ⟨(at_same (((hz151.put _ _).put _ _).put _ _) rfl _), trivial⟩ (by kernel_rfl) [.int .u8 (bi s (k : Int))] 5 (fun b => .slice (some ⟨b, 0, none⟩) 1 1) (by kernel_rfl) ?_)
            intro w158 b157 heb157 hB159 hF160 hsb157
            have hF_161 := hF_149.new hF160
            have hO147_162 := hO147.fr0 hF160
            refine V.go (V.app (R := (Rp.int .u8)) (ys := ([bi s (k : Int)])) (news := [.int .u8 (bi s (k : Int))]) (at_other rfl _ (at_other rfl _ (at_other rfl _ (at_other rfl _ (at_same hz151 rfl _))))) ⟨b157, 0, none⟩ 1 1 (at_same ((((hz151.put _ _).put _ _).put _ _).put _ _) rfl _) (by kernel_rfl) (info5) (by kernel_rfl) (by decide) hO147_162 rfl ⟨[.int .u8 (bi s (k : Int))], [], rfl, rfl, rfl⟩ (blk_cells hB159 0 _ rfl) (by first | omega | (simp; omega)) (by decide) (by omega) ?_)
            intro A163 c164 w165 hO166z hF167 hatw165
            have hsw165 := hF167.size
            have hF_168 := hF_161.own hF167 (own_ge hO147_162 (by omega))
            have hO166 := hO166z.zone (Z' := NoZ) (fun _ _ q => q.1) (fun _ _ q => q)
            refine V.go (V.asg (v := (.slice A163 (((acc ++ [92]).length) + 1) c164)) (at_same (((((hz151.put _ _).put _ _).put _ _).put _ _).put _ _) rfl _) ?_)
            refine V.nil ?_
            refine V.blk_n ?_
            refine V.then_n (hK31 _ _ ?_)
            refine V.flushW (((((((hz151.put _ _).put _ _).put _ _).put _ _).put _ _).put _ _).put _ _) (fun a169 hz170 up171 => ?_)
            have s0_172 : a169.eval (.tmp 0) = (.string s) := up171 _ _ (at_other rfl _ (at_other rfl _ (at_other rfl _ (at_other rfl _ (at_other rfl _ (at_other rfl _ (at_other rfl _ (s0_153))))))))
            have s3_173 : a169.eval (.tmp 3) = (.slice A163 (((acc ++ [92]).length) + 1) c164) := up171 _ _ (at_same ((((((hz151.put _ _).put _ _).put _ _).put _ _).put _ _).put _ _) rfl _)
            have s4_174 : a169.eval (.tmp 4) = (.int .i64 (k : Int)) := up171 _ _ (at_other rfl _ (at_other rfl _ (at_other rfl _ (at_other rfl _ (at_other rfl _ (at_other rfl _ (at_other rfl _ (s4_155))))))))
            clear up171
            refine V.region (by kernel_rfl) ?_
            refine V.go (V.mv (v := (.int .i64 (k : Int))) (s4_174) ?_)
            refine V.go (V.pvw [(9, .int .i64 (k : Int))] ⟨(at_same hz170 rfl _), trivial⟩ (by kernel_rfl) (.int .i64 (IntKind.i64.wrap ((k : Int) + 1))) (.int .i64 ((k : Int) + 1)) (by kernel_rfl) (V.w_i64 (by omega) (by omega)) ?_)
            refine V.go (V.asg (v := (.int .i64 ((k : Int) + 1))) (at_same (hz170.put _ _) rfl _) ?_)
            refine V.nil ?_
            refine V.then_n ?_
            refine ⟨k + 1, (acc ++ [92]) ++ [bi s (k : Int)], A163, c164, by omega, ?_⟩
            refine ⟨(((hz170.put _ _).put _ _).put _ _), ?_, ?_, ?_, (by simpa using hO166), hF_168, (by omega), (by simp; omega), (quote_t (by omega) hf (decide_eq_true (by omega)))⟩
            · exact (at_other rfl _ (at_other rfl _ (at_other rfl _ (s0_172))))
            · exact Eq.trans (at_other rfl _ (at_other rfl _ (at_other rfl _ (s3_173)))) (V.sl_eq (by simp))
            · exact Eq.trans (at_same ((hz170.put _ _).put _ _) rfl _) (V.int_eq (by omega))
          ·
            refine V.seq (fun K175 hK176 => ?_)
            refine V.region (by kernel_rfl) ?_
            refine V.go (V.pvw [(13, .int .u8 (bi s (k : Int)))] ⟨(s13_135), trivial⟩ (by kernel_rfl) (.bool ((bi s (k : Int)) == 93)) (.bool (decide ((bi s (k : Int)) = 93))) (by kernel_rfl) V.t_eql ?_)
            refine V.go (V.asg (v := (.bool (decide ((bi s (k : Int)) = 93)))) (at_same hz130 rfl _) ?_)
            refine V.nil ?_
            refine V.then_n (hK176 _ _ ?_)
            refine V.condP (p := (bi s (k : Int)) = 93) (at_same (hz130.put _ _) rfl _) (fun ht177 => ?_) (fun ht177 => ?_)
            ·
              refine V.skip ?_
              refine V.then_n (hK38 _ _ ?_)
              refine V.cond_t (((at_same (hz130.put _ _) rfl _ : Act.eval _ _ = (.bool (decide ((bi s (k : Int)) = 93))))).trans (dt ht177)) ?_
              refine V.region (by kernel_rfl) ?_
              refine V.go (V.mv (v := (.slice A acc.length c)) (at_other rfl _ (at_other rfl _ (s3_133))) ?_)
              refine V.go (V.mk [] trivial (by kernel_rfl) [.int .u8 92] 5 (fun b => .slice (some ⟨b, 0, none⟩) 1 1) (by kernel_rfl) ?_)
              intro w179 b178 heb178 hB180 hF181 hsb178
              have hO_182 := hO_15.fr0 hF181
              have hF_183 := hF_16.new hF181
              refine V.go (V.app (R := (Rp.int .u8)) (ys := ([92])) (news := [.int .u8 92]) (at_other rfl _ (at_same ((hz130.put _ _).put _ _) rfl _)) ⟨b178, 0, none⟩ 1 1 (at_same (((hz130.put _ _).put _ _).put _ _) rfl _) (by kernel_rfl) (info5) (by kernel_rfl) (by decide) hO_182 rfl ⟨[.int .u8 92], [], rfl, rfl, rfl⟩ (blk_cells hB180 0 _ rfl) (by first | omega | (simp; omega)) (by decide) (by omega) ?_)
              intro A184 c185 w186 hO187z hF188 hatw186
              have hsw186 := hF188.size
              have hF_189 := hF_183.own hF188 (own_ge hO_182 (by omega))
              have hO187 := hO187z.zone (Z' := NoZ) (fun _ _ q => q.1) (fun _ _ q => q)
              refine V.go (V.asg (v := (.slice A184 ((acc.length) + 1) c185)) (at_same ((((hz130.put _ _).put _ _).put _ _).put _ _) rfl _) ?_)
              refine V.nil ?_
              refine V.blk_n ?_
              refine V.then_n (hK33 _ _ ?_)
              refine V.flushW ((((((hz130.put _ _).put _ _).put _ _).put _ _).put _ _).put _ _) (fun a190 hz191 up192 => ?_)
              have s0_193 : a190.eval (.tmp 0) = (.string s) := up192 _ _ (at_other rfl _ (at_other rfl _ (at_other rfl _ (at_other rfl _ (at_other rfl _ (at_other rfl _ (s0_132)))))))
              have s3_194 : a190.eval (.tmp 3) = (.slice A184 ((acc.length) + 1) c185) := up192 _ _ (at_same (((((hz130.put _ _).put _ _).put _ _).put _ _).put _ _) rfl _)
              have s4_195 : a190.eval (.tmp 4) = (.int .i64 (k : Int)) := up192 _ _ (at_other rfl _ (at_other rfl _ (at_other rfl _ (at_other rfl _ (at_other rfl _ (at_other rfl _ (s4_134)))))))
              clear up192
              refine V.region (by kernel_rfl) ?_
              refine V.go (V.mv (v := (.slice A184 ((acc.length) + 1) c185)) (s3_194) ?_)
              refine V.go (V.mv (v := (.string s)) (at_other rfl _ (s0_193)) ?_)
              refine V.go (V.mv (v := (.int .i64 (k : Int))) (at_other rfl _ (at_other rfl _ (s4_195))) ?_)
              refine V.go (V.ixs s .i64 (k : Int) (at_other rfl _ (at_same (hz191.put _ _) rfl _)) (at_same ((hz191.put _ _).put _ _) rfl _) (by omega) (by omega) (by kernel_rfl) ?_)
              have hb196 := byt_lt s (k : Int)
              refine V.go (V.mk [(28, .int .u8 (bi s (k : Int)))] ⟨(at_same (((hz191.put _ _).put _ _).put _ _) rfl _), trivial⟩ (by kernel_rfl) [.int .u8 (bi s (k : Int))] 5 (fun b => .slice (some ⟨b, 0, none⟩) 1 1) (by kernel_rfl) ?_)
              intro w198 b197 heb197 hB199 hF200 hsb197
              have hF_201 := hF_189.new hF200
              have hO187_202 := hO187.fr0 hF200
              refine V.go (V.app (R := (Rp.int .u8)) (ys := ([bi s (k : Int)])) (news := [.int .u8 (bi s (k : Int))]) (at_other rfl _ (at_other rfl _ (at_other rfl _ (at_other rfl _ (at_same hz191 rfl _))))) ⟨b197, 0, none⟩ 1 1 (at_same ((((hz191.put _ _).put _ _).put _ _).put _ _) rfl _) (by kernel_rfl) (info5) (by kernel_rfl) (by decide) hO187_202 rfl ⟨[.int .u8 (bi s (k : Int))], [], rfl, rfl, rfl⟩ (blk_cells hB199 0 _ rfl) (by first | omega | (simp; omega)) (by decide) (by omega) ?_)
              intro A203 c204 w205 hO206z hF207 hatw205
              have hsw205 := hF207.size
              have hF_208 := hF_201.own hF207 (own_ge hO187_202 (by omega))
              have hO206 := hO206z.zone (Z' := NoZ) (fun _ _ q => q.1) (fun _ _ q => q)
              refine V.go (V.asg (v := (.slice A203 (((acc ++ [92]).length) + 1) c204)) (at_same (((((hz191.put _ _).put _ _).put _ _).put _ _).put _ _) rfl _) ?_)
              refine V.nil ?_
              refine V.blk_n ?_
              refine V.then_n (hK31 _ _ ?_)
              refine V.flushW (((((((hz191.put _ _).put _ _).put _ _).put _ _).put _ _).put _ _).put _ _) (fun a209 hz210 up211 => ?_)
              have s0_212 : a209.eval (.tmp 0) = (.string s) := up211 _ _ (at_other rfl _ (at_other rfl _ (at_other rfl _ (at_other rfl _ (at_other rfl _ (at_other rfl _ (at_other rfl _ (s0_193))))))))
              have s3_213 : a209.eval (.tmp 3) = (.slice A203 (((acc ++ [92]).length) + 1) c204) := up211 _ _ (at_same ((((((hz191.put _ _).put _ _).put _ _).put _ _).put _ _).put _ _) rfl _)
              have s4_214 : a209.eval (.tmp 4) = (.int .i64 (k : Int)) := up211 _ _ (at_other rfl _ (at_other rfl _ (at_other rfl _ (at_other rfl _ (at_other rfl _ (at_other rfl _ (at_other rfl _ (s4_195))))))))
              clear up211
              refine V.region (by kernel_rfl) ?_
              refine V.go (V.mv (v := (.int .i64 (k : Int))) (s4_214) ?_)
              refine V.go (V.pvw [(9, .int .i64 (k : Int))] ⟨(at_same hz210 rfl _), trivial⟩ (by kernel_rfl) (.int .i64 (IntKind.i64.wrap ((k : Int) + 1))) (.int .i64 ((k : Int) + 1)) (by kernel_rfl) (V.w_i64 (by omega) (by omega)) ?_)
              refine V.go (V.asg (v := (.int .i64 ((k : Int) + 1))) (at_same (hz210.put _ _) rfl _) ?_)
              refine V.nil ?_
              refine V.then_n ?_
              refine ⟨k + 1, (acc ++ [92]) ++ [bi s (k : Int)], A203, c204, by omega, ?_⟩
              refine ⟨(((hz210.put _ _).put _ _).put _ _), ?_, ?_, ?_, (by simpa using hO206), hF_208, (by omega), (by simp; omega), (quote_t (by omega) hf (decide_eq_true (by omega)))⟩
              · exact (at_other rfl _ (at_other rfl _ (at_other rfl _ (s0_212))))
              · exact Eq.trans (at_other rfl _ (at_other rfl _ (at_other rfl _ (s3_213)))) (V.sl_eq (by simp))
              · exact Eq.trans (at_same ((hz210.put _ _).put _ _) rfl _) (V.int_eq (by omega))
            ·
              refine V.seq (fun K215 hK216 => ?_)
              refine V.region (by kernel_rfl) ?_
              refine V.go (V.pvw [(13, .int .u8 (bi s (k : Int)))] ⟨(at_other rfl _ (at_other rfl _ (s13_135))), trivial⟩ (by kernel_rfl) (.bool ((bi s (k : Int)) == 94)) (.bool (decide ((bi s (k : Int)) = 94))) (by kernel_rfl) V.t_eql ?_)
              refine V.go (V.asg (v := (.bool (decide ((bi s (k : Int)) = 94)))) (at_same ((hz130.put _ _).put _ _) rfl _) ?_)
              refine V.nil ?_
              refine V.then_n (hK216 _ _ ?_)
              refine V.flushW ((((hz130.put _ _).put _ _).put _ _).put _ _) (fun a217 hz218 up219 => ?_)
              have s0_220 : a217.eval (.tmp 0) = (.string s) := up219 _ _ (at_other rfl _ (at_other rfl _ (at_other rfl _ (at_other rfl _ (s0_132)))))
              have s3_221 : a217.eval (.tmp 3) = (.slice A acc.length c) := up219 _ _ (at_other rfl _ (at_other rfl _ (at_other rfl _ (at_other rfl _ (s3_133)))))
              have s4_222 : a217.eval (.tmp 4) = (.int .i64 (k : Int)) := up219 _ _ (at_other rfl _ (at_other rfl _ (at_other rfl _ (at_other rfl _ (s4_134)))))
              have s13_223 : a217.eval (.tmp 13) = (.int .u8 (bi s (k : Int))) := up219 _ _ (at_other rfl _ (at_other rfl _ (at_other rfl _ (at_other rfl _ (s13_135)))))
              have s14_224 : a217.eval (.tmp 14) = (.bool (decide ((bi s (k : Int)) = 94))) := up219 _ _ (at_same (((hz130.put _ _).put _ _).put _ _) rfl _)
              clear up219
              refine V.condP (p := (bi s (k : Int)) = 94) (s14_224) (fun ht225 => ?_) (fun ht225 => ?_)
              ·
                refine V.skip ?_
                refine V.then_n (hK38 _ _ ?_)
                refine V.cond_t ((s14_224).trans (dt ht225)) ?_
                refine V.region (by kernel_rfl) ?_
                refine V.go (V.mv (v := (.slice A acc.length c)) (s3_221) ?_)
                refine V.go (V.mk [] trivial (by kernel_rfl) [.int .u8 92] 5 (fun b => .slice (some ⟨b, 0, none⟩) 1 1) (by kernel_rfl) ?_)
                intro w227 b226 heb226 hB228 hF229 hsb226
                have hO_230 := hO_15.fr0 hF229
                have hF_231 := hF_16.new hF229
                refine V.go (V.app (R := (Rp.int .u8)) (ys := ([92])) (news := [.int .u8 92]) (at_other rfl _ (at_same hz218 rfl _)) ⟨b226, 0, none⟩ 1 1 (at_same (hz218.put _ _) rfl _) (by kernel_rfl) (info5) (by kernel_rfl) (by decide) hO_230 rfl ⟨[.int .u8 92], [], rfl, rfl, rfl⟩ (blk_cells hB228 0 _ rfl) (by first | omega | (simp; omega)) (by decide) (by omega) ?_)
                intro A232 c233 w234 hO235z hF236 hatw234
                have hsw234 := hF236.size
                have hF_237 := hF_231.own hF236 (own_ge hO_230 (by omega))
                have hO235 := hO235z.zone (Z' := NoZ) (fun _ _ q => q.1) (fun _ _ q => q)
                refine V.go (V.asg (v := (.slice A232 ((acc.length) + 1) c233)) (at_same ((hz218.put _ _).put _ _) rfl _) ?_)
                refine V.nil ?_
                refine V.blk_n ?_
                refine V.then_n (hK33 _ _ ?_)
                refine V.flushW ((((hz218.put _ _).put _ _).put _ _).put _ _) (fun a238 hz239 up240 => ?_)
                have s0_241 : a238.eval (.tmp 0) = (.string s) := up240 _ _ (at_other rfl _ (at_other rfl _ (at_other rfl _ (at_other rfl _ (s0_220)))))
                have s3_242 : a238.eval (.tmp 3) = (.slice A232 ((acc.length) + 1) c233) := up240 _ _ (at_same (((hz218.put _ _).put _ _).put _ _) rfl _)
                have s4_243 : a238.eval (.tmp 4) = (.int .i64 (k : Int)) := up240 _ _ (at_other rfl _ (at_other rfl _ (at_other rfl _ (at_other rfl _ (s4_222)))))
                clear up240
                refine V.region (by kernel_rfl) ?_
                refine V.go (V.mv (v := (.slice A232 ((acc.length) + 1) c233)) (s3_242) ?_)
                refine V.go (V.mv (v := (.string s)) (at_other rfl _ (s0_241)) ?_)
                refine V.go (V.mv (v := (.int .i64 (k : Int))) (at_other rfl _ (at_other rfl _ (s4_243))) ?_)
                refine V.go (V.ixs s .i64 (k : Int) (at_other rfl _ (at_same (hz239.put _ _) rfl _)) (at_same ((hz239.put _ _).put _ _) rfl _) (by omega) (by omega) (by kernel_rfl) ?_)
                have hb244 := byt_lt s (k : Int)
                refine V.go (V.mk [(28, .int .u8 (bi s (k : Int)))] ⟨(at_same (((hz239.put _ _).put _ _).put _ _) rfl _), trivial⟩ (by kernel_rfl) [.int .u8 (bi s (k : Int))] 5 (fun b => .slice (some ⟨b, 0, none⟩) 1 1) (by kernel_rfl) ?_)
                intro w246 b245 heb245 hB247 hF248 hsb245
                have hF_249 := hF_237.new hF248
                have hO235_250 := hO235.fr0 hF248
                refine V.go (V.app (R := (Rp.int .u8)) (ys := ([bi s (k : Int)])) (news := [.int .u8 (bi s (k : Int))]) (at_other rfl _ (at_other rfl _ (at_other rfl _ (at_other rfl _ (at_same hz239 rfl _))))) ⟨b245, 0, none⟩ 1 1 (at_same ((((hz239.put _ _).put _ _).put _ _).put _ _) rfl _) (by kernel_rfl) (info5) (by kernel_rfl) (by decide) hO235_250 rfl ⟨[.int .u8 (bi s (k : Int))], [], rfl, rfl, rfl⟩ (blk_cells hB247 0 _ rfl) (by first | omega | (simp; omega)) (by decide) (by omega) ?_)
                intro A251 c252 w253 hO254z hF255 hatw253
                have hsw253 := hF255.size
                have hF_256 := hF_249.own hF255 (own_ge hO235_250 (by omega))
                have hO254 := hO254z.zone (Z' := NoZ) (fun _ _ q => q.1) (fun _ _ q => q)
                refine V.go (V.asg (v := (.slice A251 (((acc ++ [92]).length) + 1) c252)) (at_same (((((hz239.put _ _).put _ _).put _ _).put _ _).put _ _) rfl _) ?_)
                refine V.nil ?_
                refine V.blk_n ?_
                refine V.then_n (hK31 _ _ ?_)
                refine V.flushW (((((((hz239.put _ _).put _ _).put _ _).put _ _).put _ _).put _ _).put _ _) (fun a257 hz258 up259 => ?_)
                have s0_260 : a257.eval (.tmp 0) = (.string s) := up259 _ _ (at_other rfl _ (at_other rfl _ (at_other rfl _ (at_other rfl _ (at_other rfl _ (at_other rfl _ (at_other rfl _ (s0_241))))))))
                have s3_261 : a257.eval (.tmp 3) = (.slice A251 (((acc ++ [92]).length) + 1) c252) := up259 _ _ (at_same ((((((hz239.put _ _).put _ _).put _ _).put _ _).put _ _).put _ _) rfl _)
                have s4_262 : a257.eval (.tmp 4) = (.int .i64 (k : Int)) := up259 _ _ (at_other rfl _ (at_other rfl _ (at_other rfl _ (at_other rfl _ (at_other rfl _ (at_other rfl _ (at_other rfl _ (s4_243))))))))
                clear up259
                refine V.region (by kernel_rfl) ?_
                refine V.go (V.mv (v := (.int .i64 (k : Int))) (s4_262) ?_)
                refine V.go (V.pvw [(9, .int .i64 (k : Int))] ⟨(at_same hz258 rfl _), trivial⟩ (by kernel_rfl) (.int .i64 (IntKind.i64.wrap ((k : Int) + 1))) (.int .i64 ((k : Int) + 1)) (by kernel_rfl) (V.w_i64 (by omega) (by omega)) ?_)
                refine V.go (V.asg (v := (.int .i64 ((k : Int) + 1))) (at_same (hz258.put _ _) rfl _) ?_)
                refine V.nil ?_
                refine V.then_n ?_
                refine ⟨k + 1, (acc ++ [92]) ++ [bi s (k : Int)], A251, c252, by omega, ?_⟩
                refine ⟨(((hz258.put _ _).put _ _).put _ _), ?_, ?_, ?_, (by simpa using hO254), hF_256, (by omega), (by simp; omega), (quote_t (by omega) hf (decide_eq_true (by omega)))⟩
                · exact (at_other rfl _ (at_other rfl _ (at_other rfl _ (s0_260))))
                · exact Eq.trans (at_other rfl _ (at_other rfl _ (at_other rfl _ (s3_261)))) (V.sl_eq (by simp))
                · exact Eq.trans (at_same ((hz258.put _ _).put _ _) rfl _) (V.int_eq (by omega))
              ·
                refine V.seq (fun K263 hK264 => ?_)
                refine V.region (by kernel_rfl) ?_
                refine V.go (V.pvw [(13, .int .u8 (bi s (k : Int)))] ⟨(s13_223), trivial⟩ (by kernel_rfl) (.bool ((bi s (k : Int)) == 45)) (.bool (decide ((bi s (k : Int)) = 45))) (by kernel_rfl) V.t_eql ?_)
                refine V.go (V.asg (v := (.bool (decide ((bi s (k : Int)) = 45)))) (at_same hz218 rfl _) ?_)
                refine V.nil ?_
                refine V.then_n (hK264 _ _ ?_)
                refine V.condP (p := (bi s (k : Int)) = 45) (at_same (hz218.put _ _) rfl _) (fun ht265 => ?_) (fun ht265 => ?_)
                ·
                  refine V.skip ?_
                  refine V.then_n (hK38 _ _ ?_)
                  refine V.cond_t (((at_same (hz218.put _ _) rfl _ : Act.eval _ _ = (.bool (decide ((bi s (k : Int)) = 45))))).trans (dt ht265)) ?_
                  refine V.region (by kernel_rfl) ?_
                  refine V.go (V.mv (v := (.slice A acc.length c)) (at_other rfl _ (at_other rfl _ (s3_221))) ?_)
                  refine V.go (V.mk [] trivial (by kernel_rfl) [.int .u8 92] 5 (fun b => .slice (some ⟨b, 0, none⟩) 1 1) (by kernel_rfl) ?_)
                  intro w267 b266 heb266 hB268 hF269 hsb266
                  have hO_270 := hO_15.fr0 hF269
                  have hF_271 := hF_16.new hF269
                  refine V.go (V.app (R := (Rp.int .u8)) (ys := ([92])) (news := [.int .u8 92]) (at_other rfl _ (at_same ((hz218.put _ _).put _ _) rfl _)) ⟨b266, 0, none⟩ 1 1 (at_same (((hz218.put _ _).put _ _).put _ _) rfl _) (by kernel_rfl) (info5) (by kernel_rfl) (by decide) hO_270 rfl ⟨[.int .u8 92], [], rfl, rfl, rfl⟩ (blk_cells hB268 0 _ rfl) (by first | omega | (simp; omega)) (by decide) (by omega) ?_)
                  intro A272 c273 w274 hO275z hF276 hatw274
                  have hsw274 := hF276.size
                  have hF_277 := hF_271.own hF276 (own_ge hO_270 (by omega))
                  have hO275 := hO275z.zone (Z' := NoZ) (fun _ _ q => q.1) (fun _ _ q => q)
                  refine V.go (V.asg (v := (.slice A272 ((acc.length) + 1) c273)) (at_same ((((hz218.put _ _).put _ _).put _ _).put _ _) rfl _) ?_)
                  refine V.nil ?_
                  refine V.blk_n ?_
                  refine V.then_n (hK33 _ _ ?_)
                  refine V.flushW ((((((hz218.put _ _).put _ _).put _ _).put _ _).put _ _).put _ _) (fun a278 hz279 up280 => ?_)
                  have s0_281 : a278.eval (.tmp 0) = (.string s) := up280 _ _ (at_other rfl _ (at_other rfl _ (at_other rfl _ (at_other rfl _ (at_other rfl _ (at_other rfl _ (s0_220)))))))
                  have s3_282 : a278.eval (.tmp 3) = (.slice A272 ((acc.length) + 1) c273) := up280 _ _ (at_same (((((hz218.put _ _).put _ _).put _ _).put _ _).put _ _) rfl _)
                  have s4_283 : a278.eval (.tmp 4) = (.int .i64 (k : Int)) := up280 _ _ (at_other rfl _ (at_other rfl _ (at_other rfl _ (at_other rfl _ (at_other rfl _ (at_other rfl _ (s4_222)))))))
                  clear up280
                  refine V.region (by kernel_rfl) ?_
                  refine V.go (V.mv (v := (.slice A272 ((acc.length) + 1) c273)) (s3_282) ?_)
                  refine V.go (V.mv (v := (.string s)) (at_other rfl _ (s0_281)) ?_)
                  refine V.go (V.mv (v := (.int .i64 (k : Int))) (at_other rfl _ (at_other rfl _ (s4_283))) ?_)
                  refine V.go (V.ixs s .i64 (k : Int) (at_other rfl _ (at_same (hz279.put _ _) rfl _)) (at_same ((hz279.put _ _).put _ _) rfl _) (by omega) (by omega) (by kernel_rfl) ?_)
                  have hb284 := byt_lt s (k : Int)
                  refine V.go (V.mk [(28, .int .u8 (bi s (k : Int)))] ⟨(at_same (((hz279.put _ _).put _ _).put _ _) rfl _), trivial⟩ (by kernel_rfl) [.int .u8 (bi s (k : Int))] 5 (fun b => .slice (some ⟨b, 0, none⟩) 1 1) (by kernel_rfl) ?_)
                  intro w286 b285 heb285 hB287 hF288 hsb285
                  have hF_289 := hF_277.new hF288
                  have hO275_290 := hO275.fr0 hF288
                  refine V.go (V.app (R := (Rp.int .u8)) (ys := ([bi s (k : Int)])) (news := [.int .u8 (bi s (k : Int))]) (at_other rfl _ (at_other rfl _ (at_other rfl _ (at_other rfl _ (at_same hz279 rfl _))))) ⟨b285, 0, none⟩ 1 1 (at_same ((((hz279.put _ _).put _ _).put _ _).put _ _) rfl _) (by kernel_rfl) (info5) (by kernel_rfl) (by decide) hO275_290 rfl ⟨[.int .u8 (bi s (k : Int))], [], rfl, rfl, rfl⟩ (blk_cells hB287 0 _ rfl) (by first | omega | (simp; omega)) (by decide) (by omega) ?_)
                  intro A291 c292 w293 hO294z hF295 hatw293
                  have hsw293 := hF295.size
                  have hF_296 := hF_289.own hF295 (own_ge hO275_290 (by omega))
                  have hO294 := hO294z.zone (Z' := NoZ) (fun _ _ q => q.1) (fun _ _ q => q)
                  refine V.go (V.asg (v := (.slice A291 (((acc ++ [92]).length) + 1) c292)) (at_same (((((hz279.put _ _).put _ _).put _ _).put _ _).put _ _) rfl _) ?_)
                  refine V.nil ?_
                  refine V.blk_n ?_
                  refine V.then_n (hK31 _ _ ?_)
                  refine V.flushW (((((((hz279.put _ _).put _ _).put _ _).put _ _).put _ _).put _ _).put _ _) (fun a297 hz298 up299 => ?_)
                  have s0_300 : a297.eval (.tmp 0) = (.string s) := up299 _ _ (at_other rfl _ (at_other rfl _ (at_other rfl _ (at_other rfl _ (at_other rfl _ (at_other rfl _ (at_other rfl _ (s0_281))))))))
                  have s3_301 : a297.eval (.tmp 3) = (.slice A291 (((acc ++ [92]).length) + 1) c292) := up299 _ _ (at_same ((((((hz279.put _ _).put _ _).put _ _).put _ _).put _ _).put _ _) rfl _)
                  have s4_302 : a297.eval (.tmp 4) = (.int .i64 (k : Int)) := up299 _ _ (at_other rfl _ (at_other rfl _ (at_other rfl _ (at_other rfl _ (at_other rfl _ (at_other rfl _ (at_other rfl _ (s4_283))))))))
                  clear up299
                  refine V.region (by kernel_rfl) ?_
                  refine V.go (V.mv (v := (.int .i64 (k : Int))) (s4_302) ?_)
                  refine V.go (V.pvw [(9, .int .i64 (k : Int))] ⟨(at_same hz298 rfl _), trivial⟩ (by kernel_rfl) (.int .i64 (IntKind.i64.wrap ((k : Int) + 1))) (.int .i64 ((k : Int) + 1)) (by kernel_rfl) (V.w_i64 (by omega) (by omega)) ?_)
                  refine V.go (V.asg (v := (.int .i64 ((k : Int) + 1))) (at_same (hz298.put _ _) rfl _) ?_)
                  refine V.nil ?_
                  refine V.then_n ?_
                  refine ⟨k + 1, (acc ++ [92]) ++ [bi s (k : Int)], A291, c292, by omega, ?_⟩
                  refine ⟨(((hz298.put _ _).put _ _).put _ _), ?_, ?_, ?_, (by simpa using hO294), hF_296, (by omega), (by simp; omega), (quote_t (by omega) hf (decide_eq_true (by omega)))⟩
                  · exact (at_other rfl _ (at_other rfl _ (at_other rfl _ (s0_300))))
                  · exact Eq.trans (at_other rfl _ (at_other rfl _ (at_other rfl _ (s3_301)))) (V.sl_eq (by simp))
                  · exact Eq.trans (at_same ((hz298.put _ _).put _ _) rfl _) (V.int_eq (by omega))
                ·
                  refine V.region (by kernel_rfl) ?_
                  refine V.go (V.pvw [(13, .int .u8 (bi s (k : Int)))] ⟨(at_other rfl _ (at_other rfl _ (s13_223))), trivial⟩ (by kernel_rfl) (.bool ((bi s (k : Int)) == 92)) (.bool (decide ((bi s (k : Int)) = 92))) (by kernel_rfl) V.t_eql ?_)
                  refine V.go (V.asg (v := (.bool (decide ((bi s (k : Int)) = 92)))) (at_same ((hz218.put _ _).put _ _) rfl _) ?_)
                  refine V.nil ?_
                  refine V.then_n (hK38 _ _ ?_)
                  refine V.flushW ((((hz218.put _ _).put _ _).put _ _).put _ _) (fun a303 hz304 up305 => ?_)
                  have s0_306 : a303.eval (.tmp 0) = (.string s) := up305 _ _ (at_other rfl _ (at_other rfl _ (at_other rfl _ (at_other rfl _ (s0_220)))))
                  have s3_307 : a303.eval (.tmp 3) = (.slice A acc.length c) := up305 _ _ (at_other rfl _ (at_other rfl _ (at_other rfl _ (at_other rfl _ (s3_221)))))
                  have s4_308 : a303.eval (.tmp 4) = (.int .i64 (k : Int)) := up305 _ _ (at_other rfl _ (at_other rfl _ (at_other rfl _ (at_other rfl _ (s4_222)))))
                  have s14_309 : a303.eval (.tmp 14) = (.bool (decide ((bi s (k : Int)) = 92))) := up305 _ _ (at_same (((hz218.put _ _).put _ _).put _ _) rfl _)
                  clear up305
                  refine V.condP (p := (bi s (k : Int)) = 92) (s14_309) (fun ht310 => ?_) (fun ht310 => ?_)
                  ·
                    refine V.region (by kernel_rfl) ?_
                    refine V.go (V.mv (v := (.slice A acc.length c)) (s3_307) ?_)
                    refine V.go (V.mk [] trivial (by kernel_rfl) [.int .u8 92] 5 (fun b => .slice (some ⟨b, 0, none⟩) 1 1) (by kernel_rfl) ?_)
                    intro w312 b311 heb311 hB313 hF314 hsb311
                    have hO_315 := hO_15.fr0 hF314
                    have hF_316 := hF_16.new hF314
                    refine V.go (V.app (R := (Rp.int .u8)) (ys := ([92])) (news := [.int .u8 92]) (at_other rfl _ (at_same hz304 rfl _)) ⟨b311, 0, none⟩ 1 1 (at_same (hz304.put _ _) rfl _) (by kernel_rfl) (info5) (by kernel_rfl) (by decide) hO_315 rfl ⟨[.int .u8 92], [], rfl, rfl, rfl⟩ (blk_cells hB313 0 _ rfl) (by first | omega | (simp; omega)) (by decide) (by omega) ?_)
                    intro A317 c318 w319 hO320z hF321 hatw319
                    have hsw319 := hF321.size
                    have hF_322 := hF_316.own hF321 (own_ge hO_315 (by omega))
                    have hO320 := hO320z.zone (Z' := NoZ) (fun _ _ q => q.1) (fun _ _ q => q)
                    refine V.go (V.asg (v := (.slice A317 ((acc.length) + 1) c318)) (at_same ((hz304.put _ _).put _ _) rfl _) ?_)
                    refine V.nil ?_
                    refine V.blk_n ?_
                    refine V.then_n (hK33 _ _ ?_)
                    refine V.flushW ((((hz304.put _ _).put _ _).put _ _).put _ _) (fun a323 hz324 up325 => ?_)
                    have s0_326 : a323.eval (.tmp 0) = (.string s) := up325 _ _ (at_other rfl _ (at_other rfl _ (at_other rfl _ (at_other rfl _ (s0_306)))))
                    have s3_327 : a323.eval (.tmp 3) = (.slice A317 ((acc.length) + 1) c318) := up325 _ _ (at_same (((hz304.put _ _).put _ _).put _ _) rfl _)
                    have s4_328 : a323.eval (.tmp 4) = (.int .i64 (k : Int)) := up325 _ _ (at_other rfl _ (at_other rfl _ (at_other rfl _ (at_other rfl _ (s4_308)))))
                    clear up325
                    refine V.region (by kernel_rfl) ?_
                    refine V.go (V.mv (v := (.slice A317 ((acc.length) + 1) c318)) (s3_327) ?_)
                    refine V.go (V.mv (v := (.string s)) (at_other rfl _ (s0_326)) ?_)
                    refine V.go (V.mv (v := (.int .i64 (k : Int))) (at_other rfl _ (at_other rfl _ (s4_328))) ?_)
                    refine V.go (V.ixs s .i64 (k : Int) (at_other rfl _ (at_same (hz324.put _ _) rfl _)) (at_same ((hz324.put _ _).put _ _) rfl _) (by omega) (by omega) (by kernel_rfl) ?_)
                    have hb329 := byt_lt s (k : Int)
                    refine V.go (V.mk [(28, .int .u8 (bi s (k : Int)))] ⟨(at_same (((hz324.put _ _).put _ _).put _ _) rfl _), trivial⟩ (by kernel_rfl) [.int .u8 (bi s (k : Int))] 5 (fun b => .slice (some ⟨b, 0, none⟩) 1 1) (by kernel_rfl) ?_)
                    intro w331 b330 heb330 hB332 hF333 hsb330
                    have hF_334 := hF_322.new hF333
                    have hO320_335 := hO320.fr0 hF333
                    refine V.go (V.app (R := (Rp.int .u8)) (ys := ([bi s (k : Int)])) (news := [.int .u8 (bi s (k : Int))]) (at_other rfl _ (at_other rfl _ (at_other rfl _ (at_other rfl _ (at_same hz324 rfl _))))) ⟨b330, 0, none⟩ 1 1 (at_same ((((hz324.put _ _).put _ _).put _ _).put _ _) rfl _) (by kernel_rfl) (info5) (by kernel_rfl) (by decide) hO320_335 rfl ⟨[.int .u8 (bi s (k : Int))], [], rfl, rfl, rfl⟩ (blk_cells hB332 0 _ rfl) (by first | omega | (simp; omega)) (by decide) (by omega) ?_)
                    intro A336 c337 w338 hO339z hF340 hatw338
                    have hsw338 := hF340.size
                    have hF_341 := hF_334.own hF340 (own_ge hO320_335 (by omega))
                    have hO339 := hO339z.zone (Z' := NoZ) (fun _ _ q => q.1) (fun _ _ q => q)
                    refine V.go (V.asg (v := (.slice A336 (((acc ++ [92]).length) + 1) c337)) (at_same (((((hz324.put _ _).put _ _).put _ _).put _ _).put _ _) rfl _) ?_)
                    refine V.nil ?_
                    refine V.blk_n ?_
                    refine V.then_n (hK31 _ _ ?_)
                    refine V.flushW (((((((hz324.put _ _).put _ _).put _ _).put _ _).put _ _).put _ _).put _ _) (fun a342 hz343 up344 => ?_)
                    have s0_345 : a342.eval (.tmp 0) = (.string s) := up344 _ _ (at_other rfl _ (at_other rfl _ (at_other rfl _ (at_other rfl _ (at_other rfl _ (at_other rfl _ (at_other rfl _ (s0_326))))))))
                    have s3_346 : a342.eval (.tmp 3) = (.slice A336 (((acc ++ [92]).length) + 1) c337) := up344 _ _ (at_same ((((((hz324.put _ _).put _ _).put _ _).put _ _).put _ _).put _ _) rfl _)
                    have s4_347 : a342.eval (.tmp 4) = (.int .i64 (k : Int)) := up344 _ _ (at_other rfl _ (at_other rfl _ (at_other rfl _ (at_other rfl _ (at_other rfl _ (at_other rfl _ (at_other rfl _ (s4_328))))))))
                    clear up344
                    refine V.region (by kernel_rfl) ?_
                    refine V.go (V.mv (v := (.int .i64 (k : Int))) (s4_347) ?_)
                    refine V.go (V.pvw [(9, .int .i64 (k : Int))] ⟨(at_same hz343 rfl _), trivial⟩ (by kernel_rfl) (.int .i64 (IntKind.i64.wrap ((k : Int) + 1))) (.int .i64 ((k : Int) + 1)) (by kernel_rfl) (V.w_i64 (by omega) (by omega)) ?_)
                    refine V.go (V.asg (v := (.int .i64 ((k : Int) + 1))) (at_same (hz343.put _ _) rfl _) ?_)
                    refine V.nil ?_
                    refine V.then_n ?_
                    refine ⟨k + 1, (acc ++ [92]) ++ [bi s (k : Int)], A336, c337, by omega, ?_⟩
                    refine ⟨(((hz343.put _ _).put _ _).put _ _), ?_, ?_, ?_, (by simpa using hO339), hF_341, (by omega), (by simp; omega), (quote_t (by omega) hf (decide_eq_true (by omega)))⟩
                    · exact (at_other rfl _ (at_other rfl _ (at_other rfl _ (s0_345))))
                    · exact Eq.trans (at_other rfl _ (at_other rfl _ (at_other rfl _ (s3_346)))) (V.sl_eq (by simp))
                    · exact Eq.trans (at_same ((hz343.put _ _).put _ _) rfl _) (V.int_eq (by omega))
                  ·
                    refine V.skip ?_
                    refine V.blk_n ?_
                    refine V.then_n (hK33 _ _ ?_)
                    refine V.region (by kernel_rfl) ?_
                    refine V.go (V.mv (v := (.slice A acc.length c)) (s3_307) ?_)
                    refine V.go (V.mv (v := (.string s)) (at_other rfl _ (s0_306)) ?_)
                    refine V.go (V.mv (v := (.int .i64 (k : Int))) (at_other rfl _ (at_other rfl _ (s4_308))) ?_)
                    refine V.go (V.ixs s .i64 (k : Int) (at_other rfl _ (at_same (hz304.put _ _) rfl _)) (at_same ((hz304.put _ _).put _ _) rfl _) (by omega) (by omega) (by kernel_rfl) ?_)
                    have hb348 := byt_lt s (k : Int)
                    refine V.go (V.mk [(28, .int .u8 (bi s (k : Int)))] ⟨(at_same (((hz304.put _ _).put _ _).put _ _) rfl _), trivial⟩ (by kernel_rfl) [.int .u8 (bi s (k : Int))] 5 (fun b => .slice (some ⟨b, 0, none⟩) 1 1) (by kernel_rfl) ?_)
                    intro w350 b349 heb349 hB351 hF352 hsb349
                    have hO_353 := hO_15.fr0 hF352
                    have hF_354 := hF_16.new hF352
                    refine V.go (V.app (R := (Rp.int .u8)) (ys := ([bi s (k : Int)])) (news := [.int .u8 (bi s (k : Int))]) (at_other rfl _ (at_other rfl _ (at_other rfl _ (at_other rfl _ (at_same hz304 rfl _))))) ⟨b349, 0, none⟩ 1 1 (at_same ((((hz304.put _ _).put _ _).put _ _).put _ _) rfl _) (by kernel_rfl) (info5) (by kernel_rfl) (by decide) hO_353 rfl ⟨[.int .u8 (bi s (k : Int))], [], rfl, rfl, rfl⟩ (blk_cells hB351 0 _ rfl) (by first | omega | (simp; omega)) (by decide) (by omega) ?_)
                    intro A355 c356 w357 hO358z hF359 hatw357
                    have hsw357 := hF359.size
                    have hF_360 := hF_354.own hF359 (own_ge hO_353 (by omega))
                    have hO358 := hO358z.zone (Z' := NoZ) (fun _ _ q => q.1) (fun _ _ q => q)
                    refine V.go (V.asg (v := (.slice A355 ((acc.length) + 1) c356)) (at_same (((((hz304.put _ _).put _ _).put _ _).put _ _).put _ _) rfl _) ?_)
                    refine V.nil ?_
                    refine V.blk_n ?_
                    refine V.then_n (hK31 _ _ ?_)
                    refine V.flushW (((((((hz304.put _ _).put _ _).put _ _).put _ _).put _ _).put _ _).put _ _) (fun a361 hz362 up363 => ?_)
                    have s0_364 : a361.eval (.tmp 0) = (.string s) := up363 _ _ (at_other rfl _ (at_other rfl _ (at_other rfl _ (at_other rfl _ (at_other rfl _ (at_other rfl _ (at_other rfl _ (s0_306))))))))
                    have s3_365 : a361.eval (.tmp 3) = (.slice A355 ((acc.length) + 1) c356) := up363 _ _ (at_same ((((((hz304.put _ _).put _ _).put _ _).put _ _).put _ _).put _ _) rfl _)
                    have s4_366 : a361.eval (.tmp 4) = (.int .i64 (k : Int)) := up363 _ _ (at_other rfl _ (at_other rfl _ (at_other rfl _ (at_other rfl _ (at_other rfl _ (at_other rfl _ (at_other rfl _ (s4_308))))))))
                    clear up363
                    refine V.region (by kernel_rfl) ?_
                    refine V.go (V.mv (v := (.int .i64 (k : Int))) (s4_366) ?_)
                    refine V.go (V.pvw [(9, .int .i64 (k : Int))] ⟨(at_same hz362 rfl _), trivial⟩ (by kernel_rfl) (.int .i64 (IntKind.i64.wrap ((k : Int) + 1))) (.int .i64 ((k : Int) + 1)) (by kernel_rfl) (V.w_i64 (by omega) (by omega)) ?_)
                    refine V.go (V.asg (v := (.int .i64 ((k : Int) + 1))) (at_same (hz362.put _ _) rfl _) ?_)
                    refine V.nil ?_
                    refine V.then_n ?_
                    refine ⟨k + 1, acc ++ [bi s (k : Int)], A355, c356, by omega, ?_⟩
                    refine ⟨(((hz362.put _ _).put _ _).put _ _), ?_, ?_, ?_, (by simpa using hO358), hF_360, (by omega), (by simp; omega), (quote_f (by omega) hf (decide_eq_false (by omega)))⟩
                    · exact (at_other rfl _ (at_other rfl _ (at_other rfl _ (s0_364))))
                    · exact Eq.trans (at_other rfl _ (at_other rfl _ (at_other rfl _ (s3_365)))) (V.sl_eq (by simp))
                    · exact Eq.trans (at_same ((hz362.put _ _).put _ _) rfl _) (V.int_eq (by omega))
    ·
      refine V.exit ?_
      refine V.then_e ?_
      refine V.then_e ?_
      refine V.blk_hit ?_
      refine V.then_n (hK6 _ _ ?_)
      refine V.seq (fun K367 hK368 => ?_)
      refine V.region (by kernel_rfl) ?_
      refine V.go (V.mv (v := (.slice A acc.length c)) (s3_26) ?_)
      refine V.go (V.b2s (e := 5) (xs := acc) (hO_15.read (Z' := fun _ => True) (fun _ _ _ => trivial) (fun _ _ _ => trivial)) (by kernel_rfl) (by kernel_rfl) (by kernel_rfl) (at_same hz23 rfl _) ?_)
      refine V.go (V.asg (v := (.string (strI acc))) (at_same (hz23.put _ _) rfl _) ?_)
      refine V.nil ?_
      refine V.then_n (hK368 _ _ ?_)
      refine V.ret ?_
      refine V.ret1 (((hz23.put _ _).put _ _).put _ _) rfl (at_same ((hz23.put _ _).put _ _) rfl _) ?_
      rw [List.take_of_length_le (by rw [ints_length]; omega)] at hf
      exact ⟨by rw [← hf]; rfl, hF_16⟩
set_option maxHeartbeats 4000000 in
set_option maxRecDepth 20000 in
theorem quote_any (w : World) (s : ByteArray) (hs : s.size ≤ 1048576) : Calls Try.prog 24 #[.string s] w (fun e w' => e = .returned (.string (quoteS s)) ∧ Fr [] w w') := by
  have hF := Fr.refl [] w
  refine V.enter 22 Try.func24 rfl rfl ?_
  intro a hz ha
  have s0 : a.eval (.tmp 0) = (.string s) := ha 0 _ rfl
  clear ha
  refine V.seq (fun K1 hK2 => ?_)
  refine V.region (by kernel_rfl) ?_
  refine V.go (V.asg (v := (.string ⟨#[]⟩)) evc ?_)
  refine V.nil ?_
  refine V.then_n (hK2 _ _ ?_)
  refine V.seq (fun K3 hK4 => ?_)
  refine V.region (by kernel_rfl) ?_
  refine V.go (V.mk [] trivial (by kernel_rfl) [.pointer none, .slice none 0 0] 59 (fun b => .pointer (some ⟨b, 0, none⟩)) (by kernel_rfl) ?_)
  intro w6 b5 heb5 hB7 hF8 hsb5
  have hF_9 := hF.new hF8
  refine V.nil ?_
  refine V.then_n (hK4 _ _ ?_)
  refine V.seq (fun K10 hK11 => ?_)
  refine V.seq (fun K12 hK13 => ?_)
  refine V.region (by kernel_rfl) ?_
  refine V.go (V.mv (v := (.string s)) (at_other rfl _ (at_other rfl _ (s0))) ?_)
  refine V.go (V.pv [(5, .string s)] ⟨(at_same ((hz.put _ _).put _ _) rfl _), trivial⟩ (by kernel_rfl) (.int .i64 (s.size : Int)) (by kernel_rfl) ?_)
  refine V.go (V.mv (v := (.int .i64 0)) evc ?_)
  refine V.nil ?_
  refine V.then_n (hK13 _ _ ?_)
  refine V.flushW (((((hz.put _ _).put _ _).put _ _).put _ _).put _ _) (fun a14 hz15 up16 => ?_)
  have s0_17 : a14.eval (.tmp 0) = (.string s) := up16 _ _ (at_other rfl _ (at_other rfl _ (at_other rfl _ (at_other rfl _ (at_other rfl _ (s0))))))
  have s3_18 : a14.eval (.tmp 3) = (.pointer (some ⟨b5, 0, none⟩)) := up16 _ _ (at_other rfl _ (at_other rfl _ (at_other rfl _ (at_same (hz.put _ _) rfl _))))
  have s6_19 : a14.eval (.tmp 6) = (.int .i64 (s.size : Int)) := up16 _ _ (at_other rfl _ (at_same (((hz.put _ _).put _ _).put _ _) rfl _))
  have s7_20 : a14.eval (.tmp 7) = (.int .i64 0) := up16 _ _ (at_same ((((hz.put _ _).put _ _).put _ _).put _ _) rfl _)
  clear up16
  refine V.block ?_
  have hO0 := OwR.nil (Rp.int .u8) NoZ w6 (b5 + 1) 5
  refine V.loop5 (fun (k : Nat) (pv : Value) (acc : List Int) (A : Option Addr) (c : Nat) a_ w_ => Sz 22 a_ ∧ a_.eval (.tmp 0) = (.string s) ∧ a_.eval (.tmp 3) = (.pointer (some ⟨b5, 0, none⟩)) ∧ a_.eval (.tmp 6) = (.int .i64 (s.size : Int)) ∧ a_.eval (.tmp 7) = (.int .i64 (k : Int)) ∧ Blk w_ b5 [pv, .slice A acc.length c] 59 ∧ OwR (Rp.int .u8) NoZ w_ (b5 + 1) 5 (.slice A acc.length c) acc ∧ Fr [] w w_ ∧ (k ≤ s.size) ∧ (acc.length ≤ 2 * k) ∧ (quoteI ((ints s).take k) = acc) ∧ (pv = .pointer none ∨ pv = .pointer (some ⟨b5, 0, none⟩))) (fun (k : Nat) (pv : Value) (acc : List Int) (A : Option Addr) (c : Nat) => s.size - k) 0 (.pointer none) ([]) none 0 ?_ ?_
  ·
    refine ⟨hz15, ?_, ?_, ?_, ?_, hB7, hO0, hF_9, (by omega), (by simp), (by simp [quoteI]), (.inl rfl)⟩
    · exact (s0_17)
    · exact (s3_18)
    · exact Eq.trans (s6_19) (V.int_eq (by omega))
    · exact Eq.trans (s7_20) (V.int_eq (by omega))
  ·
    rintro k pv acc A c a21 w22 ⟨hz23, s0_24, s3_25, s6_26, s7_27, hB_28, hO_29, hF_30, hk, hacc, hf, hp⟩
    have hlt31 := hB_28.lt
    have hfs32 := hF_30.size
    have hixl := ixI_lo (bi s (k : Int))
    refine V.seq (fun K33 hK34 => ?_)
    refine V.region (by kernel_rfl) ?_
    refine V.go (V.pv [(7, .int .i64 (k : Int)), (6, .int .i64 (s.size : Int))] ⟨(s7_27), (s6_26), trivial⟩ (by kernel_rfl) (.bool (decide ((k : Int) < (s.size : Int)))) (by kernel_rfl) ?_)
    refine V.nil ?_
    refine V.then_n (hK34 _ _ ?_)
    refine V.seq (fun K35 hK36 => ?_)
    refine V.condP (p := (k : Int) < (s.size : Int)) (at_same hz23 rfl _) (fun ht37 => ?_) (fun ht37 => ?_)
    ·
      refine V.skip ?_
      refine V.then_n (hK36 _ _ ?_)
      refine V.seq (fun K38 hK39 => ?_)
      refine V.block ?_
      refine V.seq (fun K40 hK41 => ?_)
      refine V.region (by kernel_rfl) ?_
      refine V.go (V.mv (v := (.int .i64 (k : Int))) (at_other rfl _ (s7_27)) ?_)
      refine V.go (V.asg (v := (.int .i64 (k : Int))) (at_same (hz23.put _ _) rfl _) ?_)
      refine V.nil ?_
      refine V.then_n (hK41 _ _ ?_)
      refine V.seq (fun K42 hK43 => ?_)
      refine V.seq (fun K44 hK45 => ?_)
      refine V.region (by kernel_rfl) ?_
      refine V.go (V.mv (v := (.string s)) (at_other rfl _ (at_other rfl _ (at_other rfl _ (s0_24)))) ?_)
      refine V.go (V.mv (v := (.int .i64 (k : Int))) (at_other rfl _ (at_same ((hz23.put _ _).put _ _) rfl _)) ?_)
      refine V.go (V.ixs s .i64 (k : Int) (at_other rfl _ (at_same (((hz23.put _ _).put _ _).put _ _) rfl _)) (at_same ((((hz23.put _ _).put _ _).put _ _).put _ _) rfl _) (by omega) (by omega) (by kernel_rfl) ?_)
      have hb46 := byt_lt s (k : Int)
      refine V.go (V.call 31 #[] #[.string ⟨#[42, 63, 91, 93, 94, 45, 92]⟩, .int .u8 (bi s (k : Int))] evf (args2 evc (at_same (((((hz23.put _ _).put _ _).put _ _).put _ _).put _ _) rfl _)) (Go.Proofs.enters_of Try.func31 (by kernel_rfl) rfl) ((Try.strings_IndexByte ⟨#[42, 63, 91, 93, 94, 45, 92]⟩ (bi s (k : Int)) w22).mono (fun e w1 h => (⟨h.1, h.2.symm⟩ : e = Ending.returned (.int .i64 (ixI (bi s (k : Int)))) ∧ w22 = w1))) ?_)
      rintro _ _ ⟨rfl, rfl⟩
      refine ⟨_, rfl, ?_⟩
      refine V.go (V.pv [(13, .int .i64 (ixI (bi s (k : Int))))] ⟨(at_same ((((((hz23.put _ _).put _ _).put _ _).put _ _).put _ _).put _ _) rfl _), trivial⟩ (by kernel_rfl) (.bool (decide ((ixI (bi s (k : Int))) ≥ 0))) (by kernel_rfl) ?_)
      refine V.nil ?_
      refine V.then_n (hK45 _ _ ?_)
      refine V.flushW ((((((((hz23.put _ _).put _ _).put _ _).put _ _).put _ _).put _ _).put _ _).put _ _) (fun a47 hz48 up49 => ?_)
      have s0_50 : a47.eval (.tmp 0) = (.string s) := up49 _ _ (at_other rfl _ (at_other rfl _ (at_other rfl _ (at_other rfl _ (at_other rfl _ (at_other rfl _ (at_other rfl _ (at_other rfl _ (s0_24)))))))))
      have s3_51 : a47.eval (.tmp 3) = (.pointer (some ⟨b5, 0, none⟩)) := up49 _ _ (at_other rfl _ (at_other rfl _ (at_other rfl _ (at_other rfl _ (at_other rfl _ (at_other rfl _ (at_other rfl _ (at_other rfl _ (s3_25)))))))))
      have s4_52 : a47.eval (.tmp 4) = (.int .i64 (k : Int)) := up49 _ _ (at_other rfl _ (at_other rfl _ (at_other rfl _ (at_other rfl _ (at_other rfl _ (at_same ((hz23.put _ _).put _ _) rfl _))))))
      have s6_53 : a47.eval (.tmp 6) = (.int .i64 (s.size : Int)) := up49 _ _ (at_other rfl _ (at_other rfl _ (at_other rfl _ (at_other rfl _ (at_other rfl _ (at_other rfl _ (at_other rfl _ (at_other rfl _ (s6_26)))))))))
      have s7_54 : a47.eval (.tmp 7) = (.int .i64 (k : Int)) := up49 _ _ (at_other rfl _ (at_other rfl _ (at_other rfl _ (at_other rfl _ (at_other rfl _ (at_other rfl _ (at_other rfl _ (at_other rfl _ (s7_27)))))))))
      have s14_55 : a47.eval (.tmp 14) = (.bool (decide ((ixI (bi s (k : Int))) ≥ 0))) := up49 _ _ (at_same (((((((hz23.put _ _).put _ _).put _ _).put _ _).put _ _).put _ _).put _ _) rfl _)
      clear up49
      refine V.condP (p := (ixI (bi s (k : Int))) ≥ 0) (s14_55) (fun ht56 => ?_) (fun ht56 => ?_)
      ·
        refine V.region (by kernel_rfl) ?_
        refine V.go (V.call 32 #[] #[.pointer (some ⟨b5, 0, none⟩), .int .u8 92] evf (args2 (s3_51) evc) (Go.Proofs.enters_of Try.func32 (by kernel_rfl) rfl) (wbyte_any w22 b5 _ hp A c acc 92 (by simpa using hB_28) (by simpa using hO_29) (by first | omega | (simp; omega))) ?_)
        rintro _ w62 ⟨A57, c58, rfl, hB59, hO60, hL61⟩
        refine ⟨_, rfl, ?_⟩
        have hsw62 := hL61.size
        have hF_63 := Fr.bel hF_30 hL61 (by omega)
        refine V.nil ?_
        refine V.then_n (hK43 _ _ ?_)
        refine V.region (by kernel_rfl) ?_
        refine V.go (V.mv (v := (.string s)) (at_other rfl _ (s0_50)) ?_)
        refine V.go (V.mv (v := (.int .i64 (k : Int))) (at_other rfl _ (at_other rfl _ (s4_52))) ?_)
        refine V.go (V.ixs s .i64 (k : Int) (at_other rfl _ (at_same (hz48.put _ _) rfl _)) (at_same ((hz48.put _ _).put _ _) rfl _) (by omega) (by omega) (by kernel_rfl) ?_)
        have hb64 := byt_lt s (k : Int)
        refine V.go (V.call 32 #[] #[.pointer (some ⟨b5, 0, none⟩), .int .u8 (bi s (k : Int))] evf (args2 (at_other rfl _ (at_other rfl _ (at_other rfl _ (at_other rfl _ (s3_51))))) (at_same (((hz48.put _ _).put _ _).put _ _) rfl _)) (Go.Proofs.enters_of Try.func32 (by kernel_rfl) rfl) (wbyte_any w62 b5 _ (.inr rfl) A57 c58 (acc ++ [92]) (bi s (k : Int)) (by simpa using hB59) (by simpa using hO60) (by first | omega | (simp; omega))) ?_)
        rintro _ w70 ⟨A65, c66, rfl, hB67, hO68, hL69⟩
        refine ⟨_, rfl, ?_⟩
        have hsw70 := hL69.size
        have hF_71 := Fr.bel hF_63 hL69 (by omega)
        refine V.nil ?_
        refine V.blk_n ?_
        refine V.then_n (hK39 _ _ ?_)
        refine V.flushW (((((hz48.put _ _).put _ _).put _ _).put _ _).put _ _) (fun a72 hz73 up74 => ?_)
        have s0_75 : a72.eval (.tmp 0) = (.string s) := up74 _ _ (at_other rfl _ (at_other rfl _ (at_other rfl _ (at_other rfl _ (at_other rfl _ (s0_50))))))
        have s3_76 : a72.eval (.tmp 3) = (.pointer (some ⟨b5, 0, none⟩)) := up74 _ _ (at_other rfl _ (at_other rfl _ (at_other rfl _ (at_other rfl _ (at_other rfl _ (s3_51))))))
        have s6_77 : a72.eval (.tmp 6) = (.int .i64 (s.size : Int)) := up74 _ _ (at_other rfl _ (at_other rfl _ (at_other rfl _ (at_other rfl _ (at_other rfl _ (s6_53))))))
        have s7_78 : a72.eval (.tmp 7) = (.int .i64 (k : Int)) := up74 _ _ (at_other rfl _ (at_other rfl _ (at_other rfl _ (at_other rfl _ (at_other rfl _ (s7_54))))))
        clear up74
        refine V.region (by kernel_rfl) ?_
        refine V.go (V.pvw [(7, .int .i64 (k : Int))] ⟨(s7_78), trivial⟩ (by kernel_rfl) (.int .i64 (IntKind.i64.wrap ((k : Int) + 1))) (.int .i64 ((k : Int) + 1)) (by kernel_rfl) (V.w_i64 (by omega) (by omega)) ?_)
        refine V.go (V.mv (v := (.int .i64 ((k : Int) + 1))) (at_same hz73 rfl _) ?_)
        refine V.nil ?_
        refine V.then_n ?_
        refine ⟨k + 1, (.pointer (some ⟨b5, 0, none⟩)), acc ++ [92] ++ [(bi s (k : Int))], A65, c66, by omega, ?_⟩
        refine ⟨((hz73.put _ _).put _ _), ?_, ?_, ?_, ?_, (by simpa using hB67), (by simpa using hO68), hF_71, (by omega), (by simp; omega), (quote_t (by omega) hf ((ixI_iff (byt_lt _ _).1 (byt_lt _ _).2).1 ht56)), (.inr rfl)⟩
        · exact (at_other rfl _ (at_other rfl _ (s0_75)))
        · exact (at_other rfl _ (at_other rfl _ (s3_76)))
        · exact Eq.trans (at_other rfl _ (at_other rfl _ (s6_77))) (V.int_eq (by omega))
        · exact Eq.trans (at_same (hz73.put _ _) rfl _) (V.int_eq (by omega))
      ·
        refine V.skip ?_
        refine V.then_n (hK43 _ _ ?_)
        refine V.region (by kernel_rfl) ?_
        refine V.go (V.mv (v := (.string s)) (s0_50) ?_)
        refine V.go (V.mv (v := (.int .i64 (k : Int))) (at_other rfl _ (s4_52)) ?_)
        refine V.go (V.ixs s .i64 (k : Int) (at_other rfl _ (at_same hz48 rfl _)) (at_same (hz48.put _ _) rfl _) (by omega) (by omega) (by kernel_rfl) ?_)
        have hb79 := byt_lt s (k : Int)
        refine V.go (V.call 32 #[] #[.pointer (some ⟨b5, 0, none⟩), .int .u8 (bi s (k : Int))] evf (args2 (at_other rfl _ (at_other rfl _ (at_other rfl _ (s3_51)))) (at_same ((hz48.put _ _).put _ _) rfl _)) (Go.Proofs.enters_of Try.func32 (by kernel_rfl) rfl) (wbyte_any w22 b5 _ hp A c acc (bi s (k : Int)) (by simpa using hB_28) (by simpa using hO_29) (by first | omega | (simp; omega))) ?_)
        rintro _ w85 ⟨A80, c81, rfl, hB82, hO83, hL84⟩
        refine ⟨_, rfl, ?_⟩
        have hsw85 := hL84.size
        have hF_86 := Fr.bel hF_30 hL84 (by omega)
        refine V.nil ?_
        refine V.blk_n ?_
        refine V.then_n (hK39 _ _ ?_)
        refine V.flushW ((((hz48.put _ _).put _ _).put _ _).put _ _) (fun a87 hz88 up89 => ?_)
        have s0_90 : a87.eval (.tmp 0) = (.string s) := up89 _ _ (at_other rfl _ (at_other rfl _ (at_other rfl _ (at_other rfl _ (s0_50)))))
        have s3_91 : a87.eval (.tmp 3) = (.pointer (some ⟨b5, 0, none⟩)) := up89 _ _ (at_other rfl _ (at_other rfl _ (at_other rfl _ (at_other rfl _ (s3_51)))))
        have s6_92 : a87.eval (.tmp 6) = (.int .i64 (s.size : Int)) := up89 _ _ (at_other rfl _ (at_other rfl _ (at_other rfl _ (at_other rfl _ (s6_53)))))
        have s7_93 : a87.eval (.tmp 7) = (.int .i64 (k : Int)) := up89 _ _ (at_other rfl _ (at_other rfl _ (at_other rfl _ (at_other rfl _ (s7_54)))))
        clear up89
        refine V.region (by kernel_rfl) ?_
        refine V.go (V.pvw [(7, .int .i64 (k : Int))] ⟨(s7_93), trivial⟩ (by kernel_rfl) (.int .i64 (IntKind.i64.wrap ((k : Int) + 1))) (.int .i64 ((k : Int) + 1)) (by kernel_rfl) (V.w_i64 (by omega) (by omega)) ?_)
        refine V.go (V.mv (v := (.int .i64 ((k : Int) + 1))) (at_same hz88 rfl _) ?_)
        refine V.nil ?_
        refine V.then_n ?_
        refine ⟨k + 1, (.pointer (some ⟨b5, 0, none⟩)), acc ++ [(bi s (k : Int))], A80, c81, by omega, ?_⟩
        refine ⟨((hz88.put _ _).put _ _), ?_, ?_, ?_, ?_, (by simpa using hB82), (by simpa using hO83), hF_86, (by omega), (by simp; omega), (quote_f (by omega) hf (Bool.not_eq_true _ ▸ (fun h => ht56 ((ixI_iff (byt_lt _ _).1 (byt_lt _ _).2).2 h)))), (.inr rfl)⟩
        · exact (at_other rfl _ (at_other rfl _ (s0_90)))
        · exact (at_other rfl _ (at_other rfl _ (s3_91)))
        · exact Eq.trans (at_other rfl _ (at_other rfl _ (s6_92))) (V.int_eq (by omega))
        · exact Eq.trans (at_same (hz88.put _ _) rfl _) (V.int_eq (by omega))
    ·
      refine V.exit ?_
      refine V.then_e ?_
      refine V.then_e ?_
      refine V.blk_hit ?_
      refine V.then_n (hK11 _ _ ?_)
      refine V.seq (fun K94 hK95 => ?_)
      refine V.region (by kernel_rfl) ?_
      refine V.go (V.call 33 #[] #[.pointer (some ⟨b5, 0, none⟩)] evf (args1 (at_other rfl _ (s3_25))) (Go.Proofs.enters_of Try.func33 (by kernel_rfl) rfl) (bstring_any w22 b5 _ _ (acc) hB_28 hp hO_29 (by rw [← hf]; exact quoteI_bytes (fun x hx => ints_bytes s x (List.mem_of_mem_take hx)))) ?_)
      rintro _ w97 ⟨rfl, hL96⟩
      refine ⟨_, rfl, ?_⟩
      have hsw97 := hL96.size
      have hF_98 := Fr.bel hF_30 hL96 (by omega)
      refine V.go (V.asg (v := (.string (strI (acc)))) (at_same (hz23.put _ _) rfl _) ?_)
      refine V.nil ?_
      refine V.then_n (hK95 _ _ ?_)
      refine V.ret ?_
      refine V.ret1 (((hz23.put _ _).put _ _).put _ _) rfl (at_same ((hz23.put _ _).put _ _) rfl _) ?_
      rw [List.take_of_length_le (by rw [ints_length]; omega)] at hf
      exact ⟨by rw [← hf]; rfl, hF_98⟩
set_option maxHeartbeats 4000000 in
set_option maxRecDepth 20000 in
theorem globQuotes_any (w : World) (s other : ByteArray) : Calls Try.prog 8 #[.string s, .string other] w (fun e w' => e = .returned (.bool true) ∧ Fr [] w w') := by
  have hF := Fr.refl [] w
  refine V.enter 47 Try.func8 rfl rfl ?_
  intro a hz ha
  have s0 : a.eval (.tmp 0) = (.string s) := ha 0 _ rfl
  have s1 : a.eval (.tmp 1) = (.string other) := ha 1 _ rfl
  clear ha
  refine V.seq (fun K1 hK2 => ?_)
  refine V.region (by kernel_rfl) ?_
  refine V.go (V.asg (v := (.bool false)) evc ?_)
  refine V.nil ?_
  refine V.then_n (hK2 _ _ ?_)
  refine V.seq (fun K3 hK4 => ?_)
  refine V.seq (fun K5 hK6 => ?_)
  refine V.region (by kernel_rfl) ?_
  refine V.go (V.call 12 #[] #[] evf (args0) (Go.Proofs.enters_of Try.func12 (by kernel_rfl) rfl) (awake_any w) ?_)
  rintro _ w8 ⟨rfl, hF7⟩
  refine ⟨_, rfl, ?_⟩
  have hsw8 := hF7.size
  have hF_9 := hF.new hF7
  refine V.go (V.pv [(8, .bool true)] ⟨(at_same (hz.put _ _) rfl _), trivial⟩ (by kernel_rfl) (.bool false) (by kernel_rfl) ?_)
  refine V.nil ?_
  refine V.then_n (hK6 _ _ ?_)
  refine V.cond_f (at_same ((hz.put _ _).put _ _) rfl _) ?_
  refine V.skip ?_
  refine V.then_n (hK4 _ _ ?_)
  refine V.seq (fun K10 hK11 => ?_)
  refine V.region (by kernel_rfl) ?_
  refine V.go (V.mv (v := (.string s)) (at_other rfl _ (at_other rfl _ (at_other rfl _ (s0)))) ?_)
  refine V.go (V.call 9 #[] #[.string s] evf (args1 (at_same (((hz.put _ _).put _ _).put _ _) rfl _)) (Go.Proofs.enters_of Try.func9 (by kernel_rfl) rfl) (cut_any w8 s) ?_)
  rintro _ w13 ⟨rfl, hF12⟩
  refine ⟨_, rfl, ?_⟩
  have hsw13 := hF12.size
  have hF_14 := hF_9.new hF12
  have hcut12 := cutS_le s
  refine V.go (V.mv (v := (.string other)) (at_other rfl _ (at_other rfl _ (at_other rfl _ (at_other rfl _ (at_other rfl _ (s1)))))) ?_)
  refine V.go (V.call 9 #[] #[.string other] evf (args1 (at_same (((((hz.put _ _).put _ _).put _ _).put _ _).put _ _) rfl _)) (Go.Proofs.enters_of Try.func9 (by kernel_rfl) rfl) (cut_any w13 other) ?_)
  rintro _ w16 ⟨rfl, hF15⟩
  refine ⟨_, rfl, ?_⟩
  have hsw16 := hF15.size
  have hF_17 := hF_14.new hF15
  have hcut15 := cutS_le other
  refine V.go (V.asg (v := (.string (cutS s))) (at_other rfl _ (at_other rfl _ (at_same ((((hz.put _ _).put _ _).put _ _).put _ _) rfl _))) ?_)
  refine V.go (V.asg (v := (.string (cutS other))) (at_other rfl _ (at_same ((((((hz.put _ _).put _ _).put _ _).put _ _).put _ _).put _ _) rfl _)) ?_)
  refine V.nil ?_
  refine V.then_n (hK11 _ _ ?_)
  refine V.flushW (((((((((hz.put _ _).put _ _).put _ _).put _ _).put _ _).put _ _).put _ _).put _ _).put _ _) (fun a18 hz19 up20 => ?_)
  have s0_21 : a18.eval (.tmp 0) = (.string (cutS s)) := up20 _ _ (at_other rfl _ (at_same (((((((hz.put _ _).put _ _).put _ _).put _ _).put _ _).put _ _).put _ _) rfl _))
  have s1_22 : a18.eval (.tmp 1) = (.string (cutS other)) := up20 _ _ (at_same ((((((((hz.put _ _).put _ _).put _ _).put _ _).put _ _).put _ _).put _ _).put _ _) rfl _)
  clear up20
  refine V.seq (fun K23 hK24 => ?_)
  refine V.region (by kernel_rfl) ?_
  refine V.go (V.mv (v := (.string (cutS s))) (s0_21) ?_)
  refine V.go (V.call 24 #[] #[.string (cutS s)] evf (args1 (at_same hz19 rfl _)) (Go.Proofs.enters_of Try.func24 (by kernel_rfl) rfl) (quote_any w16 (cutS s) (by omega)) ?_)
  rintro _ w26 ⟨rfl, hF25⟩
  refine ⟨_, rfl, ?_⟩
  have hsw26 := hF25.size
  have hF_27 := hF_17.new hF25
  refine V.go (V.asg (v := (.string (quoteS (cutS s)))) (at_same (hz19.put _ _) rfl _) ?_)
  refine V.nil ?_
  refine V.then_n (hK24 _ _ ?_)
  refine V.seq (fun K28 hK29 => ?_)
  refine V.region (by kernel_rfl) ?_
  refine V.go (V.mv (v := (.string (quoteS (cutS s)))) (at_same ((hz19.put _ _).put _ _) rfl _) ?_)
  refine V.go (V.call 18 #[] #[.string (quoteS (cutS s))] evf (args1 (at_same (((hz19.put _ _).put _ _).put _ _) rfl _)) (Go.Proofs.enters_of Try.func18 (by kernel_rfl) rfl) ((by have h := plain_any w26 (quoteS (cutS s)) (by have := quoteS_size (cutS s); omega); rw [quote_plainB, quote_plainS] at h; exact h)) ?_)
  rintro _ w31 ⟨rfl, hF30⟩
  refine ⟨_, rfl, ?_⟩
  have hsw31 := hF30.size
  have hF_32 := hF_27.new hF30
  refine V.go (V.mv (v := (.tuple #[.string (cutS s), .bool true])) (at_same ((((hz19.put _ _).put _ _).put _ _).put _ _) rfl _) ?_)
  refine V.go (V.pv [(16, .tuple #[.string (cutS s), .bool true])] ⟨(at_same (((((hz19.put _ _).put _ _).put _ _).put _ _).put _ _) rfl _), trivial⟩ (by kernel_rfl) (.string (cutS s)) (by kernel_rfl) ?_)
  refine V.go (V.pv [(16, .tuple #[.string (cutS s), .bool true])] ⟨(at_other rfl _ (at_same (((((hz19.put _ _).put _ _).put _ _).put _ _).put _ _) rfl _)), trivial⟩ (by kernel_rfl) (.bool true) (by kernel_rfl) ?_)
  refine V.go (V.asg (v := (.string (cutS s))) (at_other rfl _ (at_same ((((((hz19.put _ _).put _ _).put _ _).put _ _).put _ _).put _ _) rfl _)) ?_)
  refine V.go (V.asg (v := (.bool true)) (at_other rfl _ (at_same (((((((hz19.put _ _).put _ _).put _ _).put _ _).put _ _).put _ _).put _ _) rfl _)) ?_)
  refine V.nil ?_
  refine V.then_n (hK29 _ _ ?_)
  refine V.flushW ((((((((((hz19.put _ _).put _ _).put _ _).put _ _).put _ _).put _ _).put _ _).put _ _).put _ _).put _ _) (fun a33 hz34 up35 => ?_)
  have s0_36 : a33.eval (.tmp 0) = (.string (cutS s)) := up35 _ _ (at_other rfl _ (at_other rfl _ (at_other rfl _ (at_other rfl _ (at_other rfl _ (at_other rfl _ (at_other rfl _ (at_other rfl _ (at_other rfl _ (at_other rfl _ (s0_21)))))))))))
  have s1_37 : a33.eval (.tmp 1) = (.string (cutS other)) := up35 _ _ (at_other rfl _ (at_other rfl _ (at_other rfl _ (at_other rfl _ (at_other rfl _ (at_other rfl _ (at_other rfl _ (at_other rfl _ (at_other rfl _ (at_other rfl _ (s1_22)))))))))))
  have s5_38 : a33.eval (.tmp 5) = (.string (quoteS (cutS s))) := up35 _ _ (at_other rfl _ (at_other rfl _ (at_other rfl _ (at_other rfl _ (at_other rfl _ (at_other rfl _ (at_other rfl _ (at_same ((hz19.put _ _).put _ _) rfl _))))))))
  have s6_39 : a33.eval (.tmp 6) = (.string (cutS s)) := up35 _ _ (at_other rfl _ (at_same ((((((((hz19.put _ _).put _ _).put _ _).put _ _).put _ _).put _ _).put _ _).put _ _) rfl _))
  have s7_40 : a33.eval (.tmp 7) = (.bool true) := up35 _ _ (at_same (((((((((hz19.put _ _).put _ _).put _ _).put _ _).put _ _).put _ _).put _ _).put _ _).put _ _) rfl _)
  clear up35
  refine V.seq (fun K41 hK42 => ?_)
  refine V.region (by kernel_rfl) ?_
  refine V.go (V.mv (v := (.string (quoteS (cutS s)))) (s5_38) ?_)
  refine V.go (V.mv (v := (.string (cutS s))) (at_other rfl _ (s0_36)) ?_)
  refine V.go (V.call 25 #[] #[.string (cutS s)] evf (args1 (at_same (hz34.put _ _) rfl _)) (Go.Proofs.enters_of Try.func25 (by kernel_rfl) rfl) (rquote_any w31 (cutS s) (by omega)) ?_)
  rintro _ w44 ⟨rfl, hF43⟩
  refine ⟨_, rfl, ?_⟩
  have hsw44 := hF43.size
  have hF_45 := hF_32.new hF43
  refine V.go (V.pvw [(21, .string (quoteS (cutS s))), (23, .string (quoteS (cutS s)))] ⟨(at_other rfl _ (at_other rfl _ (at_same hz34 rfl _))), (at_same ((hz34.put _ _).put _ _) rfl _), trivial⟩ (by kernel_rfl) (.bool (((quoteS (cutS s)).toList == (quoteS (cutS s)).toList))) (.bool (decide ((quoteS (cutS s)) = (quoteS (cutS s))))) (by kernel_rfl) V.t_seql ?_)
  refine V.go (V.mv (v := (.bool (decide ((quoteS (cutS s)) = (quoteS (cutS s)))))) (at_same (((hz34.put _ _).put _ _).put _ _) rfl _) ?_)
  by_cases hg46 : (quoteS (cutS s)) = (quoteS (cutS s))
  ·
    refine V.go_on 25 (by kernel_rfl) (((at_same ((((hz34.put _ _).put _ _).put _ _).put _ _) rfl _ : Act.eval _ _ = (.bool (decide ((quoteS (cutS s)) = (quoteS (cutS s))))))).trans (dt hg46)) (V.mv (v := (.bool true)) (at_other rfl _ (at_other rfl _ (at_other rfl _ (at_other rfl _ (at_other rfl _ (s7_40)))))) ?_)
    refine V.go (V.pk_t (((at_other rfl _ (at_same ((((hz34.put _ _).put _ _).put _ _).put _ _) rfl _) : Act.eval _ _ = (.bool (decide ((quoteS (cutS s)) = (quoteS (cutS s))))))).trans (dt hg46)) (v := (.bool true)) (at_same (((((hz34.put _ _).put _ _).put _ _).put _ _).put _ _) rfl _) ?_)
    refine V.go (V.mv (v := (.bool true)) (at_same ((((((hz34.put _ _).put _ _).put _ _).put _ _).put _ _).put _ _) rfl _) ?_)
    refine V.go_on 28 (by kernel_rfl) (at_same (((((((hz34.put _ _).put _ _).put _ _).put _ _).put _ _).put _ _).put _ _) rfl _) (V.mv (v := (.string (cutS s))) (at_other rfl _ (at_other rfl _ (at_other rfl _ (at_other rfl _ (at_other rfl _ (at_other rfl _ (at_other rfl _ (at_other rfl _ (s6_39))))))))) ?_)
    refine V.go_on 28 (by kernel_rfl) (at_other rfl _ (at_same (((((((hz34.put _ _).put _ _).put _ _).put _ _).put _ _).put _ _).put _ _) rfl _)) (V.mv (v := (.string (cutS s))) (at_other rfl _ (at_other rfl _ (at_other rfl _ (at_other rfl _ (at_other rfl _ (at_other rfl _ (at_other rfl _ (at_other rfl _ (at_other rfl _ (s0_36)))))))))) ?_)
    refine V.go_on 28 (by kernel_rfl) (at_other rfl _ (at_other rfl _ (at_same (((((((hz34.put _ _).put _ _).put _ _).put _ _).put _ _).put _ _).put _ _) rfl _))) (V.pvw [(29, .string (cutS s)), (30, .string (cutS s))] ⟨(at_other rfl _ (at_same ((((((((hz34.put _ _).put _ _).put _ _).put _ _).put _ _).put _ _).put _ _).put _ _) rfl _)), (at_same (((((((((hz34.put _ _).put _ _).put _ _).put _ _).put _ _).put _ _).put _ _).put _ _).put _ _) rfl _), trivial⟩ (by kernel_rfl) (.bool (((cutS s).toList == (cutS s).toList))) (.bool (decide ((cutS s) = (cutS s)))) (by kernel_rfl) V.t_seql ?_)
    refine V.go (V.pk_t (at_other rfl _ (at_other rfl _ (at_other rfl _ (at_same (((((((hz34.put _ _).put _ _).put _ _).put _ _).put _ _).put _ _).put _ _) rfl _)))) (v := (.bool (decide ((cutS s) = (cutS s))))) (at_same ((((((((((hz34.put _ _).put _ _).put _ _).put _ _).put _ _).put _ _).put _ _).put _ _).put _ _).put _ _) rfl _) ?_)
    refine V.go (V.mv (v := (.bool (decide ((cutS s) = (cutS s))))) (at_same (((((((((((hz34.put _ _).put _ _).put _ _).put _ _).put _ _).put _ _).put _ _).put _ _).put _ _).put _ _).put _ _) rfl _) ?_)
    by_cases hg47 : (cutS s) = (cutS s)
    ·
      refine V.go_on 33 (by kernel_rfl) (((at_same ((((((((((((hz34.put _ _).put _ _).put _ _).put _ _).put _ _).put _ _).put _ _).put _ _).put _ _).put _ _).put _ _).put _ _) rfl _ : Act.eval _ _ = (.bool (decide ((cutS s) = (cutS s)))))).trans (dt hg47)) (V.mv (v := (.string (quoteS (cutS s)))) (at_other rfl _ (at_other rfl _ (at_other rfl _ (at_other rfl _ (at_other rfl _ (at_other rfl _ (at_other rfl _ (at_other rfl _ (at_other rfl _ (at_other rfl _ (at_other rfl _ (at_other rfl _ (at_other rfl _ (s5_38)))))))))))))) ?_)
      refine V.go_on 33 (by kernel_rfl) (((at_other rfl _ (at_same ((((((((((((hz34.put _ _).put _ _).put _ _).put _ _).put _ _).put _ _).put _ _).put _ _).put _ _).put _ _).put _ _).put _ _) rfl _) : Act.eval _ _ = (.bool (decide ((cutS s) = (cutS s)))))).trans (dt hg47)) (V.mv (v := (.string (cutS s))) (at_other rfl _ (at_other rfl _ (at_other rfl _ (at_other rfl _ (at_other rfl _ (at_other rfl _ (at_other rfl _ (at_other rfl _ (at_other rfl _ (at_other rfl _ (at_other rfl _ (at_other rfl _ (at_other rfl _ (at_other rfl _ (s0_36))))))))))))))) ?_)
      refine V.go_on 33 (by kernel_rfl) (((at_other rfl _ (at_other rfl _ (at_same ((((((((((((hz34.put _ _).put _ _).put _ _).put _ _).put _ _).put _ _).put _ _).put _ _).put _ _).put _ _).put _ _).put _ _) rfl _)) : Act.eval _ _ = (.bool (decide ((cutS s) = (cutS s)))))).trans (dt hg47)) (V.call 10 #[] #[.string (quoteS (cutS s)), .string (cutS s), .bool false] evf (args3 (at_other rfl _ (at_same (((((((((((((hz34.put _ _).put _ _).put _ _).put _ _).put _ _).put _ _).put _ _).put _ _).put _ _).put _ _).put _ _).put _ _).put _ _) rfl _)) (at_same ((((((((((((((hz34.put _ _).put _ _).put _ _).put _ _).put _ _).put _ _).put _ _).put _ _).put _ _).put _ _).put _ _).put _ _).put _ _).put _ _) rfl _) evc) (Go.Proofs.enters_of Try.func10 (by kernel_rfl) rfl) ((by have h := match_any w44 (quoteS (cutS s)) (cutS s) false; rw [quote_rmat (cutS_le _) (cutS_le _), decide_eq_true rfl] at h; exact h)) ?_)
      rintro _ w49 ⟨rfl, hF48⟩
      refine ⟨_, rfl, ?_⟩
      have hsw49 := hF48.size
      have hF_50 := hF_45.new hF48
      refine V.go (V.pk_t (((at_other rfl _ (at_other rfl _ (at_other rfl _ (at_same ((((((((((((hz34.put _ _).put _ _).put _ _).put _ _).put _ _).put _ _).put _ _).put _ _).put _ _).put _ _).put _ _).put _ _) rfl _))) : Act.eval _ _ = (.bool (decide ((cutS s) = (cutS s)))))).trans (dt hg47)) (v := (.bool true)) (at_same (((((((((((((((hz34.put _ _).put _ _).put _ _).put _ _).put _ _).put _ _).put _ _).put _ _).put _ _).put _ _).put _ _).put _ _).put _ _).put _ _).put _ _) rfl _) ?_)
      refine V.go (V.mv (v := (.bool true)) (at_same ((((((((((((((((hz34.put _ _).put _ _).put _ _).put _ _).put _ _).put _ _).put _ _).put _ _).put _ _).put _ _).put _ _).put _ _).put _ _).put _ _).put _ _).put _ _) rfl _) ?_)
      refine V.go_on 38 (by kernel_rfl) (at_same (((((((((((((((((hz34.put _ _).put _ _).put _ _).put _ _).put _ _).put _ _).put _ _).put _ _).put _ _).put _ _).put _ _).put _ _).put _ _).put _ _).put _ _).put _ _).put _ _) rfl _) (V.mv (v := (.string (quoteS (cutS s)))) (at_other rfl _ (at_other rfl _ (at_other rfl _ (at_other rfl _ (at_other rfl _ (at_other rfl _ (at_other rfl _ (at_other rfl _ (at_other rfl _ (at_other rfl _ (at_other rfl _ (at_other rfl _ (at_other rfl _ (at_other rfl _ (at_other rfl _ (at_other rfl _ (at_other rfl _ (at_other rfl _ (s5_38))))))))))))))))))) ?_)
      refine V.go_on 38 (by kernel_rfl) (at_other rfl _ (at_same (((((((((((((((((hz34.put _ _).put _ _).put _ _).put _ _).put _ _).put _ _).put _ _).put _ _).put _ _).put _ _).put _ _).put _ _).put _ _).put _ _).put _ _).put _ _).put _ _) rfl _)) (V.mv (v := (.string (cutS other))) (at_other rfl _ (at_other rfl _ (at_other rfl _ (at_other rfl _ (at_other rfl _ (at_other rfl _ (at_other rfl _ (at_other rfl _ (at_other rfl _ (at_other rfl _ (at_other rfl _ (at_other rfl _ (at_other rfl _ (at_other rfl _ (at_other rfl _ (at_other rfl _ (at_other rfl _ (at_other rfl _ (at_other rfl _ (s1_37)))))))))))))))))))) ?_)
      refine V.go_on 38 (by kernel_rfl) (at_other rfl _ (at_other rfl _ (at_same (((((((((((((((((hz34.put _ _).put _ _).put _ _).put _ _).put _ _).put _ _).put _ _).put _ _).put _ _).put _ _).put _ _).put _ _).put _ _).put _ _).put _ _).put _ _).put _ _) rfl _))) (V.call 10 #[] #[.string (quoteS (cutS s)), .string (cutS other), .bool false] evf (args3 (at_other rfl _ (at_same ((((((((((((((((((hz34.put _ _).put _ _).put _ _).put _ _).put _ _).put _ _).put _ _).put _ _).put _ _).put _ _).put _ _).put _ _).put _ _).put _ _).put _ _).put _ _).put _ _).put _ _) rfl _)) (at_same (((((((((((((((((((hz34.put _ _).put _ _).put _ _).put _ _).put _ _).put _ _).put _ _).put _ _).put _ _).put _ _).put _ _).put _ _).put _ _).put _ _).put _ _).put _ _).put _ _).put _ _).put _ _) rfl _) evc) (Go.Proofs.enters_of Try.func10 (by kernel_rfl) rfl) ((by have h := match_any w49 (quoteS (cutS s)) (cutS other) false; rw [quote_rmat (cutS_le _) (cutS_le _)] at h; exact h)) ?_)
      rintro _ w52 ⟨rfl, hF51⟩
      refine ⟨_, rfl, ?_⟩
      have hsw52 := hF51.size
      have hF_53 := hF_50.new hF51
      refine V.go_on 38 (by kernel_rfl) (at_other rfl _ (at_other rfl _ (at_other rfl _ (at_same (((((((((((((((((hz34.put _ _).put _ _).put _ _).put _ _).put _ _).put _ _).put _ _).put _ _).put _ _).put _ _).put _ _).put _ _).put _ _).put _ _).put _ _).put _ _).put _ _) rfl _)))) (V.mv (v := (.string (cutS s))) (at_other rfl _ (at_other rfl _ (at_other rfl _ (at_other rfl _ (at_other rfl _ (at_other rfl _ (at_other rfl _ (at_other rfl _ (at_other rfl _ (at_other rfl _ (at_other rfl _ (at_other rfl _ (at_other rfl _ (at_other rfl _ (at_other rfl _ (at_other rfl _ (at_other rfl _ (at_other rfl _ (at_other rfl _ (at_other rfl _ (at_other rfl _ (s0_36)))))))))))))))))))))) ?_)
      refine V.go_on 38 (by kernel_rfl) (at_other rfl _ (at_other rfl _ (at_other rfl _ (at_other rfl _ (at_same (((((((((((((((((hz34.put _ _).put _ _).put _ _).put _ _).put _ _).put _ _).put _ _).put _ _).put _ _).put _ _).put _ _).put _ _).put _ _).put _ _).put _ _).put _ _).put _ _) rfl _))))) (V.mv (v := (.string (cutS other))) (at_other rfl _ (at_other rfl _ (at_other rfl _ (at_other rfl _ (at_other rfl _ (at_other rfl _ (at_other rfl _ (at_other rfl _ (at_other rfl _ (at_other rfl _ (at_other rfl _ (at_other rfl _ (at_other rfl _ (at_other rfl _ (at_other rfl _ (at_other rfl _ (at_other rfl _ (at_other rfl _ (at_other rfl _ (at_other rfl _ (at_other rfl _ (at_other rfl _ (s1_37))))))))))))))))))))))) ?_)
      refine V.go_on 38 (by kernel_rfl) (at_other rfl _ (at_other rfl _ (at_other rfl _ (at_other rfl _ (at_other rfl _ (at_same (((((((((((((((((hz34.put _ _).put _ _).put _ _).put _ _).put _ _).put _ _).put _ _).put _ _).put _ _).put _ _).put _ _).put _ _).put _ _).put _ _).put _ _).put _ _).put _ _) rfl _)))))) (V.pvw [(42, .string (cutS s)), (43, .string (cutS other))] ⟨(at_other rfl _ (at_same (((((((((((((((((((((hz34.put _ _).put _ _).put _ _).put _ _).put _ _).put _ _).put _ _).put _ _).put _ _).put _ _).put _ _).put _ _).put _ _).put _ _).put _ _).put _ _).put _ _).put _ _).put _ _).put _ _).put _ _) rfl _)), (at_same ((((((((((((((((((((((hz34.put _ _).put _ _).put _ _).put _ _).put _ _).put _ _).put _ _).put _ _).put _ _).put _ _).put _ _).put _ _).put _ _).put _ _).put _ _).put _ _).put _ _).put _ _).put _ _).put _ _).put _ _).put _ _) rfl _), trivial⟩ (by kernel_rfl) (.bool (((cutS s).toList == (cutS other).toList))) (.bool (decide ((cutS s) = (cutS other)))) (by kernel_rfl) V.t_seql ?_)
      refine V.go_on 38 (by kernel_rfl) (at_other rfl _ (at_other rfl _ (at_other rfl _ (at_other rfl _ (at_other rfl _ (at_other rfl _ (at_same (((((((((((((((((hz34.put _ _).put _ _).put _ _).put _ _).put _ _).put _ _).put _ _).put _ _).put _ _).put _ _).put _ _).put _ _).put _ _).put _ _).put _ _).put _ _).put _ _) rfl _))))))) (V.pvw [(41, .bool (decide (cutS s = cutS other))), (44, .bool (decide ((cutS s) = (cutS other))))] ⟨(at_other rfl _ (at_other rfl _ (at_other rfl _ (at_same ((((((((((((((((((((hz34.put _ _).put _ _).put _ _).put _ _).put _ _).put _ _).put _ _).put _ _).put _ _).put _ _).put _ _).put _ _).put _ _).put _ _).put _ _).put _ _).put _ _).put _ _).put _ _).put _ _) rfl _)))), (at_same (((((((((((((((((((((((hz34.put _ _).put _ _).put _ _).put _ _).put _ _).put _ _).put _ _).put _ _).put _ _).put _ _).put _ _).put _ _).put _ _).put _ _).put _ _).put _ _).put _ _).put _ _).put _ _).put _ _).put _ _).put _ _).put _ _) rfl _), trivial⟩ (by kernel_rfl) (.bool ((decide (cutS s = cutS other)) == (decide ((cutS s) = (cutS other))))) (.bool (decide ((decide (cutS s = cutS other)) = (decide ((cutS s) = (cutS other)))))) (by kernel_rfl) V.t_beql ?_)
      refine V.flushL (((((((((((((((((((((((((hz34.put _ _).put _ _).put _ _).put _ _).put _ _).put _ _).put _ _).put _ _).put _ _).put _ _).put _ _).put _ _).put _ _).put _ _).put _ _).put _ _).put _ _).put _ _).put _ _).put _ _).put _ _).put _ _).put _ _).put _ _).put _ _) (fun a54 hz55 up56 => ?_)
      have s38_57 : a54.eval (.tmp 38) = (.bool true) := up56 _ _ (at_other rfl _ (at_other rfl _ (at_other rfl _ (at_other rfl _ (at_other rfl _ (at_other rfl _ (at_other rfl _ (at_same (((((((((((((((((hz34.put _ _).put _ _).put _ _).put _ _).put _ _).put _ _).put _ _).put _ _).put _ _).put _ _).put _ _).put _ _).put _ _).put _ _).put _ _).put _ _).put _ _) rfl _))))))))
      have s45_58 : a54.eval (.tmp 45) = (.bool (decide ((decide (cutS s = cutS other)) = (decide ((cutS s) = (cutS other)))))) := up56 _ _ (at_same ((((((((((((((((((((((((hz34.put _ _).put _ _).put _ _).put _ _).put _ _).put _ _).put _ _).put _ _).put _ _).put _ _).put _ _).put _ _).put _ _).put _ _).put _ _).put _ _).put _ _).put _ _).put _ _).put _ _).put _ _).put _ _).put _ _).put _ _) rfl _)
      clear up56
      refine V.go (V.pk_t (s38_57) (v := (.bool (decide ((decide (cutS s = cutS other)) = (decide ((cutS s) = (cutS other))))))) (s45_58) ?_)
      refine V.go (V.asg (v := (.bool (decide ((decide (cutS s = cutS other)) = (decide ((cutS s) = (cutS other))))))) (at_same hz55 rfl _) ?_)
      refine V.nil ?_
      refine V.then_n (hK42 _ _ ?_)
      refine V.ret ?_
      refine V.ret1 ((hz55.put _ _).put _ _) rfl (at_same (hz55.put _ _) rfl _) ?_
      exact ⟨congrArg Ending.returned (congrArg Value.bool (decide_eq_true (by simp))), hF_53⟩
    ·
      refine V.go_off 33 (by kernel_rfl) (((at_same ((((((((((((hz34.put _ _).put _ _).put _ _).put _ _).put _ _).put _ _).put _ _).put _ _).put _ _).put _ _).put _ _).put _ _) rfl _ : Act.eval _ _ = (.bool (decide ((cutS s) = (cutS s)))))).trans (df hg47)) (by kernel_rfl) ?_
      refine V.go_off 33 (by kernel_rfl) (((at_other rfl _ (at_same ((((((((((((hz34.put _ _).put _ _).put _ _).put _ _).put _ _).put _ _).put _ _).put _ _).put _ _).put _ _).put _ _).put _ _) rfl _) : Act.eval _ _ = (.bool (decide ((cutS s) = (cutS s)))))).trans (df hg47)) (by kernel_rfl) ?_
      refine V.go_off 33 (by kernel_rfl) (((at_other rfl _ (at_other rfl _ (at_same ((((((((((((hz34.put _ _).put _ _).put _ _).put _ _).put _ _).put _ _).put _ _).put _ _).put _ _).put _ _).put _ _).put _ _) rfl _)) : Act.eval _ _ = (.bool (decide ((cutS s) = (cutS s)))))).trans (df hg47)) (by kernel_rfl) ?_
      refine V.go (V.pk_f (((at_other rfl _ (at_other rfl _ (at_other rfl _ (at_same ((((((((((((hz34.put _ _).put _ _).put _ _).put _ _).put _ _).put _ _).put _ _).put _ _).put _ _).put _ _).put _ _).put _ _) rfl _))) : Act.eval _ _ = (.bool (decide ((cutS s) = (cutS s)))))).trans (df hg47)) (v := (.bool false)) evc ?_)
      refine V.go (V.mv (v := (.bool false)) (at_same ((((((((((((((((hz34.put _ _).put _ _).put _ _).put _ _).put _ _).put _ _).put _ _).put _ _).put _ _).put _ _).put _ _).put _ _).put _ _).put _ _).put _ _).put _ _) rfl _) ?_)
      refine V.go_off 38 (by kernel_rfl) (at_same (((((((((((((((((hz34.put _ _).put _ _).put _ _).put _ _).put _ _).put _ _).put _ _).put _ _).put _ _).put _ _).put _ _).put _ _).put _ _).put _ _).put _ _).put _ _).put _ _) rfl _) (by kernel_rfl) ?_
      refine V.go_off 38 (by kernel_rfl) (at_other rfl _ (at_same (((((((((((((((((hz34.put _ _).put _ _).put _ _).put _ _).put _ _).put _ _).put _ _).put _ _).put _ _).put _ _).put _ _).put _ _).put _ _).put _ _).put _ _).put _ _).put _ _) rfl _)) (by kernel_rfl) ?_
      refine V.go_off 38 (by kernel_rfl) (at_other rfl _ (at_other rfl _ (at_same (((((((((((((((((hz34.put _ _).put _ _).put _ _).put _ _).put _ _).put _ _).put _ _).put _ _).put _ _).put _ _).put _ _).put _ _).put _ _).put _ _).put _ _).put _ _).put _ _) rfl _))) (by kernel_rfl) ?_
      refine V.go_off 38 (by kernel_rfl) (at_other rfl _ (at_other rfl _ (at_other rfl _ (at_same (((((((((((((((((hz34.put _ _).put _ _).put _ _).put _ _).put _ _).put _ _).put _ _).put _ _).put _ _).put _ _).put _ _).put _ _).put _ _).put _ _).put _ _).put _ _).put _ _) rfl _)))) (by kernel_rfl) ?_
      refine V.go_off 38 (by kernel_rfl) (at_other rfl _ (at_other rfl _ (at_other rfl _ (at_other rfl _ (at_same (((((((((((((((((hz34.put _ _).put _ _).put _ _).put _ _).put _ _).put _ _).put _ _).put _ _).put _ _).put _ _).put _ _).put _ _).put _ _).put _ _).put _ _).put _ _).put _ _) rfl _))))) (by kernel_rfl) ?_
      refine V.go_off 38 (by kernel_rfl) (at_other rfl _ (at_other rfl _ (at_other rfl _ (at_other rfl _ (at_other rfl _ (at_same (((((((((((((((((hz34.put _ _).put _ _).put _ _).put _ _).put _ _).put _ _).put _ _).put _ _).put _ _).put _ _).put _ _).put _ _).put _ _).put _ _).put _ _).put _ _).put _ _) rfl _)))))) (by kernel_rfl) ?_
      refine V.go_off 38 (by kernel_rfl) (at_other rfl _ (at_other rfl _ (at_other rfl _ (at_other rfl _ (at_other rfl _ (at_other rfl _ (at_same (((((((((((((((((hz34.put _ _).put _ _).put _ _).put _ _).put _ _).put _ _).put _ _).put _ _).put _ _).put _ _).put _ _).put _ _).put _ _).put _ _).put _ _).put _ _).put _ _) rfl _))))))) (by kernel_rfl) ?_
      refine V.flushL (((((((((((((((((((((((((hz34.put _ _).put _ _).put _ _).put _ _).put _ _).put _ _).put _ _).put _ _).put _ _).put _ _).put _ _).put _ _).put _ _).put _ _).put _ _).put _ _).put _ _).put _ _).put _ _).put _ _).put _ _).put _ _).put _ _).put _ _).put _ _) (fun a59 hz60 up61 => ?_)
      have s38_62 : a59.eval (.tmp 38) = (.bool false) := up61 _ _ (at_other rfl _ (at_other rfl _ (at_other rfl _ (at_other rfl _ (at_other rfl _ (at_other rfl _ (at_other rfl _ (at_same (((((((((((((((((hz34.put _ _).put _ _).put _ _).put _ _).put _ _).put _ _).put _ _).put _ _).put _ _).put _ _).put _ _).put _ _).put _ _).put _ _).put _ _).put _ _).put _ _) rfl _))))))))
      have s45_63 : a59.eval (.tmp 45) = (undef) := up61 _ _ (at_same ((((((((((((((((((((((((hz34.put _ _).put _ _).put _ _).put _ _).put _ _).put _ _).put _ _).put _ _).put _ _).put _ _).put _ _).put _ _).put _ _).put _ _).put _ _).put _ _).put _ _).put _ _).put _ _).put _ _).put _ _).put _ _).put _ _).put _ _) rfl _)
      clear up61
      refine V.go (V.pk_f (s38_62) (v := (.bool false)) evc ?_)
      refine V.go (V.asg (v := (.bool false)) (at_same hz60 rfl _) ?_)
      refine V.nil ?_
      refine V.then_n (hK42 _ _ ?_)
      refine V.ret ?_
      refine V.ret1 ((hz60.put _ _).put _ _) rfl (at_same (hz60.put _ _) rfl _) ?_
      exact absurd rfl hg47
  ·
    refine V.go_off 25 (by kernel_rfl) (((at_same ((((hz34.put _ _).put _ _).put _ _).put _ _) rfl _ : Act.eval _ _ = (.bool (decide ((quoteS (cutS s)) = (quoteS (cutS s))))))).trans (df hg46)) (by kernel_rfl) ?_
    refine V.go (V.pk_f (((at_other rfl _ (at_same ((((hz34.put _ _).put _ _).put _ _).put _ _) rfl _) : Act.eval _ _ = (.bool (decide ((quoteS (cutS s)) = (quoteS (cutS s))))))).trans (df hg46)) (v := (.bool false)) evc ?_)
    refine V.go (V.mv (v := (.bool false)) (at_same ((((((hz34.put _ _).put _ _).put _ _).put _ _).put _ _).put _ _) rfl _) ?_)
    refine V.go_off 28 (by kernel_rfl) (at_same (((((((hz34.put _ _).put _ _).put _ _).put _ _).put _ _).put _ _).put _ _) rfl _) (by kernel_rfl) ?_
    refine V.go_off 28 (by kernel_rfl) (at_other rfl _ (at_same (((((((hz34.put _ _).put _ _).put _ _).put _ _).put _ _).put _ _).put _ _) rfl _)) (by kernel_rfl) ?_
    refine V.go_off 28 (by kernel_rfl) (at_other rfl _ (at_other rfl _ (at_same (((((((hz34.put _ _).put _ _).put _ _).put _ _).put _ _).put _ _).put _ _) rfl _))) (by kernel_rfl) ?_
    refine V.go (V.pk_f (at_other rfl _ (at_other rfl _ (at_other rfl _ (at_same (((((((hz34.put _ _).put _ _).put _ _).put _ _).put _ _).put _ _).put _ _) rfl _)))) (v := (.bool false)) evc ?_)
    refine V.go (V.mv (v := (.bool false)) (at_same (((((((((((hz34.put _ _).put _ _).put _ _).put _ _).put _ _).put _ _).put _ _).put _ _).put _ _).put _ _).put _ _) rfl _) ?_)
    refine V.go_off 33 (by kernel_rfl) (at_same ((((((((((((hz34.put _ _).put _ _).put _ _).put _ _).put _ _).put _ _).put _ _).put _ _).put _ _).put _ _).put _ _).put _ _) rfl _) (by kernel_rfl) ?_
    refine V.go_off 33 (by kernel_rfl) (at_other rfl _ (at_same ((((((((((((hz34.put _ _).put _ _).put _ _).put _ _).put _ _).put _ _).put _ _).put _ _).put _ _).put _ _).put _ _).put _ _) rfl _)) (by kernel_rfl) ?_
    refine V.go_off 33 (by kernel_rfl) (at_other rfl _ (at_other rfl _ (at_same ((((((((((((hz34.put _ _).put _ _).put _ _).put _ _).put _ _).put _ _).put _ _).put _ _).put _ _).put _ _).put _ _).put _ _) rfl _))) (by kernel_rfl) ?_
    refine V.go (V.pk_f (at_other rfl _ (at_other rfl _ (at_other rfl _ (at_same ((((((((((((hz34.put _ _).put _ _).put _ _).put _ _).put _ _).put _ _).put _ _).put _ _).put _ _).put _ _).put _ _).put _ _) rfl _)))) (v := (.bool false)) evc ?_)
    refine V.go (V.mv (v := (.bool false)) (at_same ((((((((((((((((hz34.put _ _).put _ _).put _ _).put _ _).put _ _).put _ _).put _ _).put _ _).put _ _).put _ _).put _ _).put _ _).put _ _).put _ _).put _ _).put _ _) rfl _) ?_)
    refine V.go_off 38 (by kernel_rfl) (at_same (((((((((((((((((hz34.put _ _).put _ _).put _ _).put _ _).put _ _).put _ _).put _ _).put _ _).put _ _).put _ _).put _ _).put _ _).put _ _).put _ _).put _ _).put _ _).put _ _) rfl _) (by kernel_rfl) ?_
    refine V.go_off 38 (by kernel_rfl) (at_other rfl _ (at_same (((((((((((((((((hz34.put _ _).put _ _).put _ _).put _ _).put _ _).put _ _).put _ _).put _ _).put _ _).put _ _).put _ _).put _ _).put _ _).put _ _).put _ _).put _ _).put _ _) rfl _)) (by kernel_rfl) ?_
    refine V.go_off 38 (by kernel_rfl) (at_other rfl _ (at_other rfl _ (at_same (((((((((((((((((hz34.put _ _).put _ _).put _ _).put _ _).put _ _).put _ _).put _ _).put _ _).put _ _).put _ _).put _ _).put _ _).put _ _).put _ _).put _ _).put _ _).put _ _) rfl _))) (by kernel_rfl) ?_
    refine V.go_off 38 (by kernel_rfl) (at_other rfl _ (at_other rfl _ (at_other rfl _ (at_same (((((((((((((((((hz34.put _ _).put _ _).put _ _).put _ _).put _ _).put _ _).put _ _).put _ _).put _ _).put _ _).put _ _).put _ _).put _ _).put _ _).put _ _).put _ _).put _ _) rfl _)))) (by kernel_rfl) ?_
    refine V.go_off 38 (by kernel_rfl) (at_other rfl _ (at_other rfl _ (at_other rfl _ (at_other rfl _ (at_same (((((((((((((((((hz34.put _ _).put _ _).put _ _).put _ _).put _ _).put _ _).put _ _).put _ _).put _ _).put _ _).put _ _).put _ _).put _ _).put _ _).put _ _).put _ _).put _ _) rfl _))))) (by kernel_rfl) ?_
    refine V.go_off 38 (by kernel_rfl) (at_other rfl _ (at_other rfl _ (at_other rfl _ (at_other rfl _ (at_other rfl _ (at_same (((((((((((((((((hz34.put _ _).put _ _).put _ _).put _ _).put _ _).put _ _).put _ _).put _ _).put _ _).put _ _).put _ _).put _ _).put _ _).put _ _).put _ _).put _ _).put _ _) rfl _)))))) (by kernel_rfl) ?_
    refine V.go_off 38 (by kernel_rfl) (at_other rfl _ (at_other rfl _ (at_other rfl _ (at_other rfl _ (at_other rfl _ (at_other rfl _ (at_same (((((((((((((((((hz34.put _ _).put _ _).put _ _).put _ _).put _ _).put _ _).put _ _).put _ _).put _ _).put _ _).put _ _).put _ _).put _ _).put _ _).put _ _).put _ _).put _ _) rfl _))))))) (by kernel_rfl) ?_
    refine V.flushL (((((((((((((((((((((((((hz34.put _ _).put _ _).put _ _).put _ _).put _ _).put _ _).put _ _).put _ _).put _ _).put _ _).put _ _).put _ _).put _ _).put _ _).put _ _).put _ _).put _ _).put _ _).put _ _).put _ _).put _ _).put _ _).put _ _).put _ _).put _ _) (fun a64 hz65 up66 => ?_)
    have s38_67 : a64.eval (.tmp 38) = (.bool false) := up66 _ _ (at_other rfl _ (at_other rfl _ (at_other rfl _ (at_other rfl _ (at_other rfl _ (at_other rfl _ (at_other rfl _ (at_same (((((((((((((((((hz34.put _ _).put _ _).put _ _).put _ _).put _ _).put _ _).put _ _).put _ _).put _ _).put _ _).put _ _).put _ _).put _ _).put _ _).put _ _).put _ _).put _ _) rfl _))))))))
    have s45_68 : a64.eval (.tmp 45) = (undef) := up66 _ _ (at_same ((((((((((((((((((((((((hz34.put _ _).put _ _).put _ _).put _ _).put _ _).put _ _).put _ _).put _ _).put _ _).put _ _).put _ _).put _ _).put _ _).put _ _).put _ _).put _ _).put _ _).put _ _).put _ _).put _ _).put _ _).put _ _).put _ _).put _ _) rfl _)
    clear up66
    refine V.go (V.pk_f (s38_67) (v := (.bool false)) evc ?_)
    refine V.go (V.asg (v := (.bool false)) (at_same hz65 rfl _) ?_)
    refine V.nil ?_
    refine V.then_n (hK42 _ _ ?_)
    refine V.ret ?_
    refine V.ret1 ((hz65.put _ _).put _ _) rfl (at_same (hz65.put _ _) rfl _) ?_
    exact absurd rfl hg46
end Go.Proofs.Ytmlohijidjbbjaa
