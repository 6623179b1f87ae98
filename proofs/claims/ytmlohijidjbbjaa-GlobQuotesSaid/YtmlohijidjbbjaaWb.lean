/- Walks: the reference's Parse. -/
import Derived.Test.YtmlohijidjbbjaaProg
import Derived.Test.YtmlohijidjbbjaaWx
namespace Go.Proofs.Ytmlohijidjbbjaa
open Go.V Go.Base
attribute [local irreducible] Act.put Act.eval
set_option linter.unusedVariables false
set_option linter.unusedSimpArgs false
set_option maxHeartbeats 4000000 in
set_option maxRecDepth 20000 in
theorem rparse_any (w : World) (s : ByteArray) (hs : s.size ≤ 1048576) : Calls Try.prog 22 #[.string s] w (fun e w' => ∃ A c, e = .returned (.slice A (parse (ints s)).length c) ∧ SlR globR (fun b => w.heap.size ≤ b) w' (.slice A (parse (ints s)).length c) (parse (ints s)) ∧ Fr [] w w') := by
  have hF := Fr.refl [] w
  refine V.enter 86 Try.func22 rfl rfl ?_
  intro a hz ha
  have s0 : a.eval (.tmp 0) = (.string s) := ha 0 _ rfl
  clear ha
  refine V.seq (fun K1 hK2 => ?_)
  refine V.region (by kernel_rfl) ?_
  refine V.go (V.asg (v := (.slice none 0 0)) evc ?_)
  refine V.nil ?_
  refine V.then_n (hK2 _ _ ?_)
  refine V.seq (fun K3 hK4 => ?_)
  refine V.region (by kernel_rfl) ?_
  refine V.go (V.asg (v := (.slice none 0 0)) evc ?_)
  refine V.nil ?_
  refine V.then_n (hK4 _ _ ?_)
  refine V.seq (fun K5 hK6 => ?_)
  refine V.seq (fun K7 hK8 => ?_)
  refine V.region (by kernel_rfl) ?_
  refine V.go (V.asg (v := (.int .i64 0)) evc ?_)
  refine V.nil ?_
  refine V.then_n (hK8 _ _ ?_)
  refine V.block ?_
  have hO0 := OwR.nil globR (Zi w.heap.size w.heap.size (.slice none 0 0)) w w.heap.size 42
  refine V.loop4 (fun (k : Nat) (acc : List Glob) (A : Option Addr) (c : Nat) a_ w_ => Sz 86 a_ ∧ a_.eval (.tmp 0) = (.string s) ∧ a_.eval (.tmp 3) = (.slice A acc.length c) ∧ a_.eval (.tmp 4) = (.int .i64 (k : Int)) ∧ OwR globR (Zi w.heap.size w_.heap.size (.slice A acc.length c)) w_ w.heap.size 42 (.slice A acc.length c) acc ∧ Fr [] w w_ ∧ (k ≤ s.size) ∧ (acc.length ≤ k) ∧ (acc ++ parse ((ints s).drop k) = parse (ints s))) (fun (k : Nat) (acc : List Glob) (A : Option Addr) (c : Nat) => s.size - k) 0 ([]) none 0 ?_ ?_
  ·
    refine ⟨(((hz.put _ _).put _ _).put _ _), ?_, ?_, ?_, hO0, hF, (by omega), (by simp), (by simp)⟩
    · exact (at_other rfl _ (at_other rfl _ (at_other rfl _ (s0))))
    · exact Eq.trans (at_other rfl _ (at_same (hz.put _ _) rfl _)) (V.sl_eq (by simp))
    · exact Eq.trans (at_same ((hz.put _ _).put _ _) rfl _) (V.int_eq (by omega))
  ·
    rintro k acc A c a9 w10 ⟨hz11, s0_12, s3_13, s4_14, hO_15, hF_16, hk, hacc, hsp⟩
    have hfs17 := hF_16.size
    have hbk := byt_lt s k
    have hlk := ints_length s
    refine V.seq (fun K18 hK19 => ?_)
    refine V.seq (fun K20 hK21 => ?_)
    refine V.region (by kernel_rfl) ?_
    refine V.go (V.mv (v := (.int .i64 (k : Int))) (s4_14) ?_)
    refine V.go (V.mv (v := (.string s)) (at_other rfl _ (s0_12)) ?_)
    refine V.go (V.pv [(8, .string s)] ⟨(at_same (hz11.put _ _) rfl _), trivial⟩ (by kernel_rfl) (.int .i64 (s.size : Int)) (by kernel_rfl) ?_)
    refine V.go (V.pv [(7, .int .i64 (k : Int)), (9, .int .i64 (s.size : Int))] ⟨(at_other rfl _ (at_other rfl _ (at_same hz11 rfl _))), (at_same ((hz11.put _ _).put _ _) rfl _), trivial⟩ (by kernel_rfl) (.bool (decide ((k : Int) < (s.size : Int)))) (by kernel_rfl) ?_)
    refine V.nil ?_
    refine V.then_n (hK21 _ _ ?_)
    refine V.flushW ((((hz11.put _ _).put _ _).put _ _).put _ _) (fun a22 hz23 up24 => ?_)
    have s0_25 : a22.eval (.tmp 0) = (.string s) := up24 _ _ (at_other rfl _ (at_other rfl _ (at_other rfl _ (at_other rfl _ (s0_12)))))
    have s3_26 : a22.eval (.tmp 3) = (.slice A acc.length c) := up24 _ _ (at_other rfl _ (at_other rfl _ (at_other rfl _ (at_other rfl _ (s3_13)))))
    have s4_27 : a22.eval (.tmp 4) = (.int .i64 (k : Int)) := up24 _ _ (at_other rfl _ (at_other rfl _ (at_other rfl _ (at_other rfl _ (s4_14)))))
    have s10_28 : a22.eval (.tmp 10) = (.bool (decide ((k : Int) < (s.size : Int)))) := up24 _ _ (at_same (((hz11.put _ _).put _ _).put _ _) rfl _)
    clear up24
    refine V.condP (p := (k : Int) < (s.size : Int)) (s10_28) (fun ht29 => ?_) (fun ht29 => ?_)
    ·
      refine V.skip ?_
      refine V.then_n (hK19 _ _ ?_)
      refine V.block ?_
      refine V.block ?_
      refine V.seq (fun K30 hK31 => ?_)
      refine V.region (by kernel_rfl) ?_
      refine V.go (V.mv (v := (.string s)) (s0_25) ?_)
      refine V.go (V.mv (v := (.int .i64 (k : Int))) (at_other rfl _ (s4_27)) ?_)
      refine V.go (V.ixs s .i64 (k : Int) (at_other rfl _ (at_same hz23 rfl _)) (at_same (hz23.put _ _) rfl _) (by omega) (by omega) (by kernel_rfl) ?_)
      have hb32 := byt_lt s (k : Int)
      refine V.go (V.pvw [(23, .int .u8 (bi s (k : Int)))] ⟨(at_same ((hz23.put _ _).put _ _) rfl _), trivial⟩ (by kernel_rfl) (.bool ((bi s (k : Int)) == 42)) (.bool (decide ((bi s (k : Int)) = 42))) (by kernel_rfl) V.t_eql ?_)
      refine V.go (V.asg (v := (.bool (decide ((bi s (k : Int)) = 42)))) (at_same (((hz23.put _ _).put _ _).put _ _) rfl _) ?_)
      refine V.nil ?_
      refine V.then_n (hK31 _ _ ?_)
      refine V.flushW (((((hz23.put _ _).put _ _).put _ _).put _ _).put _ _) (fun a33 hz34 up35 => ?_)
      have s0_36 : a33.eval (.tmp 0) = (.string s) := up35 _ _ (at_other rfl _ (at_other rfl _ (at_other rfl _ (at_other rfl _ (at_other rfl _ (s0_25))))))
      have s3_37 : a33.eval (.tmp 3) = (.slice A acc.length c) := up35 _ _ (at_other rfl _ (at_other rfl _ (at_other rfl _ (at_other rfl _ (at_other rfl _ (s3_26))))))
      have s4_38 : a33.eval (.tmp 4) = (.int .i64 (k : Int)) := up35 _ _ (at_other rfl _ (at_other rfl _ (at_other rfl _ (at_other rfl _ (at_other rfl _ (s4_27))))))
      have s20_39 : a33.eval (.tmp 20) = (.bool (decide ((bi s (k : Int)) = 42))) := up35 _ _ (at_same ((((hz23.put _ _).put _ _).put _ _).put _ _) rfl _)
      clear up35
      refine V.condP (p := (bi s (k : Int)) = 42) (s20_39) (fun ht40 => ?_) (fun ht40 => ?_)
      ·
        refine V.seq (fun K41 hK42 => ?_)
        refine V.region (by kernel_rfl) ?_
        refine V.go (V.mv (v := (.slice A acc.length c)) (s3_37) ?_)
        refine V.go (V.pv [] trivial (by kernel_rfl) (.agg #[.int .i64 1, .int .u8 0, .bool false, .slice none 0 0]) (by kernel_rfl) ?_)
        refine V.go (V.mk [(26, .agg #[.int .i64 1, .int .u8 0, .bool false, .slice none 0 0])] ⟨(at_same (hz34.put _ _) rfl _), trivial⟩ (by kernel_rfl) [.int .i64 1, .int .u8 0, .bool false, .slice none 0 0] 42 (fun b => .slice (some ⟨b, 0, none⟩) 1 1) (by kernel_rfl) ?_)
        intro w44 b43 heb43 hB45 hF46 hsb43
        have hO_47 := hO_15.fr0 hF46
        have hF_48 := hF_16.new hF46
        refine V.go (V.app (R := globR) (ys := ([⟨1, 0, false, []⟩])) (news := [.int .i64 1, .int .u8 0, .bool false, .slice none 0 0]) (at_other rfl _ (at_other rfl _ (at_same hz34 rfl _))) ⟨b43, 0, none⟩ 1 1 (at_same ((hz34.put _ _).put _ _) rfl _) (by kernel_rfl) (info42) (by kernel_rfl) (by decide) (hO_47.raise (m := w44.heap.size) (by omega)) rfl ⟨[.int .i64 1, .int .u8 0, .bool false, .slice none 0 0], [], rfl, ⟨_, rfl, SlR.nil _ _ _⟩, rfl⟩ (blk_cells hB45 0 _ rfl) (by omega) (by decide) (by omega) ?_)
        intro A49 c50 w51 hO52z hF53 hatw51
        have hsw51 := hF53.size
        have hF_54 := hF_48.own hF53 (own_ge hO_47 (by omega))
        have hO52 := hO52z.zi hatw51
        refine V.go (V.asg (v := (.slice A49 (acc.length + 1) c50)) (at_same (((hz34.put _ _).put _ _).put _ _) rfl _) ?_)
        refine V.nil ?_
        refine V.then_n (hK42 _ _ ?_)
        refine V.flushW (((((hz34.put _ _).put _ _).put _ _).put _ _).put _ _) (fun a55 hz56 up57 => ?_)
        have s0_58 : a55.eval (.tmp 0) = (.string s) := up57 _ _ (at_other rfl _ (at_other rfl _ (at_other rfl _ (at_other rfl _ (at_other rfl _ (s0_36))))))
        have s3_59 : a55.eval (.tmp 3) = (.slice A49 (acc.length + 1) c50) := up57 _ _ (at_same ((((hz34.put _ _).put _ _).put _ _).put _ _) rfl _)
        have s4_60 : a55.eval (.tmp 4) = (.int .i64 (k : Int)) := up57 _ _ (at_other rfl _ (at_other rfl _ (at_other rfl _ (at_other rfl _ (at_other rfl _ (s4_38))))))
        clear up57
        refine V.region (by kernel_rfl) ?_
        refine V.go (V.mv (v := (.int .i64 (k : Int))) (s4_60) ?_)
        refine V.go (V.pvw [(29, .int .i64 (k : Int))] ⟨(at_same hz56 rfl _), trivial⟩ (by kernel_rfl) (.int .i64 (IntKind.i64.wrap ((k : Int) + 1))) (.int .i64 ((k : Int) + 1)) (by kernel_rfl) (V.w_i64 (by omega) (by omega)) ?_)
        refine V.go (V.asg (v := (.int .i64 ((k : Int) + 1))) (at_same (hz56.put _ _) rfl _) ?_)
        refine V.nil ?_
        refine V.blk_n ?_
        refine V.blk_n ?_
        refine V.then_n ?_
        have hstep := ps_any (s := s) (k := k) (by omega) (by omega)
        rw [hstep] at hsp
        refine ⟨k + 1, acc ++ [⟨1, 0, false, []⟩], A49, c50, by omega, ?_⟩
        refine ⟨(((hz56.put _ _).put _ _).put _ _), ?_, ?_, ?_, (by simpa using hO52.raise (m := w51.heap.size) (by omega)), hF_54, (by omega), (by simp; omega), (by simpa using hsp)⟩
        · exact (at_other rfl _ (at_other rfl _ (at_other rfl _ (s0_58))))
        · exact Eq.trans (at_other rfl _ (at_other rfl _ (at_other rfl _ (s3_59)))) (V.sl_eq (by simp))
        · exact Eq.trans (at_same ((hz56.put _ _).put _ _) rfl _) (V.int_eq (by omega))
      ·
        refine V.seq (fun K61 hK62 => ?_)
        refine V.region (by kernel_rfl) ?_
        refine V.go (V.mv (v := (.string s)) (s0_36) ?_)
        refine V.go (V.mv (v := (.int .i64 (k : Int))) (at_other rfl _ (s4_38)) ?_)
        refine V.go (V.ixs s .i64 (k : Int) (at_other rfl _ (at_same hz34 rfl _)) (at_same (hz34.put _ _) rfl _) (by omega) (by omega) (by kernel_rfl) ?_)
        have hb63 := byt_lt s (k : Int)
        refine V.go (V.pvw [(34, .int .u8 (bi s (k : Int)))] ⟨(at_same ((hz34.put _ _).put _ _) rfl _), trivial⟩ (by kernel_rfl) (.bool ((bi s (k : Int)) == 63)) (.bool (decide ((bi s (k : Int)) = 63))) (by kernel_rfl) V.t_eql ?_)
        refine V.go (V.asg (v := (.bool (decide ((bi s (k : Int)) = 63)))) (at_same (((hz34.put _ _).put _ _).put _ _) rfl _) ?_)
        refine V.nil ?_
        refine V.then_n (hK62 _ _ ?_)
        refine V.flushW (((((hz34.put _ _).put _ _).put _ _).put _ _).put _ _) (fun a64 hz65 up66 => ?_)
        have s0_67 : a64.eval (.tmp 0) = (.string s) := up66 _ _ (at_other rfl _ (at_other rfl _ (at_other rfl _ (at_other rfl _ (at_other rfl _ (s0_36))))))
        have s3_68 : a64.eval (.tmp 3) = (.slice A acc.length c) := up66 _ _ (at_other rfl _ (at_other rfl _ (at_other rfl _ (at_other rfl _ (at_other rfl _ (s3_37))))))
        have s4_69 : a64.eval (.tmp 4) = (.int .i64 (k : Int)) := up66 _ _ (at_other rfl _ (at_other rfl _ (at_other rfl _ (at_other rfl _ (at_other rfl _ (s4_38))))))
        have s31_70 : a64.eval (.tmp 31) = (.bool (decide ((bi s (k : Int)) = 63))) := up66 _ _ (at_same ((((hz34.put _ _).put _ _).put _ _).put _ _) rfl _)
        clear up66
        refine V.condP (p := (bi s (k : Int)) = 63) (s31_70) (fun ht71 => ?_) (fun ht71 => ?_)
        ·
          refine V.seq (fun K72 hK73 => ?_)
          refine V.region (by kernel_rfl) ?_
          refine V.go (V.mv (v := (.slice A acc.length c)) (s3_68) ?_)
          refine V.go (V.pv [] trivial (by kernel_rfl) (.agg #[.int .i64 2, .int .u8 0, .bool false, .slice none 0 0]) (by kernel_rfl) ?_)
          refine V.go (V.mk [(37, .agg #[.int .i64 2, .int .u8 0, .bool false, .slice none 0 0])] ⟨(at_same (hz65.put _ _) rfl _), trivial⟩ (by kernel_rfl) [.int .i64 2, .int .u8 0, .bool false, .slice none 0 0] 42 (fun b => .slice (some ⟨b, 0, none⟩) 1 1) (by kernel_rfl) ?_)
          intro w75 b74 heb74 hB76 hF77 hsb74
          have hO_78 := hO_15.fr0 hF77
          have hF_79 := hF_16.new hF77
          refine V.go (V.app (R := globR) (ys := ([⟨2, 0, false, []⟩])) (news := [.int .i64 2, .int .u8 0, .bool false, .slice none 0 0]) (at_other rfl _ (at_other rfl _ (at_same hz65 rfl _))) ⟨b74, 0, none⟩ 1 1 (at_same ((hz65.put _ _).put _ _) rfl _) (by kernel_rfl) (info42) (by kernel_rfl) (by decide) (hO_78.raise (m := w75.heap.size) (by omega)) rfl ⟨[.int .i64 2, .int .u8 0, .bool false, .slice none 0 0], [], rfl, ⟨_, rfl, SlR.nil _ _ _⟩, rfl⟩ (blk_cells hB76 0 _ rfl) (by omega) (by decide) (by omega) ?_)
          intro A80 c81 w82 hO83z hF84 hatw82
          have hsw82 := hF84.size
          have hF_85 := hF_79.own hF84 (own_ge hO_78 (by omega))
          have hO83 := hO83z.zi hatw82
          refine V.go (V.asg (v := (.slice A80 (acc.length + 1) c81)) (at_same (((hz65.put _ _).put _ _).put _ _) rfl _) ?_)
          refine V.nil ?_
          refine V.then_n (hK73 _ _ ?_)
          refine V.flushW (((((hz65.put _ _).put _ _).put _ _).put _ _).put _ _) (fun a86 hz87 up88 => ?_)
          have s0_89 : a86.eval (.tmp 0) = (.string s) := up88 _ _ (at_other rfl _ (at_other rfl _ (at_other rfl _ (at_other rfl _ (at_other rfl _ (s0_67))))))
          have s3_90 : a86.eval (.tmp 3) = (.slice A80 (acc.length + 1) c81) := up88 _ _ (at_same ((((hz65.put _ _).put _ _).put _ _).put _ _) rfl _)
          have s4_91 : a86.eval (.tmp 4) = (.int .i64 (k : Int)) := up88 _ _ (at_other rfl _ (at_other rfl _ (at_other rfl _ (at_other rfl _ (at_other rfl _ (s4_69))))))
          clear up88
          refine V.region (by kernel_rfl) ?_
          refine V.go (V.mv (v := (.int .i64 (k : Int))) (s4_91) ?_)
          refine V.go (V.pvw [(40, .int .i64 (k : Int))] ⟨(at_same hz87 rfl _), trivial⟩ (by kernel_rfl) (.int .i64 (IntKind.i64.wrap ((k : Int) + 1))) (.int .i64 ((k : Int) + 1)) (by kernel_rfl) (V.w_i64 (by omega) (by omega)) ?_)
          refine V.go (V.asg (v := (.int .i64 ((k : Int) + 1))) (at_same (hz87.put _ _) rfl _) ?_)
          refine V.nil ?_
          refine V.blk_n ?_
          refine V.blk_n ?_
          refine V.then_n ?_
          have hstep := ps_one (s := s) (k := k) (by omega) (by omega)
          rw [hstep] at hsp
          refine ⟨k + 1, acc ++ [⟨2, 0, false, []⟩], A80, c81, by omega, ?_⟩
          refine ⟨(((hz87.put _ _).put _ _).put _ _), ?_, ?_, ?_, (by simpa using hO83.raise (m := w82.heap.size) (by omega)), hF_85, (by omega), (by simp; omega), (by simpa using hsp)⟩
          · exact (at_other rfl _ (at_other rfl _ (at_other rfl _ (s0_89))))
          · exact Eq.trans (at_other rfl _ (at_other rfl _ (at_other rfl _ (s3_90)))) (V.sl_eq (by simp))
          · exact Eq.trans (at_same ((hz87.put _ _).put _ _) rfl _) (V.int_eq (by omega))
        ·
          refine V.seq (fun K92 hK93 => ?_)
          refine V.region (by kernel_rfl) ?_
          refine V.go (V.mv (v := (.string s)) (s0_67) ?_)
          refine V.go (V.mv (v := (.int .i64 (k : Int))) (at_other rfl _ (s4_69)) ?_)
          refine V.go (V.ixs s .i64 (k : Int) (at_other rfl _ (at_same hz65 rfl _)) (at_same (hz65.put _ _) rfl _) (by omega) (by omega) (by kernel_rfl) ?_)
          have hb94 := byt_lt s (k : Int)
          refine V.go (V.pvw [(45, .int .u8 (bi s (k : Int)))] ⟨(at_same ((hz65.put _ _).put _ _) rfl _), trivial⟩ (by kernel_rfl) (.bool ((bi s (k : Int)) == 91)) (.bool (decide ((bi s (k : Int)) = 91))) (by kernel_rfl) V.t_eql ?_)
          refine V.go (V.asg (v := (.bool (decide ((bi s (k : Int)) = 91)))) (at_same (((hz65.put _ _).put _ _).put _ _) rfl _) ?_)
          refine V.nil ?_
          refine V.then_n (hK93 _ _ ?_)
          refine V.flushW (((((hz65.put _ _).put _ _).put _ _).put _ _).put _ _) (fun a95 hz96 up97 => ?_)
          have s0_98 : a95.eval (.tmp 0) = (.string s) := up97 _ _ (at_other rfl _ (at_other rfl _ (at_other rfl _ (at_other rfl _ (at_other rfl _ (s0_67))))))
          have s3_99 : a95.eval (.tmp 3) = (.slice A acc.length c) := up97 _ _ (at_other rfl _ (at_other rfl _ (at_other rfl _ (at_other rfl _ (at_other rfl _ (s3_68))))))
          have s4_100 : a95.eval (.tmp 4) = (.int .i64 (k : Int)) := up97 _ _ (at_other rfl _ (at_other rfl _ (at_other rfl _ (at_other rfl _ (at_other rfl _ (s4_69))))))
          have s42_101 : a95.eval (.tmp 42) = (.bool (decide ((bi s (k : Int)) = 91))) := up97 _ _ (at_same ((((hz65.put _ _).put _ _).put _ _).put _ _) rfl _)
          clear up97
          refine V.condP (p := (bi s (k : Int)) = 91) (s42_101) (fun ht102 => ?_) (fun ht102 => ?_)
          ·
            refine V.seq (fun K103 hK104 => ?_)
            refine V.region (by kernel_rfl) ?_
            refine V.go (V.mv (v := (.string s)) (s0_98) ?_)
            refine V.go (V.mv (v := (.int .i64 (k : Int))) (at_other rfl _ (s4_100)) ?_)
            refine V.go (V.pvw [(49, .int .i64 (k : Int))] ⟨(at_same (hz96.put _ _) rfl _), trivial⟩ (by kernel_rfl) (.int .i64 (IntKind.i64.wrap ((k : Int) + 1))) (.int .i64 ((k : Int) + 1)) (by kernel_rfl) (V.w_i64 (by omega) (by omega)) ?_)
            refine V.go (V.sls s ((k : Int) + 1) (s.size : Int) (at_other rfl _ (at_other rfl _ (at_same hz96 rfl _))) ⟨_, (at_same ((hz96.put _ _).put _ _) rfl _)⟩ rfl (by omega) (by omega) (by omega) (by kernel_rfl) ?_)
            refine V.go (V.call 30 #[] #[.string (s.extract ((k : Int) + 1 : Int).toNat ((s.size : Int) : Int).toNat)] evf (args1 (at_same (((hz96.put _ _).put _ _).put _ _) rfl _)) (Go.Proofs.enters_of Try.func30 (by kernel_rfl) rfl) (rclass_any w10 (s.extract ((k : Int) + 1 : Int).toNat ((s.size : Int) : Int).toNat) (by rw [ByteArray.size_extract]; omega)) ?_)
            rintro _ w110 ⟨A105, c106, rfl, hcl107, hF108⟩
            refine ⟨_, rfl, ?_⟩
            have hsw110 := hF108.size
            have hO_111 := hO_15.fr0 hF108
            have hF_112 := hF_16.new hF108
            have hcz109 := hcl107.zi hO_15 (Nat.le_refl _) (by omega); have hcle112 := cls_le (ints (s.extract ((k : Int) + 1 : Int).toNat ((s.size : Int) : Int).toNat)); rw [ints_length, ByteArray.size_extract] at hcle112
            refine V.go (V.mv (v := (.tuple #[.agg #[.int .i64 4, .int .u8 0, .bool ((cls (ints (s.extract ((k : Int) + 1 : Int).toNat ((s.size : Int) : Int).toNat))).1.neg), .slice A105 ((cls (ints (s.extract ((k : Int) + 1 : Int).toNat ((s.size : Int) : Int).toNat))).1.rs.length) c106], .int .i64 ((cls (ints (s.extract ((k : Int) + 1 : Int).toNat ((s.size : Int) : Int).toNat))).2 : Int)])) (at_same ((((hz96.put _ _).put _ _).put _ _).put _ _) rfl _) ?_)
            refine V.go (V.pv [(47, .tuple #[.agg #[.int .i64 4, .int .u8 0, .bool ((cls (ints (s.extract ((k : Int) + 1 : Int).toNat ((s.size : Int) : Int).toNat))).1.neg), .slice A105 ((cls (ints (s.extract ((k : Int) + 1 : Int).toNat ((s.size : Int) : Int).toNat))).1.rs.length) c106], .int .i64 ((cls (ints (s.extract ((k : Int) + 1 : Int).toNat ((s.size : Int) : Int).toNat))).2 : Int)])] ⟨(at_same (((((hz96.put _ _).put _ _).put _ _).put _ _).put _ _) rfl _), trivial⟩ (by kernel_rfl) (.agg #[.int .i64 4, .int .u8 0, .bool ((cls (ints (s.extract ((k : Int) + 1 : Int).toNat ((s.size : Int) : Int).toNat))).1.neg), .slice A105 ((cls (ints (s.extract ((k : Int) + 1 : Int).toNat ((s.size : Int) : Int).toNat))).1.rs.length) c106]) (by kernel_rfl) ?_)
            refine V.go (V.pv [(47, .tuple #[.agg #[.int .i64 4, .int .u8 0, .bool ((cls (ints (s.extract ((k : Int) + 1 : Int).toNat ((s.size : Int) : Int).toNat))).1.neg), .slice A105 ((cls (ints (s.extract ((k : Int) + 1 : Int).toNat ((s.size : Int) : Int).toNat))).1.rs.length) c106], .int .i64 ((cls (ints (s.extract ((k : Int) + 1 : Int).toNat ((s.size : Int) : Int).toNat))).2 : Int)])] ⟨(at_other rfl _ (at_same (((((hz96.put _ _).put _ _).put _ _).put _ _).put _ _) rfl _)), trivial⟩ (by kernel_rfl) (.int .i64 ((cls (ints (s.extract ((k : Int) + 1 : Int).toNat ((s.size : Int) : Int).toNat))).2 : Int)) (by kernel_rfl) ?_)
            refine V.go (V.mk [] trivial (by kernel_rfl) [.int .i64 0, .int .u8 0, .bool false, .slice none 0 0] 42 (fun b => .pointer (some ⟨b, 0, none⟩)) (by kernel_rfl) ?_)
            intro w114 b113 heb113 hB115 hF116 hsb113
            have hO_117 := hO_111.fr0 hF116
            have hF_118 := hF_112.new hF116
            have hcz109_119 := hcz109.fr0 hF116
            refine V.go (V.stn b113 0 (.agg #[.int .i64 4, .int .u8 0, .bool ((cls (ints (s.extract ((k : Int) + 1 : Int).toNat ((s.size : Int) : Int).toNat))).1.neg), .slice A105 ((cls (ints (s.extract ((k : Int) + 1 : Int).toNat ((s.size : Int) : Int).toNat))).1.rs.length) c106]) [.int .i64 4, .int .u8 0, .bool ((cls (ints (s.extract ((k : Int) + 1 : Int).toNat ((s.size : Int) : Int).toNat))).1.neg), .slice A105 ((cls (ints (s.extract ((k : Int) + 1 : Int).toNat ((s.size : Int) : Int).toNat))).1.rs.length) c106] (at_same ((((((((hz96.put _ _).put _ _).put _ _).put _ _).put _ _).put _ _).put _ _).put _ _) rfl _) (at_other rfl _ (at_other rfl _ (at_same ((((((hz96.put _ _).put _ _).put _ _).put _ _).put _ _).put _ _) rfl _))) rfl rfl (by kernel_rfl) hB115 (by simp) [.int .i64 4, .int .u8 0, .bool ((cls (ints (s.extract ((k : Int) + 1 : Int).toNat ((s.size : Int) : Int).toNat))).1.neg), .slice A105 ((cls (ints (s.extract ((k : Int) + 1 : Int).toNat ((s.size : Int) : Int).toNat))).1.rs.length) c106] rfl ?_)
            intro w120 hB121 hF122 hsw120
            have hO_123 := hO_117.frn hF122 (fun h => by have h1 := h.1; have h2 := h.2.1; omega) (by first | exact own_ne hO_117 (by omega) | exact own_ne2 hO_15 (by omega))
            have hF_124 := hF_118.own hF122 (by simp <;> omega)
            have hcz109_125 := hcz109_119.frz hF122 (by omega)
            refine V.go (V.asg (v := (.int .i64 ((cls (ints (s.extract ((k : Int) + 1 : Int).toNat ((s.size : Int) : Int).toNat))).2 : Int))) (at_other rfl _ (at_same (((((((hz96.put _ _).put _ _).put _ _).put _ _).put _ _).put _ _).put _ _) rfl _)) ?_)
            refine V.nil ?_
            refine V.then_n (hK104 _ _ ?_)
            refine V.flushW ((((((((((hz96.put _ _).put _ _).put _ _).put _ _).put _ _).put _ _).put _ _).put _ _).put _ _).put _ _) (fun a126 hz127 up128 => ?_)
            have s0_129 : a126.eval (.tmp 0) = (.string s) := up128 _ _ (at_other rfl _ (at_other rfl _ (at_other rfl _ (at_other rfl _ (at_other rfl _ (at_other rfl _ (at_other rfl _ (at_other rfl _ (at_other rfl _ (at_other rfl _ (s0_98)))))))))))
            have s3_130 : a126.eval (.tmp 3) = (.slice A acc.length c) := up128 _ _ (at_other rfl _ (at_other rfl _ (at_other rfl _ (at_other rfl _ (at_other rfl _ (at_other rfl _ (at_other rfl _ (at_other rfl _ (at_other rfl _ (at_other rfl _ (s3_99)))))))))))
            have s4_131 : a126.eval (.tmp 4) = (.int .i64 (k : Int)) := up128 _ _ (at_other rfl _ (at_other rfl _ (at_other rfl _ (at_other rfl _ (at_other rfl _ (at_other rfl _ (at_other rfl _ (at_other rfl _ (at_other rfl _ (at_other rfl _ (s4_100)))))))))))
            have s5_132 : a126.eval (.tmp 5) = (.pointer (some ⟨b113, 0, none⟩)) := up128 _ _ (at_other rfl _ (at_same ((((((((hz96.put _ _).put _ _).put _ _).put _ _).put _ _).put _ _).put _ _).put _ _) rfl _))
            have s6_133 : a126.eval (.tmp 6) = (.int .i64 ((cls (ints (s.extract ((k : Int) + 1 : Int).toNat ((s.size : Int) : Int).toNat))).2 : Int)) := up128 _ _ (at_same (((((((((hz96.put _ _).put _ _).put _ _).put _ _).put _ _).put _ _).put _ _).put _ _).put _ _) rfl _)
            clear up128
            refine V.seq (fun K134 hK135 => ?_)
            refine V.region (by kernel_rfl) ?_
            refine V.go (V.mv (v := (.slice A acc.length c)) (s3_130) ?_)
            refine V.go (V.lds ⟨b113, 0, none⟩ [.int .i64 4, .int .u8 0, .bool ((cls (ints (s.extract ((k : Int) + 1 : Int).toNat ((s.size : Int) : Int).toNat))).1.neg), .slice A105 ((cls (ints (s.extract ((k : Int) + 1 : Int).toNat ((s.size : Int) : Int).toNat))).1.rs.length) c106] (at_other rfl _ (s5_132)) (by kernel_rfl) (blk_cells hB121 0 _ rfl) ?_)
            refine V.go (V.mk [(56, .agg #[.int .i64 4, .int .u8 0, .bool ((cls (ints (s.extract ((k : Int) + 1 : Int).toNat ((s.size : Int) : Int).toNat))).1.neg), .slice A105 ((cls (ints (s.extract ((k : Int) + 1 : Int).toNat ((s.size : Int) : Int).toNat))).1.rs.length) c106])] ⟨(at_same (hz127.put _ _) rfl _), trivial⟩ (by kernel_rfl) [.int .i64 4, .int .u8 0, .bool ((cls (ints (s.extract ((k : Int) + 1 : Int).toNat ((s.size : Int) : Int).toNat))).1.neg), .slice A105 ((cls (ints (s.extract ((k : Int) + 1 : Int).toNat ((s.size : Int) : Int).toNat))).1.rs.length) c106] 42 (fun b => .slice (some ⟨b, 0, none⟩) 1 1) (by kernel_rfl) ?_)
            intro w137 b136 heb136 hB138 hF139 hsb136
            have hO_140 := hO_123.fr0 hF139
            have hF_141 := hF_124.new hF139
            have hcz109_142 := hcz109_125.fr0 hF139
            have hB121_143 := hB121.fr0 hF139
            refine V.go (V.app (R := globR) (ys := ([(cls (ints (s.extract ((k : Int) + 1 : Int).toNat ((s.size : Int) : Int).toNat))).1])) (news := [.int .i64 4, .int .u8 0, .bool ((cls (ints (s.extract ((k : Int) + 1 : Int).toNat ((s.size : Int) : Int).toNat))).1.neg), .slice A105 ((cls (ints (s.extract ((k : Int) + 1 : Int).toNat ((s.size : Int) : Int).toNat))).1.rs.length) c106]) (at_other rfl _ (at_other rfl _ (at_same hz127 rfl _))) ⟨b136, 0, none⟩ 1 1 (at_same ((hz127.put _ _).put _ _) rfl _) (by kernel_rfl) (info42) (by kernel_rfl) (by decide) (hO_140.raise (m := w137.heap.size) (by omega)) rfl ⟨[.int .i64 4, .int .u8 0, .bool ((cls (ints (s.extract ((k : Int) + 1 : Int).toNat ((s.size : Int) : Int).toNat))).1.neg), .slice A105 ((cls (ints (s.extract ((k : Int) + 1 : Int).toNat ((s.size : Int) : Int).toNat))).1.rs.length) c106], [], rfl, ⟨_, (by rw [cls_kind, cls_c]), hcz109_142.zraise (by omega)⟩, rfl⟩ (blk_cells hB138 0 _ rfl) (by omega) (by decide) (by omega) ?_)
            intro A144 c145 w146 hO147z hF148 hatw146
            have hsw146 := hF148.size
            have hF_149 := hF_141.own hF148 (own_ge hO_140 (by omega))
            have hB121_150 := hB121_143.fr hF148 (by first | exact own_notin hO_140 (by omega) | exact own_notin2 hO_15 (by omega))
            have hO147 := hO147z.zi hatw146
            refine V.go (V.asg (v := (.slice A144 (acc.length + 1) c145)) (at_same (((hz127.put _ _).put _ _).put _ _) rfl _) ?_)
            refine V.nil ?_
            refine V.then_n (hK135 _ _ ?_)
            refine V.flushW (((((hz127.put _ _).put _ _).put _ _).put _ _).put _ _) (fun a151 hz152 up153 => ?_)
            have s0_154 : a151.eval (.tmp 0) = (.string s) := up153 _ _ (at_other rfl _ (at_other rfl _ (at_other rfl _ (at_other rfl _ (at_other rfl _ (s0_129))))))
            have s3_155 : a151.eval (.tmp 3) = (.slice A144 (acc.length + 1) c145) := up153 _ _ (at_same ((((hz127.put _ _).put _ _).put _ _).put _ _) rfl _)
            have s4_156 : a151.eval (.tmp 4) = (.int .i64 (k : Int)) := up153 _ _ (at_other rfl _ (at_other rfl _ (at_other rfl _ (at_other rfl _ (at_other rfl _ (s4_131))))))
            have s6_157 : a151.eval (.tmp 6) = (.int .i64 ((cls (ints (s.extract ((k : Int) + 1 : Int).toNat ((s.size : Int) : Int).toNat))).2 : Int)) := up153 _ _ (at_other rfl _ (at_other rfl _ (at_other rfl _ (at_other rfl _ (at_other rfl _ (s6_133))))))
            clear up153
            refine V.region (by kernel_rfl) ?_
            refine V.go (V.mv (v := (.int .i64 (k : Int))) (s4_156) ?_)
            refine V.go (V.pvw [(59, .int .i64 (k : Int))] ⟨(at_same hz152 rfl _), trivial⟩ (by kernel_rfl) (.int .i64 (IntKind.i64.wrap ((k : Int) + 1))) (.int .i64 ((k : Int) + 1)) (by kernel_rfl) (V.w_i64 (by omega) (by omega)) ?_)
            refine V.go (V.mv (v := (.int .i64 ((cls (ints (s.extract ((k : Int) + 1 : Int).toNat ((s.size : Int) : Int).toNat))).2 : Int))) (at_other rfl _ (at_other rfl _ (s6_157))) ?_)
            refine V.go (V.pvw [(60, .int .i64 ((k : Int) + 1)), (61, .int .i64 ((cls (ints (s.extract ((k : Int) + 1 : Int).toNat ((s.size : Int) : Int).toNat))).2 : Int))] ⟨(at_other rfl _ (at_same (hz152.put _ _) rfl _)), (at_same ((hz152.put _ _).put _ _) rfl _), trivial⟩ (by kernel_rfl) (.int .i64 (IntKind.i64.wrap (((k : Int) + 1) + ((cls (ints (s.extract ((k : Int) + 1 : Int).toNat ((s.size : Int) : Int).toNat))).2 : Int)))) (.int .i64 (((k : Int) + 1) + ((cls (ints (s.extract ((k : Int) + 1 : Int).toNat ((s.size : Int) : Int).toNat))).2 : Int))) (by kernel_rfl) (V.w_i64 (by omega) (by omega)) ?_)
            refine V.go (V.asg (v := (.int .i64 (((k : Int) + 1) + ((cls (ints (s.extract ((k : Int) + 1 : Int).toNat ((s.size : Int) : Int).toNat))).2 : Int)))) (at_same (((hz152.put _ _).put _ _).put _ _) rfl _) ?_)
            refine V.nil ?_
            refine V.blk_n ?_
            refine V.blk_n ?_
            refine V.then_n ?_
            have hstep := ps_cls (s := s) (k := k) (by omega) (by omega)
            rw [hstep] at hsp
            have hfrom := ints_from s k
            have hcl1 := cls_le ((ints s).drop (k + 1))
            rw [List.length_drop] at hcl1
            refine ⟨k + 1 + (cls ((ints s).drop (k + 1))).2, acc ++ [(cls (ints (s.extract ((k : Int) + 1 : Int).toNat ((s.size : Int) : Int).toNat))).1], A144, c145, by omega, ?_⟩
            refine ⟨(((((hz152.put _ _).put _ _).put _ _).put _ _).put _ _), ?_, ?_, ?_, (by simpa using hO147.raise (m := w146.heap.size) (by omega)), hF_149, (by omega), (by simp; omega), (by rw [ints_from]; simpa using hsp)⟩
            · exact (at_other rfl _ (at_other rfl _ (at_other rfl _ (at_other rfl _ (at_other rfl _ (s0_154))))))
            · exact Eq.trans (at_other rfl _ (at_other rfl _ (at_other rfl _ (at_other rfl _ (at_other rfl _ (s3_155)))))) (V.sl_eq (by simp))
            · exact Eq.trans (at_same ((((hz152.put _ _).put _ _).put _ _).put _ _) rfl _) (by rw [ints_from]; exact V.int_eq (by omega))
          ·
            refine V.seq (fun K158 hK159 => ?_)
            refine V.region (by kernel_rfl) ?_
            refine V.go (V.mv (v := (.string s)) (s0_98) ?_)
            refine V.go (V.mv (v := (.int .i64 (k : Int))) (at_other rfl _ (s4_100)) ?_)
            refine V.go (V.ixs s .i64 (k : Int) (at_other rfl _ (at_same hz96 rfl _)) (at_same (hz96.put _ _) rfl _) (by omega) (by omega) (by kernel_rfl) ?_)
            have hb160 := byt_lt s (k : Int)
            refine V.go (V.pvw [(66, .int .u8 (bi s (k : Int)))] ⟨(at_same ((hz96.put _ _).put _ _) rfl _), trivial⟩ (by kernel_rfl) (.bool ((bi s (k : Int)) == 92)) (.bool (decide ((bi s (k : Int)) = 92))) (by kernel_rfl) V.t_eql ?_)
            refine V.go (V.mv (v := (.bool (decide ((bi s (k : Int)) = 92)))) (at_same (((hz96.put _ _).put _ _).put _ _) rfl _) ?_)
            by_cases hg161 : (bi s (k : Int)) = 92
            ·
              refine V.go_on 68 (by kernel_rfl) (((at_same ((((hz96.put _ _).put _ _).put _ _).put _ _) rfl _ : Act.eval _ _ = (.bool (decide ((bi s (k : Int)) = 92))))).trans (dt hg161)) (V.mv (v := (.int .i64 (k : Int))) (at_other rfl _ (at_other rfl _ (at_other rfl _ (at_other rfl _ (at_other rfl _ (s4_100)))))) ?_)
              refine V.go_on 68 (by kernel_rfl) (((at_other rfl _ (at_same ((((hz96.put _ _).put _ _).put _ _).put _ _) rfl _) : Act.eval _ _ = (.bool (decide ((bi s (k : Int)) = 92))))).trans (dt hg161)) (V.pvw [(69, .int .i64 (k : Int))] ⟨(at_same (((((hz96.put _ _).put _ _).put _ _).put _ _).put _ _) rfl _), trivial⟩ (by kernel_rfl) (.int .i64 (IntKind.i64.wrap ((k : Int) + 1))) (.int .i64 ((k : Int) + 1)) (by kernel_rfl) (V.w_i64 (by omega) (by omega)) ?_)
              refine V.go_on 68 (by kernel_rfl) (((at_other rfl _ (at_other rfl _ (at_same ((((hz96.put _ _).put _ _).put _ _).put _ _) rfl _)) : Act.eval _ _ = (.bool (decide ((bi s (k : Int)) = 92))))).trans (dt hg161)) (V.mv (v := (.string s)) (at_other rfl _ (at_other rfl _ (at_other rfl _ (at_other rfl _ (at_other rfl _ (at_other rfl _ (at_other rfl _ (s0_98)))))))) ?_)
              refine V.go_on 68 (by kernel_rfl) (((at_other rfl _ (at_other rfl _ (at_other rfl _ (at_same ((((hz96.put _ _).put _ _).put _ _).put _ _) rfl _))) : Act.eval _ _ = (.bool (decide ((bi s (k : Int)) = 92))))).trans (dt hg161)) (V.pv [(71, .string s)] ⟨(at_same (((((((hz96.put _ _).put _ _).put _ _).put _ _).put _ _).put _ _).put _ _) rfl _), trivial⟩ (by kernel_rfl) (.int .i64 (s.size : Int)) (by kernel_rfl) ?_)
              refine V.go_on 68 (by kernel_rfl) (((at_other rfl _ (at_other rfl _ (at_other rfl _ (at_other rfl _ (at_same ((((hz96.put _ _).put _ _).put _ _).put _ _) rfl _)))) : Act.eval _ _ = (.bool (decide ((bi s (k : Int)) = 92))))).trans (dt hg161)) (V.pv [(70, .int .i64 ((k : Int) + 1)), (72, .int .i64 (s.size : Int))] ⟨(at_other rfl _ (at_other rfl _ (at_same ((((((hz96.put _ _).put _ _).put _ _).put _ _).put _ _).put _ _) rfl _))), (at_same ((((((((hz96.put _ _).put _ _).put _ _).put _ _).put _ _).put _ _).put _ _).put _ _) rfl _), trivial⟩ (by kernel_rfl) (.bool (decide (((k : Int) + 1) < (s.size : Int)))) (by kernel_rfl) ?_)
              refine V.go (V.pk_t (((at_other rfl _ (at_other rfl _ (at_other rfl _ (at_other rfl _ (at_other rfl _ (at_same ((((hz96.put _ _).put _ _).put _ _).put _ _) rfl _))))) : Act.eval _ _ = (.bool (decide ((bi s (k : Int)) = 92))))).trans (dt hg161)) (v := (.bool (decide (((k : Int) + 1) < (s.size : Int))))) (at_same (((((((((hz96.put _ _).put _ _).put _ _).put _ _).put _ _).put _ _).put _ _).put _ _).put _ _) rfl _) ?_)
              refine V.go (V.asg (v := (.bool (decide (((k : Int) + 1) < (s.size : Int))))) (at_same ((((((((((hz96.put _ _).put _ _).put _ _).put _ _).put _ _).put _ _).put _ _).put _ _).put _ _).put _ _) rfl _) ?_)
              refine V.nil ?_
              refine V.then_n (hK159 _ _ ?_)
              refine V.flushW ((((((((((((hz96.put _ _).put _ _).put _ _).put _ _).put _ _).put _ _).put _ _).put _ _).put _ _).put _ _).put _ _).put _ _) (fun a162 hz163 up164 => ?_)
              have s0_165 : a162.eval (.tmp 0) = (.string s) := up164 _ _ (at_other rfl _ (at_other rfl _ (at_other rfl _ (at_other rfl _ (at_other rfl _ (at_other rfl _ (at_other rfl _ (at_other rfl _ (at_other rfl _ (at_other rfl _ (at_other rfl _ (at_other rfl _ (s0_98)))))))))))))
              have s3_166 : a162.eval (.tmp 3) = (.slice A acc.length c) := up164 _ _ (at_other rfl _ (at_other rfl _ (at_other rfl _ (at_other rfl _ (at_other rfl _ (at_other rfl _ (at_other rfl _ (at_other rfl _ (at_other rfl _ (at_other rfl _ (at_other rfl _ (at_other rfl _ (s3_99)))))))))))))
              have s4_167 : a162.eval (.tmp 4) = (.int .i64 (k : Int)) := up164 _ _ (at_other rfl _ (at_other rfl _ (at_other rfl _ (at_other rfl _ (at_other rfl _ (at_other rfl _ (at_other rfl _ (at_other rfl _ (at_other rfl _ (at_other rfl _ (at_other rfl _ (at_other rfl _ (s4_100)))))))))))))
              have s63_168 : a162.eval (.tmp 63) = (.bool (decide (((k : Int) + 1) < (s.size : Int)))) := up164 _ _ (at_same (((((((((((hz96.put _ _).put _ _).put _ _).put _ _).put _ _).put _ _).put _ _).put _ _).put _ _).put _ _).put _ _) rfl _)
              clear up164
              refine V.condP (p := ((k : Int) + 1) < (s.size : Int)) (s63_168) (fun ht169 => ?_) (fun ht169 => ?_)
              ·
                refine V.seq (fun K170 hK171 => ?_)
                refine V.region (by kernel_rfl) ?_
                refine V.go (V.mv (v := (.slice A acc.length c)) (s3_166) ?_)
                refine V.go (V.mv (v := (.string s)) (at_other rfl _ (s0_165)) ?_)
                refine V.go (V.mv (v := (.int .i64 (k : Int))) (at_other rfl _ (at_other rfl _ (s4_167))) ?_)
                refine V.go (V.pvw [(77, .int .i64 (k : Int))] ⟨(at_same ((hz163.put _ _).put _ _) rfl _), trivial⟩ (by kernel_rfl) (.int .i64 (IntKind.i64.wrap ((k : Int) + 1))) (.int .i64 ((k : Int) + 1)) (by kernel_rfl) (V.w_i64 (by omega) (by omega)) ?_)
                refine V.go (V.ixs s .i64 ((k : Int) + 1) (at_other rfl _ (at_other rfl _ (at_same (hz163.put _ _) rfl _))) (at_same (((hz163.put _ _).put _ _).put _ _) rfl _) (by omega) (by omega) (by kernel_rfl) ?_)
                have hb172 := byt_lt s ((k : Int) + 1)
                refine V.go (V.pv [(79, .int .u8 (bi s ((k : Int) + 1)))] ⟨(at_same ((((hz163.put _ _).put _ _).put _ _).put _ _) rfl _), trivial⟩ (by kernel_rfl) (.agg #[.int .i64 3, .int .u8 (bi s ((k : Int) + 1)), .bool false, .slice none 0 0]) (by kernel_rfl) ?_)
                refine V.go (V.mk [(80, .agg #[.int .i64 3, .int .u8 (bi s ((k : Int) + 1)), .bool false, .slice none 0 0])] ⟨(at_same (((((hz163.put _ _).put _ _).put _ _).put _ _).put _ _) rfl _), trivial⟩ (by kernel_rfl) [.int .i64 3, .int .u8 (bi s ((k : Int) + 1)), .bool false, .slice none 0 0] 42 (fun b => .slice (some ⟨b, 0, none⟩) 1 1) (by kernel_rfl) ?_)
                intro w174 b173 heb173 hB175 hF176 hsb173
                have hO_177 := hO_15.fr0 hF176
                have hF_178 := hF_16.new hF176
                refine V.go (V.app (R := globR) (ys := ([⟨3, bi s ((k : Int) + 1), false, []⟩])) (news := [.int .i64 3, .int .u8 (bi s ((k : Int) + 1)), .bool false, .slice none 0 0]) (at_other rfl _ (at_other rfl _ (at_other rfl _ (at_other rfl _ (at_other rfl _ (at_other rfl _ (at_same hz163 rfl _))))))) ⟨b173, 0, none⟩ 1 1 (at_same ((((((hz163.put _ _).put _ _).put _ _).put _ _).put _ _).put _ _) rfl _) (by kernel_rfl) (info42) (by kernel_rfl) (by decide) (hO_177.raise (m := w174.heap.size) (by omega)) rfl ⟨[.int .i64 3, .int .u8 (bi s ((k : Int) + 1)), .bool false, .slice none 0 0], [], rfl, ⟨_, rfl, SlR.nil _ _ _⟩, rfl⟩ (blk_cells hB175 0 _ rfl) (by omega) (by decide) (by omega) ?_)
                intro A179 c180 w181 hO182z hF183 hatw181
                have hsw181 := hF183.size
                have hF_184 := hF_178.own hF183 (own_ge hO_177 (by omega))
                have hO182 := hO182z.zi hatw181
                refine V.go (V.asg (v := (.slice A179 (acc.length + 1) c180)) (at_same (((((((hz163.put _ _).put _ _).put _ _).put _ _).put _ _).put _ _).put _ _) rfl _) ?_)
                refine V.nil ?_
                refine V.then_n (hK171 _ _ ?_)
                refine V.flushW (((((((((hz163.put _ _).put _ _).put _ _).put _ _).put _ _).put _ _).put _ _).put _ _).put _ _) (fun a185 hz186 up187 => ?_)
                have s0_188 : a185.eval (.tmp 0) = (.string s) := up187 _ _ (at_other rfl _ (at_other rfl _ (at_other rfl _ (at_other rfl _ (at_other rfl _ (at_other rfl _ (at_other rfl _ (at_other rfl _ (at_other rfl _ (s0_165))))))))))
                have s3_189 : a185.eval (.tmp 3) = (.slice A179 (acc.length + 1) c180) := up187 _ _ (at_same ((((((((hz163.put _ _).put _ _).put _ _).put _ _).put _ _).put _ _).put _ _).put _ _) rfl _)
                have s4_190 : a185.eval (.tmp 4) = (.int .i64 (k : Int)) := up187 _ _ (at_other rfl _ (at_other rfl _ (at_other rfl _ (at_other rfl _ (at_other rfl _ (at_other rfl _ (at_other rfl _ (at_other rfl _ (at_other rfl _ (s4_167))))))))))
                clear up187
                refine V.region (by kernel_rfl) ?_
                refine V.go (V.mv (v := (.int .i64 (k : Int))) (s4_190) ?_)
                refine V.go (V.pvw [(83, .int .i64 (k : Int))] ⟨(at_same hz186 rfl _), trivial⟩ (by kernel_rfl) (.int .i64 (IntKind.i64.wrap ((k : Int) + 2))) (.int .i64 ((k : Int) + 2)) (by kernel_rfl) (V.w_i64 (by omega) (by omega)) ?_)
                refine V.go (V.asg (v := (.int .i64 ((k : Int) + 2))) (at_same (hz186.put _ _) rfl _) ?_)
                refine V.nil ?_
                refine V.blk_n ?_
                refine V.blk_n ?_
                refine V.then_n ?_
                have hstep := ps_esc (s := s) (k := k) (by omega) (by omega)
                rw [hstep] at hsp
                refine ⟨k + 2, acc ++ [⟨3, bi s ((k : Int) + 1), false, []⟩], A179, c180, by omega, ?_⟩
                refine ⟨(((hz186.put _ _).put _ _).put _ _), ?_, ?_, ?_, (by simpa using hO182.raise (m := w181.heap.size) (by omega)), hF_184, (by omega), (by simp; omega), (by simpa using hsp)⟩
                · exact (at_other rfl _ (at_other rfl _ (at_other rfl _ (s0_188))))
                · exact Eq.trans (at_other rfl _ (at_other rfl _ (at_other rfl _ (s3_189)))) (V.sl_eq (by simp))
                · exact Eq.trans (at_same ((hz186.put _ _).put _ _) rfl _) (V.int_eq (by omega))
              ·
                refine V.seq (fun K191 hK192 => ?_)
                refine V.region (by kernel_rfl) ?_
                refine V.go (V.mv (v := (.slice A acc.length c)) (s3_166) ?_)
                refine V.go (V.mv (v := (.string s)) (at_other rfl _ (s0_165)) ?_)
                refine V.go (V.mv (v := (.int .i64 (k : Int))) (at_other rfl _ (at_other rfl _ (s4_167))) ?_)
                refine V.go (V.ixs s .i64 (k : Int) (at_other rfl _ (at_same (hz163.put _ _) rfl _)) (at_same ((hz163.put _ _).put _ _) rfl _) (by omega) (by omega) (by kernel_rfl) ?_)
                have hb193 := byt_lt s (k : Int)
                refine V.go (V.pv [(14, .int .u8 (bi s (k : Int)))] ⟨(at_same (((hz163.put _ _).put _ _).put _ _) rfl _), trivial⟩ (by kernel_rfl) (.agg #[.int .i64 3, .int .u8 (bi s (k : Int)), .bool false, .slice none 0 0]) (by kernel_rfl) ?_)
                refine V.go (V.mk [(15, .agg #[.int .i64 3, .int .u8 (bi s (k : Int)), .bool false, .slice none 0 0])] ⟨(at_same ((((hz163.put _ _).put _ _).put _ _).put _ _) rfl _), trivial⟩ (by kernel_rfl) [.int .i64 3, .int .u8 (bi s (k : Int)), .bool false, .slice none 0 0] 42 (fun b => .slice (some ⟨b, 0, none⟩) 1 1) (by kernel_rfl) ?_)
                intro w195 b194 heb194 hB196 hF197 hsb194
                have hO_198 := hO_15.fr0 hF197
                have hF_199 := hF_16.new hF197
                refine V.go (V.app (R := globR) (ys := ([⟨3, bi s (k : Int), false, []⟩])) (news := [.int .i64 3, .int .u8 (bi s (k : Int)), .bool false, .slice none 0 0]) (at_other rfl _ (at_other rfl _ (at_other rfl _ (at_other rfl _ (at_other rfl _ (at_same hz163 rfl _)))))) ⟨b194, 0, none⟩ 1 1 (at_same (((((hz163.put _ _).put _ _).put _ _).put _ _).put _ _) rfl _) (by kernel_rfl) (info42) (by kernel_rfl) (by decide) (hO_198.raise (m := w195.heap.size) (by omega)) rfl ⟨[.int .i64 3, .int .u8 (bi s (k : Int)), .bool false, .slice none 0 0], [], rfl, ⟨_, rfl, SlR.nil _ _ _⟩, rfl⟩ (blk_cells hB196 0 _ rfl) (by omega) (by decide) (by omega) ?_)
                intro A200 c201 w202 hO203z hF204 hatw202
                have hsw202 := hF204.size
                have hF_205 := hF_199.own hF204 (own_ge hO_198 (by omega))
                have hO203 := hO203z.zi hatw202
                refine V.go (V.asg (v := (.slice A200 (acc.length + 1) c201)) (at_same ((((((hz163.put _ _).put _ _).put _ _).put _ _).put _ _).put _ _) rfl _) ?_)
                refine V.nil ?_
                refine V.then_n (hK192 _ _ ?_)
                refine V.flushW ((((((((hz163.put _ _).put _ _).put _ _).put _ _).put _ _).put _ _).put _ _).put _ _) (fun a206 hz207 up208 => ?_)
                have s0_209 : a206.eval (.tmp 0) = (.string s) := up208 _ _ (at_other rfl _ (at_other rfl _ (at_other rfl _ (at_other rfl _ (at_other rfl _ (at_other rfl _ (at_other rfl _ (at_other rfl _ (s0_165)))))))))
                have s3_210 : a206.eval (.tmp 3) = (.slice A200 (acc.length + 1) c201) := up208 _ _ (at_same (((((((hz163.put _ _).put _ _).put _ _).put _ _).put _ _).put _ _).put _ _) rfl _)
                have s4_211 : a206.eval (.tmp 4) = (.int .i64 (k : Int)) := up208 _ _ (at_other rfl _ (at_other rfl _ (at_other rfl _ (at_other rfl _ (at_other rfl _ (at_other rfl _ (at_other rfl _ (at_other rfl _ (s4_167)))))))))
                clear up208
                refine V.region (by kernel_rfl) ?_
                refine V.go (V.mv (v := (.int .i64 (k : Int))) (s4_211) ?_)
                refine V.go (V.pvw [(18, .int .i64 (k : Int))] ⟨(at_same hz207 rfl _), trivial⟩ (by kernel_rfl) (.int .i64 (IntKind.i64.wrap ((k : Int) + 1))) (.int .i64 ((k : Int) + 1)) (by kernel_rfl) (V.w_i64 (by omega) (by omega)) ?_)
                refine V.go (V.asg (v := (.int .i64 ((k : Int) + 1))) (at_same (hz207.put _ _) rfl _) ?_)
                refine V.nil ?_
                refine V.blk_n ?_
                refine V.blk_n ?_
                refine V.then_n ?_
                have hstep := ps_byte (s := s) (k := k) (by omega) (by omega) (by omega) (by omega) (by omega)
                rw [hstep] at hsp
                refine ⟨k + 1, acc ++ [⟨3, bi s (k : Int), false, []⟩], A200, c201, by omega, ?_⟩
                refine ⟨(((hz207.put _ _).put _ _).put _ _), ?_, ?_, ?_, (by simpa using hO203.raise (m := w202.heap.size) (by omega)), hF_205, (by omega), (by simp; omega), (by simpa using hsp)⟩
                · exact (at_other rfl _ (at_other rfl _ (at_other rfl _ (s0_209))))
                · exact Eq.trans (at_other rfl _ (at_other rfl _ (at_other rfl _ (s3_210)))) (V.sl_eq (by simp))
                · exact Eq.trans (at_same ((hz207.put _ _).put _ _) rfl _) (V.int_eq (by omega))
            ·
              refine V.go_off 68 (by kernel_rfl) (((at_same ((((hz96.put _ _).put _ _).put _ _).put _ _) rfl _ : Act.eval _ _ = (.bool (decide ((bi s (k : Int)) = 92))))).trans (df hg161)) (by kernel_rfl) ?_
              refine V.go_off 68 (by kernel_rfl) (((at_other rfl _ (at_same ((((hz96.put _ _).put _ _).put _ _).put _ _) rfl _) : Act.eval _ _ = (.bool (decide ((bi s (k : Int)) = 92))))).trans (df hg161)) (by kernel_rfl) ?_
              refine V.go_off 68 (by kernel_rfl) (((at_other rfl _ (at_other rfl _ (at_same ((((hz96.put _ _).put _ _).put _ _).put _ _) rfl _)) : Act.eval _ _ = (.bool (decide ((bi s (k : Int)) = 92))))).trans (df hg161)) (by kernel_rfl) ?_
              refine V.go_off 68 (by kernel_rfl) (((at_other rfl _ (at_other rfl _ (at_other rfl _ (at_same ((((hz96.put _ _).put _ _).put _ _).put _ _) rfl _))) : Act.eval _ _ = (.bool (decide ((bi s (k : Int)) = 92))))).trans (df hg161)) (by kernel_rfl) ?_
              refine V.go_off 68 (by kernel_rfl) (((at_other rfl _ (at_other rfl _ (at_other rfl _ (at_other rfl _ (at_same ((((hz96.put _ _).put _ _).put _ _).put _ _) rfl _)))) : Act.eval _ _ = (.bool (decide ((bi s (k : Int)) = 92))))).trans (df hg161)) (by kernel_rfl) ?_
              refine V.go (V.pk_f (((at_other rfl _ (at_other rfl _ (at_other rfl _ (at_other rfl _ (at_other rfl _ (at_same ((((hz96.put _ _).put _ _).put _ _).put _ _) rfl _))))) : Act.eval _ _ = (.bool (decide ((bi s (k : Int)) = 92))))).trans (df hg161)) (v := (.bool false)) evc ?_)
              refine V.go (V.asg (v := (.bool false)) (at_same ((((((((((hz96.put _ _).put _ _).put _ _).put _ _).put _ _).put _ _).put _ _).put _ _).put _ _).put _ _) rfl _) ?_)
              refine V.nil ?_
              refine V.then_n (hK159 _ _ ?_)
              refine V.flushW ((((((((((((hz96.put _ _).put _ _).put _ _).put _ _).put _ _).put _ _).put _ _).put _ _).put _ _).put _ _).put _ _).put _ _) (fun a212 hz213 up214 => ?_)
              have s0_215 : a212.eval (.tmp 0) = (.string s) := up214 _ _ (at_other rfl _ (at_other rfl _ (at_other rfl _ (at_other rfl _ (at_other rfl _ (at_other rfl _ (at_other rfl _ (at_other rfl _ (at_other rfl _ (at_other rfl _ (at_other rfl _ (at_other rfl _ (s0_98)))))))))))))
              have s3_216 : a212.eval (.tmp 3) = (.slice A acc.length c) := up214 _ _ (at_other rfl _ (at_other rfl _ (at_other rfl _ (at_other rfl _ (at_other rfl _ (at_other rfl _ (at_other rfl _ (at_other rfl _ (at_other rfl _ (at_other rfl _ (at_other rfl _ (at_other rfl _ (s3_99)))))))))))))
              have s4_217 : a212.eval (.tmp 4) = (.int .i64 (k : Int)) := up214 _ _ (at_other rfl _ (at_other rfl _ (at_other rfl _ (at_other rfl _ (at_other rfl _ (at_other rfl _ (at_other rfl _ (at_other rfl _ (at_other rfl _ (at_other rfl _ (at_other rfl _ (at_other rfl _ (s4_100)))))))))))))
              have s63_218 : a212.eval (.tmp 63) = (.bool false) := up214 _ _ (at_same (((((((((((hz96.put _ _).put _ _).put _ _).put _ _).put _ _).put _ _).put _ _).put _ _).put _ _).put _ _).put _ _) rfl _)
              clear up214
              refine V.cond_f (s63_218) ?_
              refine V.seq (fun K219 hK220 => ?_)
              refine V.region (by kernel_rfl) ?_
              refine V.go (V.mv (v := (.slice A acc.length c)) (s3_216) ?_)
              refine V.go (V.mv (v := (.string s)) (at_other rfl _ (s0_215)) ?_)
              refine V.go (V.mv (v := (.int .i64 (k : Int))) (at_other rfl _ (at_other rfl _ (s4_217))) ?_)
              refine V.go (V.ixs s .i64 (k : Int) (at_other rfl _ (at_same (hz213.put _ _) rfl _)) (at_same ((hz213.put _ _).put _ _) rfl _) (by omega) (by omega) (by kernel_rfl) ?_)
              have hb221 := byt_lt s (k : Int)
              refine V.go (V.pv [(14, .int .u8 (bi s (k : Int)))] ⟨(at_same (((hz213.put _ _).put _ _).put _ _) rfl _), trivial⟩ (by kernel_rfl) (.agg #[.int .i64 3, .int .u8 (bi s (k : Int)), .bool false, .slice none 0 0]) (by kernel_rfl) ?_)
              refine V.go (V.mk [(15, .agg #[.int .i64 3, .int .u8 (bi s (k : Int)), .bool false, .slice none 0 0])] ⟨(at_same ((((hz213.put _ _).put _ _).put _ _).put _ _) rfl _), trivial⟩ (by kernel_rfl) [.int .i64 3, .int .u8 (bi s (k : Int)), .bool false, .slice none 0 0] 42 (fun b => .slice (some ⟨b, 0, none⟩) 1 1) (by kernel_rfl) ?_)
              intro w223 b222 heb222 hB224 hF225 hsb222
              have hO_226 := hO_15.fr0 hF225
              have hF_227 := hF_16.new hF225
              refine V.go (V.app (R := globR) (ys := ([⟨3, bi s (k : Int), false, []⟩])) (news := [.int .i64 3, .int .u8 (bi s (k : Int)), .bool false, .slice none 0 0]) (at_other rfl _ (at_other rfl _ (at_other rfl _ (at_other rfl _ (at_other rfl _ (at_same hz213 rfl _)))))) ⟨b222, 0, none⟩ 1 1 (at_same (((((hz213.put _ _).put _ _).put _ _).put _ _).put _ _) rfl _) (by kernel_rfl) (info42) (by kernel_rfl) (by decide) (hO_226.raise (m := w223.heap.size) (by omega)) rfl ⟨[.int .i64 3, .int .u8 (bi s (k : Int)), .bool false, .slice none 0 0], [], rfl, ⟨_, rfl, SlR.nil _ _ _⟩, rfl⟩ (blk_cells hB224 0 _ rfl) (by omega) (by decide) (by omega) ?_)
              intro A228 c229 w230 hO231z hF232 hatw230
              have hsw230 := hF232.size
              have hF_233 := hF_227.own hF232 (own_ge hO_226 (by omega))
              have hO231 := hO231z.zi hatw230
              refine V.go (V.asg (v := (.slice A228 (acc.length + 1) c229)) (at_same ((((((hz213.put _ _).put _ _).put _ _).put _ _).put _ _).put _ _) rfl _) ?_)
              refine V.nil ?_
              refine V.then_n (hK220 _ _ ?_)
              refine V.flushW ((((((((hz213.put _ _).put _ _).put _ _).put _ _).put _ _).put _ _).put _ _).put _ _) (fun a234 hz235 up236 => ?_)
              have s0_237 : a234.eval (.tmp 0) = (.string s) := up236 _ _ (at_other rfl _ (at_other rfl _ (at_other rfl _ (at_other rfl _ (at_other rfl _ (at_other rfl _ (at_other rfl _ (at_other rfl _ (s0_215)))))))))
              have s3_238 : a234.eval (.tmp 3) = (.slice A228 (acc.length + 1) c229) := up236 _ _ (at_same (((((((hz213.put _ _).put _ _).put _ _).put _ _).put _ _).put _ _).put _ _) rfl _)
              have s4_239 : a234.eval (.tmp 4) = (.int .i64 (k : Int)) := up236 _ _ (at_other rfl _ (at_other rfl _ (at_other rfl _ (at_other rfl _ (at_other rfl _ (at_other rfl _ (at_other rfl _ (at_other rfl _ (s4_217)))))))))
              clear up236
              refine V.region (by kernel_rfl) ?_
              refine V.go (V.mv (v := (.int .i64 (k : Int))) (s4_239) ?_)
              refine V.go (V.pvw [(18, .int .i64 (k : Int))] ⟨(at_same hz235 rfl _), trivial⟩ (by kernel_rfl) (.int .i64 (IntKind.i64.wrap ((k : Int) + 1))) (.int .i64 ((k : Int) + 1)) (by kernel_rfl) (V.w_i64 (by omega) (by omega)) ?_)
              refine V.go (V.asg (v := (.int .i64 ((k : Int) + 1))) (at_same (hz235.put _ _) rfl _) ?_)
              refine V.nil ?_
              refine V.blk_n ?_
              refine V.blk_n ?_
              refine V.then_n ?_
              have hstep := ps_byte (s := s) (k := k) (by omega) (by omega) (by omega) (by omega) (by omega)
              rw [hstep] at hsp
              refine ⟨k + 1, acc ++ [⟨3, bi s (k : Int), false, []⟩], A228, c229, by omega, ?_⟩
              refine ⟨(((hz235.put _ _).put _ _).put _ _), ?_, ?_, ?_, (by simpa using hO231.raise (m := w230.heap.size) (by omega)), hF_233, (by omega), (by simp; omega), (by simpa using hsp)⟩
              · exact (at_other rfl _ (at_other rfl _ (at_other rfl _ (s0_237))))
              · exact Eq.trans (at_other rfl _ (at_other rfl _ (at_other rfl _ (s3_238)))) (V.sl_eq (by simp))
              · exact Eq.trans (at_same ((hz235.put _ _).put _ _) rfl _) (V.int_eq (by omega))
    ·
      refine V.exit ?_
      refine V.then_e ?_
      refine V.then_e ?_
      refine V.blk_hit ?_
      refine V.then_n (hK6 _ _ ?_)
      refine V.seq (fun K240 hK241 => ?_)
      refine V.region (by kernel_rfl) ?_
      refine V.go (V.mv (v := (.slice A acc.length c)) (s3_26) ?_)
      refine V.go (V.asg (v := (.slice A acc.length c)) (at_same hz23 rfl _) ?_)
      refine V.nil ?_
      refine V.then_n (hK241 _ _ ?_)
      refine V.ret ?_
      refine V.ret1 ((hz23.put _ _).put _ _) rfl (at_same (hz23.put _ _) rfl _) ?_
      rw [ps_end (s := s) (k := k) (by omega), List.append_nil] at hsp
      exact ⟨A, c, by rw [← hsp], by rw [← hsp]; exact (hO_15.raise (m := w10.heap.size) (by omega)).readi, hF_16⟩
end Go.Proofs.Ytmlohijidjbbjaa
