/- Walks: the set of bytes that a part matches. -/
import Derived.Test.YtmlohijidjbbjaaProg
import Derived.Test.YtmlohijidjbbjaaWi
namespace Go.Proofs.Ytmlohijidjbbjaa
open Go.V Go.Base
attribute [local irreducible] Act.put Act.eval
set_option linter.unusedVariables false
set_option linter.unusedSimpArgs false
theorem wds_four {xs : List Nat} (h : Wds xs) : ∃ n0 n1 n2 n3, xs = [n0, n1, n2, n3] := by
  match xs, h.1 with
  | [a, b, c, d], _ => exact ⟨a, b, c, d, rfl⟩
theorem bits_t {g : Glob} {fold : Bool} {xs : List Nat} {k : Nat} (h : Wds xs) (hk : k < 256) (hb : ∀ d, d < 256 → bitS xs d = (decide (d < k) && setB g (d : Int) fold)) (ht : setB g (k : Int) fold = true) :
    ∀ d, d < 256 → bitS (putS xs k) d = (decide (d < k + 1) && setB g (d : Int) fold) := by
  intro d hd
  rw [bitS_put h hk, hb d hd]
  by_cases h1 : d = k
  · subst h1; simp [ht]
  · by_cases h2 : d < k
    · simp [h1, h2, show d < k + 1 by omega]
    · simp [h1, h2, show ¬ d < k + 1 by omega]
theorem bits_f {g : Glob} {fold : Bool} {xs : List Nat} {k : Nat} (hb : ∀ d, d < 256 → bitS xs d = (decide (d < k) && setB g (d : Int) fold)) (ht : setB g (k : Int) fold = false) :
    ∀ d, d < 256 → bitS xs d = (decide (d < k + 1) && setB g (d : Int) fold) := by
  intro d hd
  rw [hb d hd]
  by_cases h1 : d = k
  · subst h1; simp [ht]
  · by_cases h2 : d < k
    · simp [h2, show d < k + 1 by omega]
    · simp [h2, show ¬ d < k + 1 by omega]
set_option maxHeartbeats 4000000 in
set_option maxRecDepth 20000 in
theorem matched_any (w : World) (g : Glob) (A : Option Addr) (cap : Nat) (fold : Bool) (hg0 : 0 ≤ g.c) (hg1 : g.c ≤ 255) (hrs : ∀ i : Int, GoodS (at_ spanR g.rs i)) (hS : SlR spanR (fun b => b < w.heap.size) w (.slice A g.rs.length cap) g.rs) : Calls Try.prog 26 #[.agg #[.int .i64 g.kind, .int .u8 g.c, .bool g.neg, .slice A g.rs.length cap], .bool fold] w (fun e w' => ∃ n0 n1 n2 n3 : Nat, e = .returned (.agg #[.int .u64 (n0 : Int), .int .u64 (n1 : Int), .int .u64 (n2 : Int), .int .u64 (n3 : Int)]) ∧ Wds [n0, n1, n2, n3] ∧ (∀ d : Nat, d < 256 → bitS [n0, n1, n2, n3] d = setB g (d : Int) fold) ∧ Fr [] w w') := by
  have hF := Fr.refl [] w
  refine V.enter 21 Try.func26 rfl rfl ?_
  intro a hz ha
  have s0 : a.eval (.tmp 0) = (.agg #[.int .i64 g.kind, .int .u8 g.c, .bool g.neg, .slice A g.rs.length cap]) := ha 0 _ rfl
  have s1 : a.eval (.tmp 1) = (.bool fold) := ha 1 _ rfl
  clear ha
  refine V.seq (fun K1 hK2 => ?_)
  refine V.region (by kernel_rfl) ?_
  refine V.go (V.mk [(0, .agg #[.int .i64 g.kind, .int .u8 g.c, .bool g.neg, .slice A g.rs.length cap])] ⟨(s0), trivial⟩ (by kernel_rfl) [.int .i64 g.kind, .int .u8 g.c, .bool g.neg, .slice A g.rs.length cap] 42 (fun b => .pointer (some ⟨b, 0, none⟩)) (by kernel_rfl) ?_)
  intro w4 b3 heb3 hB5 hF6 hsb3
  have hF_7 := hF.new hF6
  have hS_8 := hS.fr0 hF6
  refine V.go (V.mk [(1, .bool fold)] ⟨(at_other rfl _ (s1)), trivial⟩ (by kernel_rfl) [.bool fold] 4 (fun b => .pointer (some ⟨b, 0, none⟩)) (by kernel_rfl) ?_)
  intro w10 b9 heb9 hB11 hF12 hsb9
  have hF_13 := hF_7.new hF12
  have hS_14 := hS_8.fr0 hF12
  have hB5_15 := hB5.fr0 hF12
  refine V.go (V.mk [] trivial (by kernel_rfl) [.int .u64 0, .int .u64 0, .int .u64 0, .int .u64 0] 45 (fun b => .pointer (some ⟨b, 0, none⟩)) (by kernel_rfl) ?_)
  intro w17 b16 heb16 hB18 hF19 hsb16
  have hF_20 := hF_13.new hF19
  have hS_21 := hS_14.fr0 hF19
  have hB5_22 := hB5_15.fr0 hF19
  have hB11_23 := hB11.fr0 hF19
  refine V.nil ?_
  refine V.then_n (hK2 _ _ ?_)
  refine V.seq (fun K24 hK25 => ?_)
  refine V.region (by kernel_rfl) ?_
  refine V.go (V.mk [] trivial (by kernel_rfl) [.int .u64 0, .int .u64 0, .int .u64 0, .int .u64 0] 45 (fun b => .pointer (some ⟨b, 0, none⟩)) (by kernel_rfl) ?_)
  intro w27 b26 heb26 hB28 hF29 hsb26
  have hF_30 := hF_20.new hF29
  have hS_31 := hS_21.fr0 hF29
  have hB5_32 := hB5_22.fr0 hF29
  have hB11_33 := hB11_23.fr0 hF29
  have hB18_34 := hB18.fr0 hF29
  refine V.nil ?_
  refine V.then_n (hK25 _ _ ?_)
  refine V.flushW ((((hz.put _ _).put _ _).put _ _).put _ _) (fun a35 hz36 up37 => ?_)
  have s2_38 : a35.eval (.tmp 2) = (.pointer (some ⟨b3, 0, none⟩)) := up37 _ _ (at_other rfl _ (at_other rfl _ (at_other rfl _ (at_same hz rfl _))))
  have s3_39 : a35.eval (.tmp 3) = (.pointer (some ⟨b9, 0, none⟩)) := up37 _ _ (at_other rfl _ (at_other rfl _ (at_same (hz.put _ _) rfl _)))
  have s4_40 : a35.eval (.tmp 4) = (.pointer (some ⟨b16, 0, none⟩)) := up37 _ _ (at_other rfl _ (at_same ((hz.put _ _).put _ _) rfl _))
  have s5_41 : a35.eval (.tmp 5) = (.pointer (some ⟨b26, 0, none⟩)) := up37 _ _ (at_same (((hz.put _ _).put _ _).put _ _) rfl _)
  clear up37
  refine V.seq (fun K42 hK43 => ?_)
  refine V.region (by kernel_rfl) ?_
  refine V.go (V.pv [(2, .pointer (some ⟨b3, 0, none⟩)), (3, .pointer (some ⟨b9, 0, none⟩))] ⟨(s2_38), (s3_39), trivial⟩ (by kernel_rfl) (.func (.func 34) #[] #[.pointer (some ⟨b3, 0, none⟩), .pointer (some ⟨b9, 0, none⟩)]) (by kernel_rfl) ?_)
  refine V.go (V.asg (v := (.func (.func 34) #[] #[.pointer (some ⟨b3, 0, none⟩), .pointer (some ⟨b9, 0, none⟩)])) (at_same hz36 rfl _) ?_)
  refine V.nil ?_
  refine V.then_n (hK43 _ _ ?_)
  refine V.seq (fun K44 hK45 => ?_)
  refine V.seq (fun K46 hK47 => ?_)
  have hR48 : Row (fun n : Nat => Value.int .u64 (n : Int)) w27 b26 [0, 0, 0, 0] 45 := ⟨hB28⟩
  refine V.region (by kernel_rfl) ?_
  refine V.go (V.mv (v := (.int .i64 0)) evc ?_)
  refine V.nil ?_
  refine V.then_n (hK47 _ _ ?_)
  refine V.block ?_
  refine V.loop2 (fun (k : Nat) (xs : List Nat) a_ w_ => Sz 21 a_ ∧ a_.eval (.tmp 4) = (.pointer (some ⟨b16, 0, none⟩)) ∧ a_.eval (.tmp 5) = (.pointer (some ⟨b26, 0, none⟩)) ∧ a_.eval (.tmp 6) = (.func (.func 34) #[] #[.pointer (some ⟨b3, 0, none⟩), .pointer (some ⟨b9, 0, none⟩)]) ∧ a_.eval (.tmp 9) = (.int .i64 (k : Int)) ∧ Row (fun n : Nat => Value.int .u64 (n : Int)) w_ b26 xs 45 ∧ Fr [] w w_ ∧ SlR spanR (fun b => b < w.heap.size) w_ (.slice A g.rs.length cap) g.rs ∧ Blk w_ b3 [.int .i64 g.kind, .int .u8 g.c, .bool g.neg, .slice A g.rs.length cap] 42 ∧ Blk w_ b9 [.bool fold] 4 ∧ Blk w_ b16 [.int .u64 0, .int .u64 0, .int .u64 0, .int .u64 0] 45 ∧ (k ≤ 256) ∧ (Wds xs) ∧ (∀ d, d < 256 → bitS xs d = (decide (d < k) && setB g (d : Int) fold))) (fun (k : Nat) (xs : List Nat) => 256 - k) 0 ([0, 0, 0, 0]) ?_ ?_
  ·
    refine ⟨(((hz36.put _ _).put _ _).put _ _), ?_, ?_, ?_, ?_, hR48, hF_30, hS_31, hB5_32, hB11_33, hB18_34, (by omega), Wds.zero, (fun d _ => by rw [bitS_zero]; simp)⟩
    · exact (at_other rfl _ (at_other rfl _ (at_other rfl _ (s4_40))))
    · exact (at_other rfl _ (at_other rfl _ (at_other rfl _ (s5_41))))
    · exact (at_other rfl _ (at_same (hz36.put _ _) rfl _))
    · exact Eq.trans (at_same ((hz36.put _ _).put _ _) rfl _) (V.int_eq (by omega))
  ·
    rintro k xs a49 w50 ⟨hz51, s4_52, s5_53, s6_54, s9_55, hR_56, hF_57, hS_58, hB5_59, hB11_60, hB18_61, hk, hxs, hbits⟩
    have hlt62 := hR_56.lt
    have hfs63 := hF_57.size
    have hlt64 := hB5_59.lt
    have hlt65 := hB11_60.lt
    have hlt66 := hB18_61.lt
    refine V.seq (fun K67 hK68 => ?_)
    refine V.region (by kernel_rfl) ?_
    refine V.go (V.pv [(9, .int .i64 (k : Int))] ⟨(s9_55), trivial⟩ (by kernel_rfl) (.bool (decide ((k : Int) < 256))) (by kernel_rfl) ?_)
    refine V.nil ?_
    refine V.then_n (hK68 _ _ ?_)
    refine V.seq (fun K69 hK70 => ?_)
    refine V.condP (p := (k : Int) < 256) (at_same hz51 rfl _) (fun ht71 => ?_) (fun ht71 => ?_)
    ·
      refine V.skip ?_
      refine V.then_n (hK70 _ _ ?_)
      refine V.seq (fun K72 hK73 => ?_)
      refine V.block ?_
      refine V.seq (fun K74 hK75 => ?_)
      refine V.region (by kernel_rfl) ?_
      refine V.go (V.mv (v := (.int .i64 (k : Int))) (at_other rfl _ (s9_55)) ?_)
      refine V.go (V.asg (v := (.int .i64 (k : Int))) (at_same (hz51.put _ _) rfl _) ?_)
      refine V.nil ?_
      refine V.then_n (hK75 _ _ ?_)
      refine V.seq (fun K76 hK77 => ?_)
      refine V.region (by kernel_rfl) ?_
      refine V.go (V.mv (v := (.func (.func 34) #[] #[.pointer (some ⟨b3, 0, none⟩), .pointer (some ⟨b9, 0, none⟩)])) (at_other rfl _ (at_other rfl _ (at_other rfl _ (s6_54)))) ?_)
      refine V.go (V.mv (v := (.int .i64 (k : Int))) (at_other rfl _ (at_same ((hz51.put _ _).put _ _) rfl _)) ?_)
      refine V.go (V.pvw [(13, .int .i64 (k : Int))] ⟨(at_same ((((hz51.put _ _).put _ _).put _ _).put _ _) rfl _), trivial⟩ (by kernel_rfl) (.int .u8 (IntKind.u8.wrap (k : Int))) (.int .u8 (k : Int)) (by kernel_rfl) (V.w_u8 (by omega) (by omega)) ?_)
      refine V.go (V.call 34 #[.pointer (some ⟨b3, 0, none⟩), .pointer (some ⟨b9, 0, none⟩)] #[.int .u8 (k : Int)] (at_other rfl _ (at_other rfl _ (at_same (((hz51.put _ _).put _ _).put _ _) rfl _))) (args1 (at_same (((((hz51.put _ _).put _ _).put _ _).put _ _).put _ _) rfl _)) (Go.Proofs.enters_of Try.func34 (by kernel_rfl) rfl) (matched1_any w50 g A cap b3 b9 (k : Int) fold (by omega) (by omega) hg0 hg1 hrs hB5_59 hB11_60 (hS_58.zone fun b hb _ => hb)) ?_)
      rintro _ w79 ⟨rfl, hF78⟩
      refine ⟨_, rfl, ?_⟩
      have hsw79 := hF78.size
      have hR_80 := hR_56.fr0 hF78
      have hF_81 := hF_57.new hF78
      have hS_82 := hS_58.fr0 hF78
      have hB5_83 := hB5_59.fr0 hF78
      have hB11_84 := hB11_60.fr0 hF78
      have hB18_85 := hB18_61.fr0 hF78
      refine V.nil ?_
      refine V.then_n (hK77 _ _ ?_)
      refine V.flushW (((((((hz51.put _ _).put _ _).put _ _).put _ _).put _ _).put _ _).put _ _) (fun a86 hz87 up88 => ?_)
      have s4_89 : a86.eval (.tmp 4) = (.pointer (some ⟨b16, 0, none⟩)) := up88 _ _ (at_other rfl _ (at_other rfl _ (at_other rfl _ (at_other rfl _ (at_other rfl _ (at_other rfl _ (at_other rfl _ (s4_52))))))))
      have s5_90 : a86.eval (.tmp 5) = (.pointer (some ⟨b26, 0, none⟩)) := up88 _ _ (at_other rfl _ (at_other rfl _ (at_other rfl _ (at_other rfl _ (at_other rfl _ (at_other rfl _ (at_other rfl _ (s5_53))))))))
      have s6_91 : a86.eval (.tmp 6) = (.func (.func 34) #[] #[.pointer (some ⟨b3, 0, none⟩), .pointer (some ⟨b9, 0, none⟩)]) := up88 _ _ (at_other rfl _ (at_other rfl _ (at_other rfl _ (at_other rfl _ (at_other rfl _ (at_other rfl _ (at_other rfl _ (s6_54))))))))
      have s7_92 : a86.eval (.tmp 7) = (.int .i64 (k : Int)) := up88 _ _ (at_other rfl _ (at_other rfl _ (at_other rfl _ (at_other rfl _ (at_same ((hz51.put _ _).put _ _) rfl _)))))
      have s9_93 : a86.eval (.tmp 9) = (.int .i64 (k : Int)) := up88 _ _ (at_other rfl _ (at_other rfl _ (at_other rfl _ (at_other rfl _ (at_other rfl _ (at_other rfl _ (at_other rfl _ (s9_55))))))))
      have s15_94 : a86.eval (.tmp 15) = (.bool (setB g (k : Int) fold)) := up88 _ _ (at_same ((((((hz51.put _ _).put _ _).put _ _).put _ _).put _ _).put _ _) rfl _)
      clear up88
      refine V.cond (s15_94) (fun ht95 => ?_) (fun ht95q => ?_)
      ·
        refine V.region (by kernel_rfl) ?_
        refine V.go (V.mv (v := (.int .i64 (k : Int))) (s7_92) ?_)
        refine V.go (V.pvw [(16, .int .i64 (k : Int))] ⟨(at_same hz87 rfl _), trivial⟩ (by kernel_rfl) (.int .u8 (IntKind.u8.wrap (k : Int))) (.int .u8 (k : Int)) (by kernel_rfl) (V.w_u8 (by omega) (by omega)) ?_)
        refine V.go (V.call 36 #[] #[.pointer (some ⟨b26, 0, none⟩), .int .u8 (k : Int)] evf (args2 (at_other rfl _ (at_other rfl _ (s5_90))) (at_same (hz87.put _ _) rfl _)) (Go.Proofs.enters_of Try.func36 (by kernel_rfl) rfl) (put_any w79 b26 k 45 xs (by omega) hxs hR_80) ?_)
        rintro _ w98 ⟨rfl, hR96, hF97⟩
        refine ⟨_, rfl, ?_⟩
        have hsw98 := hF97.size
        have hF_99 := hF_81.own hF97 (by simp <;> omega)
        have hS_100 := hS_82.fr hF97 (by simp <;> omega)
        have hB5_101 := hB5_83.fr1 hF97 (by omega)
        have hB11_102 := hB11_84.fr1 hF97 (by omega)
        have hB18_103 := hB18_85.fr1 hF97 (by omega)
        refine V.nil ?_
        refine V.blk_n ?_
        refine V.then_n (hK73 _ _ ?_)
        refine V.region (by kernel_rfl) ?_
        refine V.go (V.pvw [(9, .int .i64 (k : Int))] ⟨(at_other rfl _ (at_other rfl _ (at_other rfl _ (s9_93)))), trivial⟩ (by kernel_rfl) (.int .i64 (IntKind.i64.wrap ((k : Int) + 1))) (.int .i64 ((k : Int) + 1)) (by kernel_rfl) (V.w_i64 (by omega) (by omega)) ?_)
        refine V.go (V.mv (v := (.int .i64 ((k : Int) + 1))) (at_same (((hz87.put _ _).put _ _).put _ _) rfl _) ?_)
        refine V.nil ?_
        refine V.then_n ?_
        refine ⟨k + 1, putS xs k, by omega, ?_⟩
        refine ⟨(((((hz87.put _ _).put _ _).put _ _).put _ _).put _ _), ?_, ?_, ?_, ?_, hR96, hF_99, hS_100, hB5_101, hB11_102, hB18_103, (by omega), (hxs.put (by omega)), (bits_t hxs (by omega) hbits ht95)⟩
        · exact (at_other rfl _ (at_other rfl _ (at_other rfl _ (at_other rfl _ (at_other rfl _ (s4_89))))))
        · exact (at_other rfl _ (at_other rfl _ (at_other rfl _ (at_other rfl _ (at_other rfl _ (s5_90))))))
        · exact (at_other rfl _ (at_other rfl _ (at_other rfl _ (at_other rfl _ (at_other rfl _ (s6_91))))))
        · exact Eq.trans (at_same ((((hz87.put _ _).put _ _).put _ _).put _ _) rfl _) (V.int_eq (by omega))
      ·
        have ht95 : ¬ ((setB g (k : Int) fold) = true) := by rw [ht95q]; simp
        refine V.skip ?_
        refine V.blk_n ?_
        refine V.then_n (hK73 _ _ ?_)
        refine V.region (by kernel_rfl) ?_
        refine V.go (V.pvw [(9, .int .i64 (k : Int))] ⟨(s9_93), trivial⟩ (by kernel_rfl) (.int .i64 (IntKind.i64.wrap ((k : Int) + 1))) (.int .i64 ((k : Int) + 1)) (by kernel_rfl) (V.w_i64 (by omega) (by omega)) ?_)
        refine V.go (V.mv (v := (.int .i64 ((k : Int) + 1))) (at_same hz87 rfl _) ?_)
        refine V.nil ?_
        refine V.then_n ?_
        refine ⟨k + 1, xs, by omega, ?_⟩
        refine ⟨((hz87.put _ _).put _ _), ?_, ?_, ?_, ?_, hR_80, hF_81, hS_82, hB5_83, hB11_84, hB18_85, (by omega), hxs, (bits_f hbits (Bool.not_eq_true _ ▸ ht95))⟩
        · exact (at_other rfl _ (at_other rfl _ (s4_89)))
        · exact (at_other rfl _ (at_other rfl _ (s5_90)))
        · exact (at_other rfl _ (at_other rfl _ (s6_91)))
        · exact Eq.trans (at_same (hz87.put _ _) rfl _) (V.int_eq (by omega))
    ·
      refine V.exit ?_
      refine V.then_e ?_
      refine V.then_e ?_
      refine V.blk_hit ?_
      refine V.then_n (hK45 _ _ ?_)
      refine V.seq (fun K104 hK105 => ?_)
      obtain ⟨n0, n1, n2, n3, rfl⟩ := wds_four hxs
      have hB106 : Blk w50 b26 [.int .u64 (n0 : Int), .int .u64 (n1 : Int), .int .u64 (n2 : Int), .int .u64 (n3 : Int)] 45 := hR_56.blk
      refine V.region (by kernel_rfl) ?_
      refine V.go (V.lds ⟨b26, 0, none⟩ [.int .u64 (n0 : Int), .int .u64 (n1 : Int), .int .u64 (n2 : Int), .int .u64 (n3 : Int)] (at_other rfl _ (s5_53)) (by kernel_rfl) (blk_cells hB106 0 _ rfl) ?_)
      refine V.go (V.stn b16 0 (.agg #[.int .u64 (n0 : Int), .int .u64 (n1 : Int), .int .u64 (n2 : Int), .int .u64 (n3 : Int)]) [.int .u64 (n0 : Int), .int .u64 (n1 : Int), .int .u64 (n2 : Int), .int .u64 (n3 : Int)] (at_other rfl _ (at_other rfl _ (s4_52))) (at_same (hz51.put _ _) rfl _) rfl rfl (by kernel_rfl) hB18_61 (by simp) [.int .u64 (n0 : Int), .int .u64 (n1 : Int), .int .u64 (n2 : Int), .int .u64 (n3 : Int)] rfl ?_)
      intro w107 hB108 hF109 hsw107
      have hF_110 := hF_57.own hF109 (by simp <;> omega)
      have hS_111 := hS_58.fr hF109 (by simp <;> omega)
      have hB5_112 := hB5_59.fr1 hF109 (by omega)
      have hB11_113 := hB11_60.fr1 hF109 (by omega)
      have hB106_114 := hB106.fr1 hF109 (by omega)
      refine V.nil ?_
      refine V.then_n (hK105 _ _ ?_)
      refine V.ret ?_
      refine V.retC ((hz51.put _ _).put _ _) rfl _ (at_other rfl _ (at_other rfl _ (s4_52))) (V.run_loadVar_agg (cs := [.int .u64 (n0 : Int), .int .u64 (n1 : Int), .int .u64 (n2 : Int), .int .u64 (n3 : Int)]) (by kernel_rfl) (blk_cells hB108 0 _ rfl)) ?_
      exact ⟨n0, n1, n2, n3, rfl, hxs, fun d hd => by (rw [hbits d hd, decide_eq_true (show d < k by omega)]; rfl), hF_110⟩
end Go.Proofs.Ytmlohijidjbbjaa
