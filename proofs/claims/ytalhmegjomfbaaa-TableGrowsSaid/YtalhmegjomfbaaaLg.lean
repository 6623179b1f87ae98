/- Walks: TableGrows. -/
import Derived.Test.YtalhmegjomfbaaaProg
import Derived.Test.YtalhmegjomfbaaaLo
namespace Go.Proofs.Ytalhmegjomfbaaa
open Go.V Go.Base
open Go.RowKit (Below)
attribute [local irreducible] Act.put Act.eval
set_option linter.unusedVariables false
set_option linter.unusedSimpArgs false
set_option maxHeartbeats 4000000 in
set_option maxRecDepth 20000 in
theorem power_any (w : World) (n : Nat) (hn : P2 n) (hb : n ≤ 1048576) : Calls Try.prog 23 #[.int .i64 (n : Int)] w (fun e w' => e = .returned (.bool true) ∧ Fr [] w w') := by
 have hF := Fr.refl [] w
 refine V.enter 11 Try.func23 rfl rfl ?_
 intro a hz ha
 have s0 : a.eval (.tmp 0) = (.int .i64 (n : Int)) := ha 0 _ rfl
 clear ha
 refine V.seq (fun K1 hK2 => ?_)
 refine V.region (by kernel_rfl) ?_
 refine V.go (V.asg evc ?_)
 refine V.nil ?_
 refine V.then_n (hK2 _ _ ?_)
 refine V.seq (fun K3 hK4 => ?_)
 refine V.seq (fun K5 hK6 => ?_)
 refine V.region (by kernel_rfl) ?_
 refine V.go (V.asg evc ?_)
 refine V.nil ?_
 refine V.then_n (hK6 _ _ ?_)
 refine V.block ?_
 refine V.loop1 (fun (k : Nat) a_ w_ => Sz 11 a_ ∧ a_.eval (.tmp 0) = (.int .i64 (n : Int)) ∧ a_.eval (.tmp 3) = (.int .i64 (k : Int)) ∧ Fr [] w w_ ∧ (P2 k) ∧ (k ≤ n)) (fun (k : Nat) => n - k) 4 ?_ ?_
 ·
  refine ⟨hz.p2, ?_, ?_, hF, P2.four, hn.pos⟩
  · exact Eq.trans (o2 rfl s0) (V.int_eq (by omega))
  · exact Eq.trans (at_same hz.p1 rfl _) (V.int_eq (by omega))
 ·
  rintro k a7 w8 ⟨hz9, s0_10, s3_11, hF_12, hk, hkn⟩
  have hfs13 := hF_12.size
  refine V.seq (fun K14 hK15 => ?_)
  refine V.seq (fun K16 hK17 => ?_)
  refine V.region (by kernel_rfl) ?_
  refine V.go (V.mv (s3_11) ?_)
  refine V.go (V.pv [(4, .int .i64 (k : Int))] ⟨(at_same hz9 rfl _), trivial⟩ (by kernel_rfl) (.bool (decide ((k : Int) ≤ 1048576))) (by kernel_rfl) ?_)
  refine V.nil ?_
  refine V.then_n (hK17 _ _ ?_)
  refine V.condP (p := (k : Int) ≤ 1048576) (at_same hz9.p1 rfl _) (fun ht18 => ?_) (fun ht18 => ?_)
  ·
   refine V.skip ?_
   refine V.then_n (hK15 _ _ ?_)
   refine V.seq (fun K19 hK20 => ?_)
   refine V.block ?_
   refine V.seq (fun K21 hK22 => ?_)
   refine V.region (by kernel_rfl) ?_
   refine V.go (V.mv (o2 rfl s0_10) ?_)
   refine V.go (V.mv (o2 rfl (o1 rfl s3_11)) ?_)
   refine V.go (V.pvw [(8, .int .i64 (n : Int)), (9, .int .i64 (k : Int))] ⟨(o1 rfl (at_same hz9.p2 rfl _)), (at_same hz9.p2.p1 rfl _), trivial⟩ (by kernel_rfl) (.bool ((n : Int) == (k : Int))) (.bool (decide ((n : Int) = (k : Int)))) (by kernel_rfl) V.t_eql ?_)
   refine V.nil ?_
   refine V.then_n (hK22 _ _ ?_)
   refine V.flushW hz9.p4.p1 (fun a23 hz24 up25 => ?_)
   have s0_26 := up25 0 _ (o4 rfl (o1 rfl s0_10))
   have s3_27 := up25 3 _ (o4 rfl (o1 rfl s3_11))
   have s10_28 := up25 10 _ (at_same hz9.p4 rfl _)
   clear up25
   refine V.condP (p := (n : Int) = (k : Int)) (s10_28) (fun ht29 => ?_) (fun ht29 => ?_)
   ·
    refine V.seq (fun K30 hK31 => ?_)
    refine V.region (by kernel_rfl) ?_
    refine V.go (V.asg evc ?_)
    refine V.nil ?_
    refine V.then_n (hK31 _ _ ?_)
    refine V.ret ?_
    refine V.blk_r ?_
    refine V.then_r ?_
    refine V.then_r ?_
    refine V.blk_r ?_
    refine V.then_r ?_
    refine V.ret1 hz24.p1 rfl (at_same hz24 rfl _) ?_
    exact ⟨rfl, hF_12⟩
   ·
    refine V.skip ?_
    refine V.blk_n ?_
    refine V.then_n (hK20 _ _ ?_)
    refine V.region (by kernel_rfl) ?_
    refine V.go (V.mv (s3_27) ?_)
    refine V.go (V.pvw [(6, .int .i64 (k : Int))] ⟨(at_same hz24 rfl _), trivial⟩ (by kernel_rfl) (.int .i64 (IntKind.i64.wrap ((k : Int) * 2))) (.int .i64 ((k : Int) * 2)) (by kernel_rfl) (V.w_i64 (by omega) (by omega)) ?_)
    refine V.go (V.asg (at_same hz24.p1 rfl _) ?_)
    refine V.nil ?_
    refine V.then_n ?_
    refine ⟨2 * k, by (have := hk.pos; have := hk.next hn hkn (by omega); omega), ?_⟩
    refine ⟨hz24.p2.p1, ?_, ?_, hF_12, hk.dbl, (hk.next hn hkn (by omega))⟩
    · exact Eq.trans (o2 rfl (o1 rfl s0_26)) (V.int_eq (by omega))
    · exact Eq.trans (at_same hz24.p2 rfl _) (V.int_eq (by omega))
  ·
   refine V.exit ?_
   refine V.then_e ?_
   refine V.then_e ?_
   refine V.blk_hit ?_
   refine V.then_n (hK4 _ _ ?_)
   refine V.seq (fun K32 hK33 => ?_)
   refine V.region (by kernel_rfl) ?_
   refine V.go (V.asg evc ?_)
   refine V.nil ?_
   refine V.then_n (hK33 _ _ ?_)
   refine V.ret ?_
   refine V.ret1 hz9.p2.p1 rfl (at_same hz9.p2 rfl _) ?_
   exact absurd hkn (by omega)
set_option maxHeartbeats 4000000 in
set_option maxRecDepth 20000 in
theorem tableGrows_any (w : World) (seed : Nat) (hsd : seed < 18446744073709551616) (A0 : Option Addr) (c0 : Nat) (l : List OpD) (hS : SlR opR (fun k => k < w.heap.size) w (.slice A0 l.length c0) l) : Calls Try.prog 6 #[.int .u64 (seed : Int), .slice A0 l.length c0] w (fun e w' => e = .returned (.bool true) ∧ Fr [] w w') := by
 have hF := Fr.refl [] w
 refine V.enter 90 Try.func6 rfl rfl ?_
 intro a hz ha
 have s0 : a.eval (.tmp 0) = (.int .u64 (seed : Int)) := ha 0 _ rfl
 have s1 : a.eval (.tmp 1) = (.slice A0 l.length c0) := ha 1 _ rfl
 clear ha
 refine V.seq (fun K1 hK2 => ?_)
 refine V.region (by kernel_rfl) ?_
 refine V.go (V.asg evc ?_)
 refine V.nil ?_
 refine V.then_n (hK2 _ _ ?_)
 refine V.seq (fun K3 hK4 => ?_)
 refine V.region (by kernel_rfl) ?_
 refine V.go (V.mv (o1 rfl s0) ?_)
 refine V.go (V.call 14 #[] #[.int .u64 (seed : Int)] evf (args1 (at_same hz.p1 rfl _)) (Go.Proofs.enters_of Try.func14 (by kernel_rfl) rfl) (new_any w [] (by simp) seed hsd) ?_)
 rintro _ w9 ⟨t5, rfl, hT6, hF7⟩
 refine ⟨_, rfl, ?_⟩
 have hsw9 := hF7.size
 have hF_10 := hF.new hF7
 have hS_11 := hS.fr0 hF7
 have hD8 := D1.new (w0 := w) hT6 (by omega)
 refine V.go (V.asg (v := (.pointer (some ⟨t5, 0, none⟩))) (at_same hz.p2 rfl _) ?_)
 refine V.nil ?_
 refine V.then_n (hK4 _ _ ?_)
 refine V.flushW hz.p4 (fun a12 hz13 up14 => ?_)
 have s0_15 := up14 0 _ (o4 rfl s0)
 have s1_16 := up14 1 _ (o4 rfl s1)
 have s5_17 : a12.eval (.tmp 5) = (.pointer (some ⟨t5, 0, none⟩)) := up14 _ _ (at_same hz.p2.p1 rfl _)
 clear up14
 refine V.seq (fun K18 hK19 => ?_)
 refine V.seq (fun K20 hK21 => ?_)
 refine V.region (by kernel_rfl) ?_
 refine V.go (V.mv (v := (.pointer (some ⟨t5, 0, none⟩))) (s5_17) ?_)
 refine V.go (V.pv [(12, .pointer (some ⟨t5, 0, none⟩))] ⟨(at_same hz13 rfl _), trivial⟩ (by kernel_rfl) (.bool false) (by kernel_rfl) ?_)
 refine V.nil ?_
 refine V.then_n (hK21 _ _ ?_)
 refine V.cond_f (at_same hz13.p1 rfl _) ?_
 refine V.skip ?_
 refine V.then_n (hK19 _ _ ?_)
 refine V.seq (fun K22 hK23 => ?_)
 refine V.seq (fun K24 hK25 => ?_)
 refine V.region (by kernel_rfl) ?_
 refine V.go (V.asg evc ?_)
 refine V.nil ?_
 refine V.then_n (hK25 _ _ ?_)
 refine V.block ?_
 refine V.loop2 (fun (i : Nat) (T : Tb Int) a_ w_ => Sz 90 a_ ∧ a_.eval (.tmp 0) = (.int .u64 (seed : Int)) ∧ a_.eval (.tmp 1) = (.slice A0 l.length c0) ∧ a_.eval (.tmp 5) = (.pointer (some ⟨t5, 0, none⟩)) ∧ a_.eval (.tmp 6) = (.int .i64 (i : Int)) ∧ D1 w w_ ([]) t5 T ∧ Fr [] w w_ ∧ SlR opR (fun k => k < w.heap.size) w_ (.slice A0 l.length c0) l ∧ (i ≤ l.length ∧ i ≤ 200) ∧ (Gd T i)) (fun (i : Nat) (T : Tb Int) => l.length - i) 0 (newT seed) ?_ ?_
 ·
  refine ⟨hz13.p2.p1, ?_, ?_, ?_, ?_, hD8, hF_10, hS_11, (by omega), (Gd.new hsd)⟩
  · exact Eq.trans (o2 rfl (o1 rfl s0_15)) (V.int_eq (by omega))
  · exact (o2 rfl (o1 rfl s1_16))
  · exact (o2 rfl (o1 rfl s5_17))
  · exact Eq.trans (at_same hz13.p2 rfl _) (V.int_eq (by omega))
 ·
  rintro i T a26 w27 ⟨hz28, s0_29, s1_30, s5_31, s6_32, hD_33, hF_34, hS_35, hi, hgT⟩
  have hfs36 := hF_34.size
  have hlen0 := hS.len_le
  refine V.seq (fun K37 hK38 => ?_)
  refine V.seq (fun K39 hK40 => ?_)
  refine V.region (by kernel_rfl) ?_
  refine V.go (V.mv (s6_32) ?_)
  refine V.go (V.mv (o1 rfl s1_30) ?_)
  refine V.go (V.pv [(15, .slice A0 l.length c0)] ⟨(at_same hz28.p1 rfl _), trivial⟩ (by kernel_rfl) (.int .i64 ((l.length : Nat) : Int)) (by kernel_rfl) ?_)
  refine V.go (V.pv [(14, .int .i64 (i : Int)), (16, .int .i64 ((l.length : Nat) : Int))] ⟨(o2 rfl (at_same hz28 rfl _)), (at_same hz28.p2 rfl _), trivial⟩ (by kernel_rfl) (.bool (decide ((i : Int) < ((l.length : Nat) : Int)))) (by kernel_rfl) ?_)
  refine V.go (V.mv (at_same hz28.p2.p1 rfl _) ?_)
  by_cases hg41 : (i : Int) < ((l.length : Nat) : Int)
  ·
   refine V.go_on 18 (by kernel_rfl) (((at_same hz28.p4 rfl _ : Act.eval _ _ = (.bool (decide ((i : Int) < ((l.length : Nat) : Int)))))).trans (dt hg41)) (V.mv (o4 rfl (o1 rfl s6_32)) ?_)
   refine V.go_on 18 (by kernel_rfl) (((o1 rfl (at_same hz28.p4 rfl _) : Act.eval _ _ = (.bool (decide ((i : Int) < ((l.length : Nat) : Int)))))).trans (dt hg41)) (V.pv [(19, .int .i64 (i : Int))] ⟨(at_same hz28.p4.p1 rfl _), trivial⟩ (by kernel_rfl) (.bool (decide ((i : Int) < 200))) (by kernel_rfl) ?_)
   refine V.go (V.pk_t (((o2 rfl (at_same hz28.p4 rfl _) : Act.eval _ _ = (.bool (decide ((i : Int) < ((l.length : Nat) : Int)))))).trans (dt hg41)) (v := (.bool (decide ((i : Int) < 200)))) (at_same hz28.p4.p2 rfl _) ?_)
   refine V.nil ?_
   refine V.then_n (hK40 _ _ ?_)
   refine V.flushW hz28.p8 (fun a42 hz43 up44 => ?_)
   have s0_45 := up44 0 _ (o8 rfl s0_29)
   have s1_46 := up44 1 _ (o8 rfl s1_30)
   have s5_47 : a42.eval (.tmp 5) = (.pointer (some ⟨t5, 0, none⟩)) := up44 _ _ (o8 rfl s5_31)
   have s6_48 := up44 6 _ (o8 rfl s6_32)
   have s21_49 := up44 21 _ (at_same hz28.p4.p2.p1 rfl _)
   clear up44
   refine V.condP (p := (i : Int) < 200) (s21_49) (fun ht50 => ?_) (fun ht50 => ?_)
   ·
    refine V.skip ?_
    refine V.then_n (hK38 _ _ ?_)
    refine V.seq (fun K51 hK52 => ?_)
    refine V.block ?_
    refine V.seq (fun K53 hK54 => ?_)
    refine V.plan [[], [], [1], [], [], [3, 4], [3, 4, 5], [0, 1, 2, 3, 4, 5, 6]] [([0, 1, 3, 4, 5, 6], some (2, [6])), ([], some (7, [])), ([], none)] (by kernel_rfl) (by kernel_rfl) (by exact fun _ _ _ _ h => h) ?_
    simp only [Plan.wpSegs, Plan.pickAll, Plan.nth, V.L_eq]
    obtain ⟨w55, hF56e⟩ : ∃ w1, w1 = w27.drew := ⟨_, rfl⟩
    rw [← hF56e]
    have hF56 : Fr [] w27 w55 := by rw [hF56e]; exact Fr.drew _ _
    have hsw55 : w55.heap.size = w27.heap.size := by rw [hF56e]; rfl
    clear hF56e
    have hD_57 := hD_33.fr0 hF56
    have hF_58 := hF_34.new hF56
    have hS_59 := hS_35.fr0 hF56
    refine V.go (V.mv (v := (.pointer (some ⟨t5, 0, none⟩))) (s5_47) ?_)
    refine V.go (V.mv (o1 rfl s0_45) ?_)
    refine V.go (V.mv (o2 rfl s1_46) ?_)
    refine V.go (V.mv (o2 rfl (o1 rfl s6_48)) ?_)
    obtain ⟨g60, o61, hA62, hA62l, hA62z⟩ := hS_59.addr (by omega)
    refine V.go (V.ixa g60 o61 l.length c0 .i64 (i : Int) 4 ((o1 rfl (at_same hz43.p2 rfl _)).trans (by rw [hA62])) (at_same hz43.p2.p1 rfl _) (by omega) (by omega) (by kernel_rfl) ?_)
    obtain ⟨cs63, hok64, hE65⟩ := hS_59.els hA62 (i : Int) (by omega) (by omega)
    obtain ⟨rfl, hoo66⟩ := hok64
    refine V.go (V.lds ⟨g60, o61 + (i : Int).toNat * 4, none⟩ [.int .i64 ((at_ opR l (i : Int)).kind), .string ((at_ opR l (i : Int)).key), .int .i64 ((at_ opR l (i : Int)).v), .int .u64 ((at_ opR l (i : Int)).draw : Int)] (at_same hz43.p4 rfl _) (by kernel_rfl) (hE65.cells 0 _ rfl) ?_)
    refine V.nil ?_
    refine ⟨chk [] trivial (by kernel_rfl), ?_⟩
    refine V.go (V.call 15 #[] #[.int .u64 (seed : Int)] evf (args1 (o4 rfl (at_same hz43.p1 rfl _))) (Go.Proofs.enters_of Try.func15 (by kernel_rfl) rfl) (rnew_any w55 ([]) (by simp) seed hsd) ?_)
    rintro _ w71 ⟨r67, rfl, hU68, hF69⟩
    refine ⟨_, rfl, ?_⟩
    have hsw71 := hF69.size
    have hD_72 := hD_57.fr0 hF69
    have hF_73 := hF_58.new hF69
    have hS_74 := hS_59.fr0 hF69
    have hE65_75 := hE65.fr0 hF69
    have hD70 := hD_72.two hF69 hU68 hD_57
    refine V.nil ?_
    refine ⟨(fun _ => held_els (m := 4) (f := 0) (hx := (o1 rfl (at_same hz43.p4 rfl _))) hE65 hE65_75 (by kernel_rfl) (by simp only [List.length]; omega)), ?_⟩
    refine V.nil ?_
    refine ⟨chk [] trivial (by kernel_rfl), ?_⟩
    refine V.go (V.call 16 #[] #[.pointer (some ⟨t5, 0, none⟩), .pointer (some ⟨r67, 0, none⟩), .agg #[.int .i64 ((at_ opR l (i : Int)).kind), .string ((at_ opR l (i : Int)).key), .int .i64 ((at_ opR l (i : Int)).v), .int .u64 ((at_ opR l (i : Int)).draw : Int)]] evf (args3 (o4 rfl (o2 rfl (at_same hz43 rfl _))) (at_same hz43.p4.p2 rfl _) (o1 rfl (at_same hz43.p4.p1 rfl _))) (Go.Proofs.enters_of Try.func16 (by kernel_rfl) rfl) (act_new w71 w ([]) t5 r67 T (newT seed) i (at_ opR l (i : Int)) hD70 hgT (Gd.new hsd) (by omega) hoo66 (by omega)) ?_)
    rintro _ w79 ⟨⟨bb78, rfl⟩, hD76, hfp77⟩
    refine ⟨_, rfl, ?_⟩
    have hsw79 := hfp77.size
    have hF_80 := hF_73.trP hfp77 (fun k hk => .inr hk.1)
    have hS_81 := hS_74.frP hfp77 (fun k hz hp => by have h1 := hp.1; (try dsimp only at hz); omega)
    refine V.nil ?_
    refine ⟨trivial, ?_⟩
    refine V.nil ?_
    refine ⟨chk [] trivial (by kernel_rfl), ?_⟩
    refine V.then_n (hK54 _ _ ?_)
    refine V.flushW hz43.p8 (fun a82 hz83 up84 => ?_)
    have s0_85 := up84 0 _ (o8 rfl s0_45)
    have s1_86 := up84 1 _ (o8 rfl s1_46)
    have s5_87 : a82.eval (.tmp 5) = (.pointer (some ⟨t5, 0, none⟩)) := up84 _ _ (o8 rfl s5_47)
    have s6_88 := up84 6 _ (o8 rfl s6_48)
    clear up84
    refine V.seq (fun K89 hK90 => ?_)
    have hga := hgT.act (by omega) (at_ opR l (i : Int))
    have hok := hga.ok
    have hmv := hok.mv
    have hmz := hok.mz
    have hld := hga.pw.ld
    have hpb := hga.pw.pb
    have hba := hga.pw.ba
    have hbb := hga.pw.bb
    refine V.region (by kernel_rfl) ?_
    refine V.go (V.mv (v := (.pointer (some ⟨t5, 0, none⟩))) (s5_87) ?_)
    refine V.go (V.call 17 #[] #[.pointer (some ⟨t5, 0, none⟩)] evf (args1 (at_same hz83 rfl _)) (Go.Proofs.enters_of Try.func17 (by kernel_rfl) rfl) (hD76.rd (fun Hq hq hqb => sizes_any w79 Hq ([]) t5 (actT T (at_ opR l (i : Int))) hq )) ?_)
    rintro _ w96 ⟨rfl, hF91⟩
    refine ⟨_, rfl, ?_⟩
    have hsw96 := hF91.size
    have hF_97 := hF_80.new hF91
    have hS_98 := hS_81.fr0 hF91
    have hD76_99 := hD76.fr0 hF91
    refine V.go (V.mv (v := (.tuple #[.int .i64 (((actT T (at_ opR l (i : Int))).a.length : Nat) : Int), .int .i64 (((actT T (at_ opR l (i : Int))).b.length : Nat) : Int), .int .i64 (((actT T (at_ opR l (i : Int))).moved : Nat) : Int)])) (at_same hz83.p1 rfl _) ?_)
    refine V.go (V.pv [(32, .tuple #[.int .i64 (((actT T (at_ opR l (i : Int))).a.length : Nat) : Int), .int .i64 (((actT T (at_ opR l (i : Int))).b.length : Nat) : Int), .int .i64 (((actT T (at_ opR l (i : Int))).moved : Nat) : Int)])] ⟨(at_same hz83.p2 rfl _), trivial⟩ (by kernel_rfl) (.int .i64 (((actT T (at_ opR l (i : Int))).a.length : Nat) : Int)) (by kernel_rfl) ?_)
    refine V.go (V.pv [(32, .tuple #[.int .i64 (((actT T (at_ opR l (i : Int))).a.length : Nat) : Int), .int .i64 (((actT T (at_ opR l (i : Int))).b.length : Nat) : Int), .int .i64 (((actT T (at_ opR l (i : Int))).moved : Nat) : Int)])] ⟨(o1 rfl (at_same hz83.p2 rfl _)), trivial⟩ (by kernel_rfl) (.int .i64 (((actT T (at_ opR l (i : Int))).b.length : Nat) : Int)) (by kernel_rfl) ?_)
    refine V.go (V.pv [(32, .tuple #[.int .i64 (((actT T (at_ opR l (i : Int))).a.length : Nat) : Int), .int .i64 (((actT T (at_ opR l (i : Int))).b.length : Nat) : Int), .int .i64 (((actT T (at_ opR l (i : Int))).moved : Nat) : Int)])] ⟨(o2 rfl (at_same hz83.p2 rfl _)), trivial⟩ (by kernel_rfl) (.int .i64 (((actT T (at_ opR l (i : Int))).moved : Nat) : Int)) (by kernel_rfl) ?_)
    refine V.go (V.asg (o2 rfl (at_same hz83.p2.p1 rfl _)) ?_)
    refine V.go (V.asg (o2 rfl (at_same hz83.p4 rfl _)) ?_)
    refine V.go (V.asg (o2 rfl (at_same hz83.p4.p1 rfl _)) ?_)
    refine V.nil ?_
    refine V.then_n (hK90 _ _ ?_)
    refine V.flushW hz83.p8.p1 (fun a100 hz101 up102 => ?_)
    have s0_103 := up102 0 _ (o8 rfl (o1 rfl s0_85))
    have s1_104 := up102 1 _ (o8 rfl (o1 rfl s1_86))
    have s5_105 : a100.eval (.tmp 5) = (.pointer (some ⟨t5, 0, none⟩)) := up102 _ _ (o8 rfl (o1 rfl s5_87))
    have s6_106 := up102 6 _ (o8 rfl (o1 rfl s6_88))
    have s7_107 := up102 7 _ (o2 rfl (at_same hz83.p4.p2 rfl _))
    have s8_108 := up102 8 _ (o1 rfl (at_same hz83.p4.p2.p1 rfl _))
    have s9_109 := up102 9 _ (at_same hz83.p8 rfl _)
    clear up102
    refine V.seq (fun K110 hK111 => ?_)
    refine V.region (by kernel_rfl) ?_
    refine V.go (V.mv (s7_107) ?_)
    refine V.go (V.call 23 #[] #[.int .i64 (((actT T (at_ opR l (i : Int))).a.length : Nat) : Int)] evf (args1 (at_same hz101 rfl _)) (Go.Proofs.enters_of Try.func23 (by kernel_rfl) rfl) (power_any w96 ((actT T (at_ opR l (i : Int))).a.length) (by first | exact hga.pw.pa | exact (hga.pw.pb (by omega)).1) (by first | (have := hga.pw.ba; omega) | (have := hga.pw.bb; omega))) ?_)
    rintro _ w113 ⟨rfl, hF112⟩
    refine ⟨_, rfl, ?_⟩
    have hsw113 := hF112.size
    have hF_114 := hF_97.new hF112
    have hS_115 := hS_98.fr0 hF112
    have hD76_116 := hD76_99.fr0 hF112
    refine V.go (V.pv [(39, .bool true)] ⟨(at_same hz101.p1 rfl _), trivial⟩ (by kernel_rfl) (.bool false) (by kernel_rfl) ?_)
    refine V.go (V.mv (at_same hz101.p2 rfl _) ?_)
    refine V.go_on 41 (by kernel_rfl) (at_same hz101.p2.p1 rfl _) (V.mv (o4 rfl s8_108) ?_)
    refine V.go_on 41 (by kernel_rfl) (o1 rfl (at_same hz101.p2.p1 rfl _)) (V.pvw [(42, .int .i64 (((actT T (at_ opR l (i : Int))).b.length : Nat) : Int))] ⟨(at_same hz101.p4 rfl _), trivial⟩ (by kernel_rfl) (.bool ((((actT T (at_ opR l (i : Int))).b.length : Nat) : Int) != 0)) (.bool (decide (¬ (((actT T (at_ opR l (i : Int))).b.length : Nat) : Int) = 0))) (by kernel_rfl) V.t_neq ?_)
    refine V.go_on 41 (by kernel_rfl) (o2 rfl (at_same hz101.p2.p1 rfl _)) (V.mv (at_same hz101.p4.p1 rfl _) ?_)
    by_cases hg117 : ¬ (((actT T (at_ opR l (i : Int))).b.length : Nat) : Int) = 0
    ·
     refine V.go_on 44 (by kernel_rfl) (((at_same hz101.p4.p2 rfl _ : Act.eval _ _ = (.bool (decide (¬ (((actT T (at_ opR l (i : Int))).b.length : Nat) : Int) = 0))))).trans (dt hg117)) (V.mv (o4 rfl (o2 rfl (o1 rfl s8_108))) ?_)
     refine V.go_on 44 (by kernel_rfl) (((o1 rfl (at_same hz101.p4.p2 rfl _) : Act.eval _ _ = (.bool (decide (¬ (((actT T (at_ opR l (i : Int))).b.length : Nat) : Int) = 0))))).trans (dt hg117)) (V.call 23 #[] #[.int .i64 (((actT T (at_ opR l (i : Int))).b.length : Nat) : Int)] evf (args1 (at_same hz101.p4.p2.p1 rfl _)) (Go.Proofs.enters_of Try.func23 (by kernel_rfl) rfl) (power_any w113 ((actT T (at_ opR l (i : Int))).b.length) (by first | exact hga.pw.pa | exact (hga.pw.pb (by omega)).1) (by first | (have := hga.pw.ba; omega) | (have := hga.pw.bb; omega))) ?_)
     rintro _ w119 ⟨rfl, hF118⟩
     refine ⟨_, rfl, ?_⟩
     have hsw119 := hF118.size
     have hF_120 := hF_114.new hF118
     have hS_121 := hS_115.fr0 hF118
     have hD76_122 := hD76_116.fr0 hF118
     refine V.go_on 44 (by kernel_rfl) (((o2 rfl (at_same hz101.p4.p2 rfl _) : Act.eval _ _ = (.bool (decide (¬ (((actT T (at_ opR l (i : Int))).b.length : Nat) : Int) = 0))))).trans (dt hg117)) (V.pv [(46, .bool true)] ⟨(at_same hz101.p8 rfl _), trivial⟩ (by kernel_rfl) (.bool false) (by kernel_rfl) ?_)
     refine V.go_on 44 (by kernel_rfl) (((o2 rfl (o1 rfl (at_same hz101.p4.p2 rfl _)) : Act.eval _ _ = (.bool (decide (¬ (((actT T (at_ opR l (i : Int))).b.length : Nat) : Int) = 0))))).trans (dt hg117)) (V.mv (at_same hz101.p8.p1 rfl _) ?_)
     refine V.go_on 48 (by kernel_rfl) (at_same hz101.p8.p2 rfl _) (V.mv (o8 rfl (o2 rfl (o1 rfl s8_108))) ?_)
     refine V.go_on 48 (by kernel_rfl) (o1 rfl (at_same hz101.p8.p2 rfl _)) (V.mv (o8 rfl (o4 rfl s7_107)) ?_)
     refine V.go_on 48 (by kernel_rfl) (o2 rfl (at_same hz101.p8.p2 rfl _)) (V.pvw [(50, .int .i64 (((actT T (at_ opR l (i : Int))).a.length : Nat) : Int))] ⟨(at_same hz101.p8.p4 rfl _), trivial⟩ (by kernel_rfl) (.int .i64 (IntKind.i64.wrap (2 * (((actT T (at_ opR l (i : Int))).a.length : Nat) : Int)))) (.int .i64 (2 * (((actT T (at_ opR l (i : Int))).a.length : Nat) : Int))) (by kernel_rfl) (V.w_i64 (by omega) (by omega)) ?_)
     refine V.go_on 48 (by kernel_rfl) (o2 rfl (o1 rfl (at_same hz101.p8.p2 rfl _))) (V.pvw [(49, .int .i64 (((actT T (at_ opR l (i : Int))).b.length : Nat) : Int)), (51, .int .i64 (2 * (((actT T (at_ opR l (i : Int))).a.length : Nat) : Int)))] ⟨(o2 rfl (at_same hz101.p8.p2.p1 rfl _)), (at_same hz101.p8.p4.p1 rfl _), trivial⟩ (by kernel_rfl) (.bool ((((actT T (at_ opR l (i : Int))).b.length : Nat) : Int) != (2 * (((actT T (at_ opR l (i : Int))).a.length : Nat) : Int)))) (.bool (decide (¬ (((actT T (at_ opR l (i : Int))).b.length : Nat) : Int) = (2 * (((actT T (at_ opR l (i : Int))).a.length : Nat) : Int))))) (by kernel_rfl) V.t_neq ?_)
     refine V.go_on 48 (by kernel_rfl) (o4 rfl (at_same hz101.p8.p2 rfl _)) (V.mv (at_same hz101.p8.p4.p2 rfl _) ?_)
     by_cases hg123 : ¬ (((actT T (at_ opR l (i : Int))).b.length : Nat) : Int) = (2 * (((actT T (at_ opR l (i : Int))).a.length : Nat) : Int))
     ·
      refine V.go_on 53 (by kernel_rfl) (((at_same hz101.p8.p4.p2.p1 rfl _ : Act.eval _ _ = (.bool (decide (¬ (((actT T (at_ opR l (i : Int))).b.length : Nat) : Int) = (2 * (((actT T (at_ opR l (i : Int))).a.length : Nat) : Int))))))).trans (dt hg123)) (V.mv (o16 rfl s7_107) ?_)
      refine V.go_on 53 (by kernel_rfl) (((o1 rfl (at_same hz101.p8.p4.p2.p1 rfl _) : Act.eval _ _ = (.bool (decide (¬ (((actT T (at_ opR l (i : Int))).b.length : Nat) : Int) = (2 * (((actT T (at_ opR l (i : Int))).a.length : Nat) : Int))))))).trans (dt hg123)) (V.mv (o16 rfl (o1 rfl s8_108)) ?_)
      refine V.go_on 53 (by kernel_rfl) (((o2 rfl (at_same hz101.p8.p4.p2.p1 rfl _) : Act.eval _ _ = (.bool (decide (¬ (((actT T (at_ opR l (i : Int))).b.length : Nat) : Int) = (2 * (((actT T (at_ opR l (i : Int))).a.length : Nat) : Int))))))).trans (dt hg123)) (V.pvw [(55, .int .i64 (((actT T (at_ opR l (i : Int))).b.length : Nat) : Int))] ⟨(at_same hz101.p16.p1 rfl _), trivial⟩ (by kernel_rfl) (.int .i64 (IntKind.i64.wrap (2 * (((actT T (at_ opR l (i : Int))).b.length : Nat) : Int)))) (.int .i64 (2 * (((actT T (at_ opR l (i : Int))).b.length : Nat) : Int))) (by kernel_rfl) (V.w_i64 (by omega) (by omega)) ?_)
      refine V.go_on 53 (by kernel_rfl) (((o2 rfl (o1 rfl (at_same hz101.p8.p4.p2.p1 rfl _)) : Act.eval _ _ = (.bool (decide (¬ (((actT T (at_ opR l (i : Int))).b.length : Nat) : Int) = (2 * (((actT T (at_ opR l (i : Int))).a.length : Nat) : Int))))))).trans (dt hg123)) (V.pvw [(54, .int .i64 (((actT T (at_ opR l (i : Int))).a.length : Nat) : Int)), (56, .int .i64 (2 * (((actT T (at_ opR l (i : Int))).b.length : Nat) : Int)))] ⟨(o2 rfl (at_same hz101.p16 rfl _)), (at_same hz101.p16.p2 rfl _), trivial⟩ (by kernel_rfl) (.bool ((((actT T (at_ opR l (i : Int))).a.length : Nat) : Int) != (2 * (((actT T (at_ opR l (i : Int))).b.length : Nat) : Int)))) (.bool (decide (¬ (((actT T (at_ opR l (i : Int))).a.length : Nat) : Int) = (2 * (((actT T (at_ opR l (i : Int))).b.length : Nat) : Int))))) (by kernel_rfl) V.t_neq ?_)
      refine V.go_on 48 (by kernel_rfl) (o8 rfl (o1 rfl (at_same hz101.p8.p2 rfl _))) (V.pk_t (((o4 rfl (at_same hz101.p8.p4.p2.p1 rfl _) : Act.eval _ _ = (.bool (decide (¬ (((actT T (at_ opR l (i : Int))).b.length : Nat) : Int) = (2 * (((actT T (at_ opR l (i : Int))).a.length : Nat) : Int))))))).trans (dt hg123)) (v := (.bool (decide (¬ (((actT T (at_ opR l (i : Int))).a.length : Nat) : Int) = (2 * (((actT T (at_ opR l (i : Int))).b.length : Nat) : Int)))))) (at_same hz101.p16.p2.p1 rfl _) ?_)
      refine V.go_on 44 (by kernel_rfl) (((o8 rfl (o4 rfl (o2 rfl (at_same hz101.p4.p2 rfl _))) : Act.eval _ _ = (.bool (decide (¬ (((actT T (at_ opR l (i : Int))).b.length : Nat) : Int) = 0))))).trans (dt hg117)) (V.pk_f (o8 rfl (o2 rfl (at_same hz101.p8.p2 rfl _))) (v := (.bool (decide (¬ (((actT T (at_ opR l (i : Int))).a.length : Nat) : Int) = (2 * (((actT T (at_ opR l (i : Int))).b.length : Nat) : Int)))))) (at_same hz101.p16.p4 rfl _) ?_)
      refine V.go_on 41 (by kernel_rfl) (o16 rfl (o2 rfl (at_same hz101.p2.p1 rfl _))) (V.pk_t (((o8 rfl (o4 rfl (o2 rfl (o1 rfl (at_same hz101.p4.p2 rfl _)))) : Act.eval _ _ = (.bool (decide (¬ (((actT T (at_ opR l (i : Int))).b.length : Nat) : Int) = 0))))).trans (dt hg117)) (v := (.bool (decide (¬ (((actT T (at_ opR l (i : Int))).a.length : Nat) : Int) = (2 * (((actT T (at_ opR l (i : Int))).b.length : Nat) : Int)))))) (at_same hz101.p16.p4.p1 rfl _) ?_)
      refine V.go (V.pk_f (o16 rfl (o2 rfl (o1 rfl (at_same hz101.p2.p1 rfl _)))) (v := (.bool (decide (¬ (((actT T (at_ opR l (i : Int))).a.length : Nat) : Int) = (2 * (((actT T (at_ opR l (i : Int))).b.length : Nat) : Int)))))) (at_same hz101.p16.p4.p2 rfl _) ?_)
      refine V.go (V.mv (at_same hz101.p16.p4.p2.p1 rfl _) ?_)
      refine V.flushL hz101.p16.p8.p1 (fun a124 hz125 up126 => ?_)
      have s0_127 := up126 0 _ (o16 rfl (o8 rfl (o1 rfl s0_103)))
      have s1_128 := up126 1 _ (o16 rfl (o8 rfl (o1 rfl s1_104)))
      have s5_129 : a124.eval (.tmp 5) = (.pointer (some ⟨t5, 0, none⟩)) := up126 _ _ (o16 rfl (o8 rfl (o1 rfl s5_105)))
      have s6_130 := up126 6 _ (o16 rfl (o8 rfl (o1 rfl s6_106)))
      have s7_131 := up126 7 _ (o16 rfl (o8 rfl (o1 rfl s7_107)))
      have s8_132 := up126 8 _ (o16 rfl (o8 rfl (o1 rfl s8_108)))
      have s9_133 := up126 9 _ (o16 rfl (o8 rfl (o1 rfl s9_109)))
      have s62_134 := up126 62 _ (at_same hz101.p16.p8 rfl _)
      clear up126
      by_cases hg135 : ¬ (((actT T (at_ opR l (i : Int))).a.length : Nat) : Int) = (2 * (((actT T (at_ opR l (i : Int))).b.length : Nat) : Int))
      ·
       refine V.go_off 62 (by kernel_rfl) ((s62_134).trans (dt hg135)) (by kernel_rfl) ?_
       refine V.go_off 62 (by kernel_rfl) (((o1 rfl s62_134 : Act.eval _ _ = (.bool (decide (¬ (((actT T (at_ opR l (i : Int))).a.length : Nat) : Int) = (2 * (((actT T (at_ opR l (i : Int))).b.length : Nat) : Int))))))).trans (dt hg135)) (by kernel_rfl) ?_
       refine V.go_off 62 (by kernel_rfl) (((o2 rfl s62_134 : Act.eval _ _ = (.bool (decide (¬ (((actT T (at_ opR l (i : Int))).a.length : Nat) : Int) = (2 * (((actT T (at_ opR l (i : Int))).b.length : Nat) : Int))))))).trans (dt hg135)) (by kernel_rfl) ?_
       refine V.go_none 65 (by kernel_rfl) (at_same hz125.p2 rfl _) ?_
       refine V.go_none 65 (by kernel_rfl) (o1 rfl (at_same hz125.p2 rfl _)) ?_
       refine V.go_none 65 (by kernel_rfl) (o2 rfl (at_same hz125.p2 rfl _)) ?_
       refine V.go_none 68 (by kernel_rfl) (at_same hz125.p4.p1 rfl _) ?_
       refine V.go_none 68 (by kernel_rfl) (o1 rfl (at_same hz125.p4.p1 rfl _)) ?_
       refine V.go_none 68 (by kernel_rfl) (o2 rfl (at_same hz125.p4.p1 rfl _)) ?_
       refine V.go_none 68 (by kernel_rfl) (o2 rfl (o1 rfl (at_same hz125.p4.p1 rfl _))) ?_
       refine V.go_none 65 (by kernel_rfl) (o4 rfl (o2 rfl (o1 rfl (at_same hz125.p2 rfl _)))) ?_
       refine V.go_off 62 (by kernel_rfl) (((o8 rfl (o2 rfl (o1 rfl s62_134)) : Act.eval _ _ = (.bool (decide (¬ (((actT T (at_ opR l (i : Int))).a.length : Nat) : Int) = (2 * (((actT T (at_ opR l (i : Int))).b.length : Nat) : Int))))))).trans (dt hg135)) (by kernel_rfl) ?_
       refine V.go (V.pk_t (((o8 rfl (o4 rfl s62_134) : Act.eval _ _ = (.bool (decide (¬ (((actT T (at_ opR l (i : Int))).a.length : Nat) : Int) = (2 * (((actT T (at_ opR l (i : Int))).b.length : Nat) : Int))))))).trans (dt hg135)) (v := (.bool true)) evc ?_)
       refine V.go (V.mv (at_same hz125.p8.p4 rfl _) ?_)
       refine V.go_off 76 (by kernel_rfl) (at_same hz125.p8.p4.p1 rfl _) (by kernel_rfl) ?_
       refine V.go_off 76 (by kernel_rfl) (o1 rfl (at_same hz125.p8.p4.p1 rfl _)) (by kernel_rfl) ?_
       refine V.go (V.pk_t (o2 rfl (at_same hz125.p8.p4.p1 rfl _)) (v := (.bool true)) evc ?_)
       refine V.go (V.mv (at_same hz125.p16 rfl _) ?_)
       refine V.go_off 80 (by kernel_rfl) (at_same hz125.p16.p1 rfl _) (by kernel_rfl) ?_
       refine V.go_off 80 (by kernel_rfl) (o1 rfl (at_same hz125.p16.p1 rfl _)) (by kernel_rfl) ?_
       refine V.go_off 80 (by kernel_rfl) (o2 rfl (at_same hz125.p16.p1 rfl _)) (by kernel_rfl) ?_
       refine V.go_none 83 (by kernel_rfl) (at_same hz125.p16.p4 rfl _) ?_
       refine V.go_none 83 (by kernel_rfl) (o1 rfl (at_same hz125.p16.p4 rfl _)) ?_
       refine V.go_none 83 (by kernel_rfl) (o2 rfl (at_same hz125.p16.p4 rfl _)) ?_
       refine V.go_off 80 (by kernel_rfl) (o4 rfl (o2 rfl (at_same hz125.p16.p1 rfl _))) (by kernel_rfl) ?_
       refine V.flushL hz125.p16.p8.p1 (fun a136 hz137 up138 => ?_)
       have s0_139 := up138 0 _ (o16 rfl (o8 rfl (o1 rfl s0_127)))
       have s1_140 := up138 1 _ (o16 rfl (o8 rfl (o1 rfl s1_128)))
       have s5_141 : a136.eval (.tmp 5) = (.pointer (some ⟨t5, 0, none⟩)) := up138 _ _ (o16 rfl (o8 rfl (o1 rfl s5_129)))
       have s6_142 := up138 6 _ (o16 rfl (o8 rfl (o1 rfl s6_130)))
       have s80_143 := up138 80 _ (o4 rfl (o2 rfl (o1 rfl (at_same hz125.p16.p1 rfl _))))
       have s87_144 := up138 87 _ (at_same hz125.p16.p8 rfl _)
       clear up138
       refine V.go (V.pk_t (s80_143) (v := (.bool true)) evc ?_)
       refine V.nil ?_
       refine V.then_n (hK111 _ _ ?_)
       refine V.cond_t (at_same hz137 rfl _) ?_
       refine V.seq (fun K145 hK146 => ?_)
       refine V.region (by kernel_rfl) ?_
       refine V.go (V.asg evc ?_)
       refine V.nil ?_
       refine V.then_n (hK146 _ _ ?_)
       refine V.ret ?_
       refine V.blk_r ?_
       refine V.then_r ?_
       refine V.then_r ?_
       refine V.blk_r ?_
       refine V.then_r ?_
       refine V.ret1 hz137.p2 rfl (at_same hz137.p1 rfl _) ?_
       exfalso; first | omega | (have := (hpb (by omega)).2; omega)
      ·
       refine V.go_on 62 (by kernel_rfl) ((s62_134).trans (df hg135)) (V.mv (s8_132) ?_)
       refine V.go_on 62 (by kernel_rfl) (((o1 rfl s62_134 : Act.eval _ _ = (.bool (decide (¬ (((actT T (at_ opR l (i : Int))).a.length : Nat) : Int) = (2 * (((actT T (at_ opR l (i : Int))).b.length : Nat) : Int))))))).trans (df hg135)) (V.pvw [(63, .int .i64 (((actT T (at_ opR l (i : Int))).b.length : Nat) : Int))] ⟨(at_same hz125 rfl _), trivial⟩ (by kernel_rfl) (.bool ((((actT T (at_ opR l (i : Int))).b.length : Nat) : Int) == 0)) (.bool (decide ((((actT T (at_ opR l (i : Int))).b.length : Nat) : Int) = 0))) (by kernel_rfl) V.t_eql ?_)
       refine V.go_on 62 (by kernel_rfl) (((o2 rfl s62_134 : Act.eval _ _ = (.bool (decide (¬ (((actT T (at_ opR l (i : Int))).a.length : Nat) : Int) = (2 * (((actT T (at_ opR l (i : Int))).b.length : Nat) : Int))))))).trans (df hg135)) (V.mv (at_same hz125.p1 rfl _) ?_)
       by_cases hg147 : (((actT T (at_ opR l (i : Int))).b.length : Nat) : Int) = 0
       ·
        refine V.go_on 65 (by kernel_rfl) (((at_same hz125.p2 rfl _ : Act.eval _ _ = (.bool (decide ((((actT T (at_ opR l (i : Int))).b.length : Nat) : Int) = 0))))).trans (dt hg147)) (V.mv (o2 rfl (o1 rfl s9_133)) ?_)
        refine V.go_on 65 (by kernel_rfl) (((o1 rfl (at_same hz125.p2 rfl _) : Act.eval _ _ = (.bool (decide ((((actT T (at_ opR l (i : Int))).b.length : Nat) : Int) = 0))))).trans (dt hg147)) (V.pvw [(66, .int .i64 (((actT T (at_ opR l (i : Int))).moved : Nat) : Int))] ⟨(at_same hz125.p2.p1 rfl _), trivial⟩ (by kernel_rfl) (.bool ((((actT T (at_ opR l (i : Int))).moved : Nat) : Int) != 0)) (.bool (decide (¬ (((actT T (at_ opR l (i : Int))).moved : Nat) : Int) = 0))) (by kernel_rfl) V.t_neq ?_)
        refine V.go_on 65 (by kernel_rfl) (((o2 rfl (at_same hz125.p2 rfl _) : Act.eval _ _ = (.bool (decide ((((actT T (at_ opR l (i : Int))).b.length : Nat) : Int) = 0))))).trans (dt hg147)) (V.mv (at_same hz125.p4 rfl _) ?_)
        by_cases hg148 : ¬ (((actT T (at_ opR l (i : Int))).moved : Nat) : Int) = 0
        ·
         refine V.go_off 68 (by kernel_rfl) (((at_same hz125.p4.p1 rfl _ : Act.eval _ _ = (.bool (decide (¬ (((actT T (at_ opR l (i : Int))).moved : Nat) : Int) = 0))))).trans (dt hg148)) (by kernel_rfl) ?_
         refine V.go_off 68 (by kernel_rfl) (((o1 rfl (at_same hz125.p4.p1 rfl _) : Act.eval _ _ = (.bool (decide (¬ (((actT T (at_ opR l (i : Int))).moved : Nat) : Int) = 0))))).trans (dt hg148)) (by kernel_rfl) ?_
         refine V.go_off 68 (by kernel_rfl) (((o2 rfl (at_same hz125.p4.p1 rfl _) : Act.eval _ _ = (.bool (decide (¬ (((actT T (at_ opR l (i : Int))).moved : Nat) : Int) = 0))))).trans (dt hg148)) (by kernel_rfl) ?_
         refine V.go_off 68 (by kernel_rfl) (((o2 rfl (o1 rfl (at_same hz125.p4.p1 rfl _)) : Act.eval _ _ = (.bool (decide (¬ (((actT T (at_ opR l (i : Int))).moved : Nat) : Int) = 0))))).trans (dt hg148)) (by kernel_rfl) ?_
         refine V.go_on 65 (by kernel_rfl) (((o4 rfl (o2 rfl (o1 rfl (at_same hz125.p2 rfl _))) : Act.eval _ _ = (.bool (decide ((((actT T (at_ opR l (i : Int))).b.length : Nat) : Int) = 0))))).trans (dt hg147)) (V.pk_t (((o4 rfl (at_same hz125.p4.p1 rfl _) : Act.eval _ _ = (.bool (decide (¬ (((actT T (at_ opR l (i : Int))).moved : Nat) : Int) = 0))))).trans (dt hg148)) (v := (.bool true)) evc ?_)
         refine V.go_on 62 (by kernel_rfl) (((o8 rfl (o2 rfl (o1 rfl s62_134)) : Act.eval _ _ = (.bool (decide (¬ (((actT T (at_ opR l (i : Int))).a.length : Nat) : Int) = (2 * (((actT T (at_ opR l (i : Int))).b.length : Nat) : Int))))))).trans (df hg135)) (V.pk_t (((o8 rfl (at_same hz125.p2 rfl _) : Act.eval _ _ = (.bool (decide ((((actT T (at_ opR l (i : Int))).b.length : Nat) : Int) = 0))))).trans (dt hg147)) (v := (.bool true)) (at_same hz125.p8.p2 rfl _) ?_)
         refine V.go (V.pk_f (((o8 rfl (o4 rfl s62_134) : Act.eval _ _ = (.bool (decide (¬ (((actT T (at_ opR l (i : Int))).a.length : Nat) : Int) = (2 * (((actT T (at_ opR l (i : Int))).b.length : Nat) : Int))))))).trans (df hg135)) (v := (.bool true)) (at_same hz125.p8.p2.p1 rfl _) ?_)
         refine V.go (V.mv (at_same hz125.p8.p4 rfl _) ?_)
         refine V.go_off 76 (by kernel_rfl) (at_same hz125.p8.p4.p1 rfl _) (by kernel_rfl) ?_
         refine V.go_off 76 (by kernel_rfl) (o1 rfl (at_same hz125.p8.p4.p1 rfl _)) (by kernel_rfl) ?_
         refine V.go (V.pk_t (o2 rfl (at_same hz125.p8.p4.p1 rfl _)) (v := (.bool true)) evc ?_)
         refine V.go (V.mv (at_same hz125.p16 rfl _) ?_)
         refine V.go_off 80 (by kernel_rfl) (at_same hz125.p16.p1 rfl _) (by kernel_rfl) ?_
         refine V.go_off 80 (by kernel_rfl) (o1 rfl (at_same hz125.p16.p1 rfl _)) (by kernel_rfl) ?_
         refine V.go_off 80 (by kernel_rfl) (o2 rfl (at_same hz125.p16.p1 rfl _)) (by kernel_rfl) ?_
         refine V.go_none 83 (by kernel_rfl) (at_same hz125.p16.p4 rfl _) ?_
         refine V.go_none 83 (by kernel_rfl) (o1 rfl (at_same hz125.p16.p4 rfl _)) ?_
         refine V.go_none 83 (by kernel_rfl) (o2 rfl (at_same hz125.p16.p4 rfl _)) ?_
         refine V.go_off 80 (by kernel_rfl) (o4 rfl (o2 rfl (at_same hz125.p16.p1 rfl _))) (by kernel_rfl) ?_
         refine V.flushL hz125.p16.p8.p1 (fun a149 hz150 up151 => ?_)
         have s0_152 := up151 0 _ (o16 rfl (o8 rfl (o1 rfl s0_127)))
         have s1_153 := up151 1 _ (o16 rfl (o8 rfl (o1 rfl s1_128)))
         have s5_154 : a149.eval (.tmp 5) = (.pointer (some ⟨t5, 0, none⟩)) := up151 _ _ (o16 rfl (o8 rfl (o1 rfl s5_129)))
         have s6_155 := up151 6 _ (o16 rfl (o8 rfl (o1 rfl s6_130)))
         have s80_156 := up151 80 _ (o4 rfl (o2 rfl (o1 rfl (at_same hz125.p16.p1 rfl _))))
         have s87_157 := up151 87 _ (at_same hz125.p16.p8 rfl _)
         clear up151
         refine V.go (V.pk_t (s80_156) (v := (.bool true)) evc ?_)
         refine V.nil ?_
         refine V.then_n (hK111 _ _ ?_)
         refine V.cond_t (at_same hz150 rfl _) ?_
         refine V.seq (fun K158 hK159 => ?_)
         refine V.region (by kernel_rfl) ?_
         refine V.go (V.asg evc ?_)
         refine V.nil ?_
         refine V.then_n (hK159 _ _ ?_)
         refine V.ret ?_
         refine V.blk_r ?_
         refine V.then_r ?_
         refine V.then_r ?_
         refine V.blk_r ?_
         refine V.then_r ?_
         refine V.ret1 hz150.p2 rfl (at_same hz150.p1 rfl _) ?_
         exfalso; first | omega | (have := (hpb (by omega)).2; omega)
        ·
         refine V.go_on 68 (by kernel_rfl) (((at_same hz125.p4.p1 rfl _ : Act.eval _ _ = (.bool (decide (¬ (((actT T (at_ opR l (i : Int))).moved : Nat) : Int) = 0))))).trans (df hg148)) (V.mv (v := (.pointer (some ⟨t5, 0, none⟩))) (o4 rfl (o2 rfl s5_129)) ?_)
         refine V.go_on 68 (by kernel_rfl) (((o1 rfl (at_same hz125.p4.p1 rfl _) : Act.eval _ _ = (.bool (decide (¬ (((actT T (at_ opR l (i : Int))).moved : Nat) : Int) = 0))))).trans (df hg148)) (V.call 18 #[] #[.pointer (some ⟨t5, 0, none⟩)] evf (args1 (at_same hz125.p4.p2 rfl _)) (Go.Proofs.enters_of Try.func18 (by kernel_rfl) rfl) (hD76_122.rd (fun Hq hq hqb => len_any w119 Hq ([]) t5 (actT T (at_ opR l (i : Int))) hq )) ?_)
         rintro _ w165 ⟨rfl, hF160⟩
         refine ⟨_, rfl, ?_⟩
         have hsw165 := hF160.size
         have hF_166 := hF_120.new hF160
         have hS_167 := hS_121.fr0 hF160
         have hD76_168 := hD76_122.fr0 hF160
         refine V.go_on 68 (by kernel_rfl) (((o2 rfl (at_same hz125.p4.p1 rfl _) : Act.eval _ _ = (.bool (decide (¬ (((actT T (at_ opR l (i : Int))).moved : Nat) : Int) = 0))))).trans (df hg148)) (V.mv (o8 rfl s7_131) ?_)
         refine V.go_on 68 (by kernel_rfl) (((o2 rfl (o1 rfl (at_same hz125.p4.p1 rfl _)) : Act.eval _ _ = (.bool (decide (¬ (((actT T (at_ opR l (i : Int))).moved : Nat) : Int) = 0))))).trans (df hg148)) (V.pv [(70, .int .i64 (((actT T (at_ opR l (i : Int))).n : Nat) : Int)), (71, .int .i64 (((actT T (at_ opR l (i : Int))).a.length : Nat) : Int))] ⟨(o1 rfl (at_same hz125.p4.p2.p1 rfl _)), (at_same hz125.p8 rfl _), trivial⟩ (by kernel_rfl) (.bool (decide ((((actT T (at_ opR l (i : Int))).n : Nat) : Int) > (((actT T (at_ opR l (i : Int))).a.length : Nat) : Int)))) (by kernel_rfl) ?_)
         refine V.go_on 65 (by kernel_rfl) (((o4 rfl (o2 rfl (o1 rfl (at_same hz125.p2 rfl _))) : Act.eval _ _ = (.bool (decide ((((actT T (at_ opR l (i : Int))).b.length : Nat) : Int) = 0))))).trans (dt hg147)) (V.pk_f (((o4 rfl (at_same hz125.p4.p1 rfl _) : Act.eval _ _ = (.bool (decide (¬ (((actT T (at_ opR l (i : Int))).moved : Nat) : Int) = 0))))).trans (df hg148)) (v := (.bool (decide ((((actT T (at_ opR l (i : Int))).n : Nat) : Int) > (((actT T (at_ opR l (i : Int))).a.length : Nat) : Int))))) (at_same hz125.p8.p1 rfl _) ?_)
         refine V.go_on 62 (by kernel_rfl) (((o8 rfl (o2 rfl (o1 rfl s62_134)) : Act.eval _ _ = (.bool (decide (¬ (((actT T (at_ opR l (i : Int))).a.length : Nat) : Int) = (2 * (((actT T (at_ opR l (i : Int))).b.length : Nat) : Int))))))).trans (df hg135)) (V.pk_t (((o8 rfl (at_same hz125.p2 rfl _) : Act.eval _ _ = (.bool (decide ((((actT T (at_ opR l (i : Int))).b.length : Nat) : Int) = 0))))).trans (dt hg147)) (v := (.bool (decide ((((actT T (at_ opR l (i : Int))).n : Nat) : Int) > (((actT T (at_ opR l (i : Int))).a.length : Nat) : Int))))) (at_same hz125.p8.p2 rfl _) ?_)
         refine V.go (V.pk_f (((o8 rfl (o4 rfl s62_134) : Act.eval _ _ = (.bool (decide (¬ (((actT T (at_ opR l (i : Int))).a.length : Nat) : Int) = (2 * (((actT T (at_ opR l (i : Int))).b.length : Nat) : Int))))))).trans (df hg135)) (v := (.bool (decide ((((actT T (at_ opR l (i : Int))).n : Nat) : Int) > (((actT T (at_ opR l (i : Int))).a.length : Nat) : Int))))) (at_same hz125.p8.p2.p1 rfl _) ?_)
         refine V.go (V.mv (at_same hz125.p8.p4 rfl _) ?_)
         by_cases hg169 : (((actT T (at_ opR l (i : Int))).n : Nat) : Int) > (((actT T (at_ opR l (i : Int))).a.length : Nat) : Int)
         ·
          refine V.go_off 76 (by kernel_rfl) (((at_same hz125.p8.p4.p1 rfl _ : Act.eval _ _ = (.bool (decide ((((actT T (at_ opR l (i : Int))).n : Nat) : Int) > (((actT T (at_ opR l (i : Int))).a.length : Nat) : Int)))))).trans (dt hg169)) (by kernel_rfl) ?_
          refine V.go_off 76 (by kernel_rfl) (((o1 rfl (at_same hz125.p8.p4.p1 rfl _) : Act.eval _ _ = (.bool (decide ((((actT T (at_ opR l (i : Int))).n : Nat) : Int) > (((actT T (at_ opR l (i : Int))).a.length : Nat) : Int)))))).trans (dt hg169)) (by kernel_rfl) ?_
          refine V.go (V.pk_t (((o2 rfl (at_same hz125.p8.p4.p1 rfl _) : Act.eval _ _ = (.bool (decide ((((actT T (at_ opR l (i : Int))).n : Nat) : Int) > (((actT T (at_ opR l (i : Int))).a.length : Nat) : Int)))))).trans (dt hg169)) (v := (.bool true)) evc ?_)
          refine V.go (V.mv (at_same hz125.p16 rfl _) ?_)
          refine V.go_off 80 (by kernel_rfl) (at_same hz125.p16.p1 rfl _) (by kernel_rfl) ?_
          refine V.go_off 80 (by kernel_rfl) (o1 rfl (at_same hz125.p16.p1 rfl _)) (by kernel_rfl) ?_
          refine V.go_off 80 (by kernel_rfl) (o2 rfl (at_same hz125.p16.p1 rfl _)) (by kernel_rfl) ?_
          refine V.go_none 83 (by kernel_rfl) (at_same hz125.p16.p4 rfl _) ?_
          refine V.go_none 83 (by kernel_rfl) (o1 rfl (at_same hz125.p16.p4 rfl _)) ?_
          refine V.go_none 83 (by kernel_rfl) (o2 rfl (at_same hz125.p16.p4 rfl _)) ?_
          refine V.go_off 80 (by kernel_rfl) (o4 rfl (o2 rfl (at_same hz125.p16.p1 rfl _))) (by kernel_rfl) ?_
          refine V.flushL hz125.p16.p8.p1 (fun a170 hz171 up172 => ?_)
          have s0_173 := up172 0 _ (o16 rfl (o8 rfl (o1 rfl s0_127)))
          have s1_174 := up172 1 _ (o16 rfl (o8 rfl (o1 rfl s1_128)))
          have s5_175 : a170.eval (.tmp 5) = (.pointer (some ⟨t5, 0, none⟩)) := up172 _ _ (o16 rfl (o8 rfl (o1 rfl s5_129)))
          have s6_176 := up172 6 _ (o16 rfl (o8 rfl (o1 rfl s6_130)))
          have s80_177 := up172 80 _ (o4 rfl (o2 rfl (o1 rfl (at_same hz125.p16.p1 rfl _))))
          have s87_178 := up172 87 _ (at_same hz125.p16.p8 rfl _)
          clear up172
          refine V.go (V.pk_t (s80_177) (v := (.bool true)) evc ?_)
          refine V.nil ?_
          refine V.then_n (hK111 _ _ ?_)
          refine V.cond_t (at_same hz171 rfl _) ?_
          refine V.seq (fun K179 hK180 => ?_)
          refine V.region (by kernel_rfl) ?_
          refine V.go (V.asg evc ?_)
          refine V.nil ?_
          refine V.then_n (hK180 _ _ ?_)
          refine V.ret ?_
          refine V.blk_r ?_
          refine V.then_r ?_
          refine V.then_r ?_
          refine V.blk_r ?_
          refine V.then_r ?_
          refine V.ret1 hz171.p2 rfl (at_same hz171.p1 rfl _) ?_
          exfalso; first | omega | (have := (hpb (by omega)).2; omega)
         ·
          refine V.go_on 76 (by kernel_rfl) (((at_same hz125.p8.p4.p1 rfl _ : Act.eval _ _ = (.bool (decide ((((actT T (at_ opR l (i : Int))).n : Nat) : Int) > (((actT T (at_ opR l (i : Int))).a.length : Nat) : Int)))))).trans (df hg169)) (V.mv (o8 rfl (o4 rfl (o2 rfl s9_133))) ?_)
          refine V.go_on 76 (by kernel_rfl) (((o1 rfl (at_same hz125.p8.p4.p1 rfl _) : Act.eval _ _ = (.bool (decide ((((actT T (at_ opR l (i : Int))).n : Nat) : Int) > (((actT T (at_ opR l (i : Int))).a.length : Nat) : Int)))))).trans (df hg169)) (V.pv [(77, .int .i64 (((actT T (at_ opR l (i : Int))).moved : Nat) : Int))] ⟨(at_same hz125.p8.p4.p2 rfl _), trivial⟩ (by kernel_rfl) (.bool (decide ((((actT T (at_ opR l (i : Int))).moved : Nat) : Int) < 0))) (by kernel_rfl) ?_)
          refine V.go (V.pk_f (((o2 rfl (at_same hz125.p8.p4.p1 rfl _) : Act.eval _ _ = (.bool (decide ((((actT T (at_ opR l (i : Int))).n : Nat) : Int) > (((actT T (at_ opR l (i : Int))).a.length : Nat) : Int)))))).trans (df hg169)) (v := (.bool (decide ((((actT T (at_ opR l (i : Int))).moved : Nat) : Int) < 0)))) (at_same hz125.p8.p4.p2.p1 rfl _) ?_)
          refine V.go (V.mv (at_same hz125.p16 rfl _) ?_)
          by_cases hg181 : (((actT T (at_ opR l (i : Int))).moved : Nat) : Int) < 0
          ·
           refine V.go_off 80 (by kernel_rfl) (((at_same hz125.p16.p1 rfl _ : Act.eval _ _ = (.bool (decide ((((actT T (at_ opR l (i : Int))).moved : Nat) : Int) < 0))))).trans (dt hg181)) (by kernel_rfl) ?_
           refine V.go_off 80 (by kernel_rfl) (((o1 rfl (at_same hz125.p16.p1 rfl _) : Act.eval _ _ = (.bool (decide ((((actT T (at_ opR l (i : Int))).moved : Nat) : Int) < 0))))).trans (dt hg181)) (by kernel_rfl) ?_
           refine V.go_off 80 (by kernel_rfl) (((o2 rfl (at_same hz125.p16.p1 rfl _) : Act.eval _ _ = (.bool (decide ((((actT T (at_ opR l (i : Int))).moved : Nat) : Int) < 0))))).trans (dt hg181)) (by kernel_rfl) ?_
           refine V.go_none 83 (by kernel_rfl) (at_same hz125.p16.p4 rfl _) ?_
           refine V.go_none 83 (by kernel_rfl) (o1 rfl (at_same hz125.p16.p4 rfl _)) ?_
           refine V.go_none 83 (by kernel_rfl) (o2 rfl (at_same hz125.p16.p4 rfl _)) ?_
           refine V.go_off 80 (by kernel_rfl) (((o4 rfl (o2 rfl (at_same hz125.p16.p1 rfl _)) : Act.eval _ _ = (.bool (decide ((((actT T (at_ opR l (i : Int))).moved : Nat) : Int) < 0))))).trans (dt hg181)) (by kernel_rfl) ?_
           refine V.flushL hz125.p16.p8.p1 (fun a182 hz183 up184 => ?_)
           have s0_185 := up184 0 _ (o16 rfl (o8 rfl (o1 rfl s0_127)))
           have s1_186 := up184 1 _ (o16 rfl (o8 rfl (o1 rfl s1_128)))
           have s5_187 : a182.eval (.tmp 5) = (.pointer (some ⟨t5, 0, none⟩)) := up184 _ _ (o16 rfl (o8 rfl (o1 rfl s5_129)))
           have s6_188 := up184 6 _ (o16 rfl (o8 rfl (o1 rfl s6_130)))
           have s80_189 := up184 80 _ (o4 rfl (o2 rfl (o1 rfl (at_same hz125.p16.p1 rfl _))))
           have s87_190 := up184 87 _ (at_same hz125.p16.p8 rfl _)
           clear up184
           refine V.go (V.pk_t ((s80_189).trans (dt hg181)) (v := (.bool true)) evc ?_)
           refine V.nil ?_
           refine V.then_n (hK111 _ _ ?_)
           refine V.cond_t (at_same hz183 rfl _) ?_
           refine V.seq (fun K191 hK192 => ?_)
           refine V.region (by kernel_rfl) ?_
           refine V.go (V.asg evc ?_)
           refine V.nil ?_
           refine V.then_n (hK192 _ _ ?_)
           refine V.ret ?_
           refine V.blk_r ?_
           refine V.then_r ?_
           refine V.then_r ?_
           refine V.blk_r ?_
           refine V.then_r ?_
           refine V.ret1 hz183.p2 rfl (at_same hz183.p1 rfl _) ?_
           exfalso; first | omega | (have := (hpb (by omega)).2; omega)
          ·
           refine V.go_on 80 (by kernel_rfl) (((at_same hz125.p16.p1 rfl _ : Act.eval _ _ = (.bool (decide ((((actT T (at_ opR l (i : Int))).moved : Nat) : Int) < 0))))).trans (df hg181)) (V.mv (o16 rfl (o2 rfl s8_132)) ?_)
           refine V.go_on 80 (by kernel_rfl) (((o1 rfl (at_same hz125.p16.p1 rfl _) : Act.eval _ _ = (.bool (decide ((((actT T (at_ opR l (i : Int))).moved : Nat) : Int) < 0))))).trans (df hg181)) (V.pvw [(81, .int .i64 (((actT T (at_ opR l (i : Int))).b.length : Nat) : Int))] ⟨(at_same hz125.p16.p2 rfl _), trivial⟩ (by kernel_rfl) (.bool ((((actT T (at_ opR l (i : Int))).b.length : Nat) : Int) != 0)) (.bool (decide (¬ (((actT T (at_ opR l (i : Int))).b.length : Nat) : Int) = 0))) (by kernel_rfl) V.t_neq ?_)
           refine V.go_on 80 (by kernel_rfl) (((o2 rfl (at_same hz125.p16.p1 rfl _) : Act.eval _ _ = (.bool (decide ((((actT T (at_ opR l (i : Int))).moved : Nat) : Int) < 0))))).trans (df hg181)) (V.mv (((at_same hz125.p16.p2.p1 rfl _ : Act.eval _ _ = (.bool (decide (¬ (((actT T (at_ opR l (i : Int))).b.length : Nat) : Int) = 0))))).trans (dt hg117)) ?_)
           refine V.go_on 83 (by kernel_rfl) (at_same hz125.p16.p4 rfl _) (V.mv (o16 rfl (o4 rfl (o1 rfl s9_133))) ?_)
           refine V.go_on 83 (by kernel_rfl) (o1 rfl (at_same hz125.p16.p4 rfl _)) (V.mv (o16 rfl (o4 rfl (o2 rfl s7_131))) ?_)
           refine V.go_on 83 (by kernel_rfl) (o2 rfl (at_same hz125.p16.p4 rfl _)) (V.pv [(84, .int .i64 (((actT T (at_ opR l (i : Int))).moved : Nat) : Int)), (85, .int .i64 (((actT T (at_ opR l (i : Int))).a.length : Nat) : Int))] ⟨(o1 rfl (at_same hz125.p16.p4.p1 rfl _)), (at_same hz125.p16.p4.p2 rfl _), trivial⟩ (by kernel_rfl) (.bool (decide ((((actT T (at_ opR l (i : Int))).moved : Nat) : Int) ≥ (((actT T (at_ opR l (i : Int))).a.length : Nat) : Int)))) (by kernel_rfl) ?_)
           refine V.go_on 80 (by kernel_rfl) (((o4 rfl (o2 rfl (at_same hz125.p16.p1 rfl _)) : Act.eval _ _ = (.bool (decide ((((actT T (at_ opR l (i : Int))).moved : Nat) : Int) < 0))))).trans (df hg181)) (V.pk_t (o2 rfl (o1 rfl (at_same hz125.p16.p4 rfl _))) (v := (.bool (decide ((((actT T (at_ opR l (i : Int))).moved : Nat) : Int) ≥ (((actT T (at_ opR l (i : Int))).a.length : Nat) : Int))))) (at_same hz125.p16.p4.p2.p1 rfl _) ?_)
           refine V.flushL hz125.p16.p8.p1 (fun a193 hz194 up195 => ?_)
           have s0_196 := up195 0 _ (o16 rfl (o8 rfl (o1 rfl s0_127)))
           have s1_197 := up195 1 _ (o16 rfl (o8 rfl (o1 rfl s1_128)))
           have s5_198 : a193.eval (.tmp 5) = (.pointer (some ⟨t5, 0, none⟩)) := up195 _ _ (o16 rfl (o8 rfl (o1 rfl s5_129)))
           have s6_199 := up195 6 _ (o16 rfl (o8 rfl (o1 rfl s6_130)))
           have s80_200 := up195 80 _ (o4 rfl (o2 rfl (o1 rfl (at_same hz125.p16.p1 rfl _))))
           have s87_201 := up195 87 _ (at_same hz125.p16.p8 rfl _)
           clear up195
           refine V.go (V.pk_f ((s80_200).trans (df hg181)) (v := (.bool (decide ((((actT T (at_ opR l (i : Int))).moved : Nat) : Int) ≥ (((actT T (at_ opR l (i : Int))).a.length : Nat) : Int))))) (s87_201) ?_)
           refine V.nil ?_
           refine V.then_n (hK111 _ _ ?_)
           refine V.condP (p := (((actT T (at_ opR l (i : Int))).moved : Nat) : Int) ≥ (((actT T (at_ opR l (i : Int))).a.length : Nat) : Int)) (at_same hz194 rfl _) (fun ht202 => ?_) (fun ht202 => ?_)
           ·
            refine V.seq (fun K203 hK204 => ?_)
            refine V.region (by kernel_rfl) ?_
            refine V.go (V.asg evc ?_)
            refine V.nil ?_
            refine V.then_n (hK204 _ _ ?_)
            refine V.ret ?_
            refine V.blk_r ?_
            refine V.then_r ?_
            refine V.then_r ?_
            refine V.blk_r ?_
            refine V.then_r ?_
            refine V.ret1 hz194.p2 rfl (at_same hz194.p1 rfl _) ?_
            exfalso; first | omega | (have := (hpb (by omega)).2; omega)
           ·
            refine V.skip ?_
            refine V.blk_n ?_
            refine V.then_n (hK52 _ _ ?_)
            refine V.region (by kernel_rfl) ?_
            refine V.go (V.mv (o1 rfl s6_199) ?_)
            refine V.go (V.pvw [(22, .int .i64 (i : Int))] ⟨(at_same hz194.p1 rfl _), trivial⟩ (by kernel_rfl) (.int .i64 (IntKind.i64.wrap ((i : Int) + 1))) (.int .i64 ((i : Int) + 1)) (by kernel_rfl) (V.w_i64 (by omega) (by omega)) ?_)
            refine V.go (V.asg (at_same hz194.p2 rfl _) ?_)
            refine V.nil ?_
            refine V.then_n ?_
            refine ⟨i + 1, actT T (at_ opR l (i : Int)), by omega, ?_⟩
            refine ⟨hz194.p4, ?_, ?_, ?_, ?_, hD76_168, hF_166, hS_167, (by omega), (hgT.act (by omega) _)⟩
            · exact Eq.trans (o4 rfl s0_196) (V.int_eq (by omega))
            · exact (o4 rfl s1_197)
            · exact (o4 rfl s5_198)
            · exact Eq.trans (at_same hz194.p2.p1 rfl _) (V.int_eq (by omega))
       ·
        refine V.go_off 65 (by kernel_rfl) (((at_same hz125.p2 rfl _ : Act.eval _ _ = (.bool (decide ((((actT T (at_ opR l (i : Int))).b.length : Nat) : Int) = 0))))).trans (df hg147)) (by kernel_rfl) ?_
        refine V.go_off 65 (by kernel_rfl) (((o1 rfl (at_same hz125.p2 rfl _) : Act.eval _ _ = (.bool (decide ((((actT T (at_ opR l (i : Int))).b.length : Nat) : Int) = 0))))).trans (df hg147)) (by kernel_rfl) ?_
        refine V.go_off 65 (by kernel_rfl) (((o2 rfl (at_same hz125.p2 rfl _) : Act.eval _ _ = (.bool (decide ((((actT T (at_ opR l (i : Int))).b.length : Nat) : Int) = 0))))).trans (df hg147)) (by kernel_rfl) ?_
        refine V.go_none 68 (by kernel_rfl) (at_same hz125.p4.p1 rfl _) ?_
        refine V.go_none 68 (by kernel_rfl) (o1 rfl (at_same hz125.p4.p1 rfl _)) ?_
        refine V.go_none 68 (by kernel_rfl) (o2 rfl (at_same hz125.p4.p1 rfl _)) ?_
        refine V.go_none 68 (by kernel_rfl) (o2 rfl (o1 rfl (at_same hz125.p4.p1 rfl _))) ?_
        refine V.go_off 65 (by kernel_rfl) (((o4 rfl (o2 rfl (o1 rfl (at_same hz125.p2 rfl _))) : Act.eval _ _ = (.bool (decide ((((actT T (at_ opR l (i : Int))).b.length : Nat) : Int) = 0))))).trans (df hg147)) (by kernel_rfl) ?_
        refine V.go_on 62 (by kernel_rfl) (((o8 rfl (o2 rfl (o1 rfl s62_134)) : Act.eval _ _ = (.bool (decide (¬ (((actT T (at_ opR l (i : Int))).a.length : Nat) : Int) = (2 * (((actT T (at_ opR l (i : Int))).b.length : Nat) : Int))))))).trans (df hg135)) (V.pk_f (((o8 rfl (at_same hz125.p2 rfl _) : Act.eval _ _ = (.bool (decide ((((actT T (at_ opR l (i : Int))).b.length : Nat) : Int) = 0))))).trans (df hg147)) (v := (.bool false)) evc ?_)
        refine V.go (V.pk_f (((o8 rfl (o4 rfl s62_134) : Act.eval _ _ = (.bool (decide (¬ (((actT T (at_ opR l (i : Int))).a.length : Nat) : Int) = (2 * (((actT T (at_ opR l (i : Int))).b.length : Nat) : Int))))))).trans (df hg135)) (v := (.bool false)) (at_same hz125.p8.p2.p1 rfl _) ?_)
        refine V.go (V.mv (at_same hz125.p8.p4 rfl _) ?_)
        refine V.go_on 76 (by kernel_rfl) (at_same hz125.p8.p4.p1 rfl _) (V.mv (o8 rfl (o4 rfl (o2 rfl s9_133))) ?_)
        refine V.go_on 76 (by kernel_rfl) (o1 rfl (at_same hz125.p8.p4.p1 rfl _)) (V.pv [(77, .int .i64 (((actT T (at_ opR l (i : Int))).moved : Nat) : Int))] ⟨(at_same hz125.p8.p4.p2 rfl _), trivial⟩ (by kernel_rfl) (.bool (decide ((((actT T (at_ opR l (i : Int))).moved : Nat) : Int) < 0))) (by kernel_rfl) ?_)
        refine V.go (V.pk_f (o2 rfl (at_same hz125.p8.p4.p1 rfl _)) (v := (.bool (decide ((((actT T (at_ opR l (i : Int))).moved : Nat) : Int) < 0)))) (at_same hz125.p8.p4.p2.p1 rfl _) ?_)
        refine V.go (V.mv (at_same hz125.p16 rfl _) ?_)
        by_cases hg205 : (((actT T (at_ opR l (i : Int))).moved : Nat) : Int) < 0
        ·
         refine V.go_off 80 (by kernel_rfl) (((at_same hz125.p16.p1 rfl _ : Act.eval _ _ = (.bool (decide ((((actT T (at_ opR l (i : Int))).moved : Nat) : Int) < 0))))).trans (dt hg205)) (by kernel_rfl) ?_
         refine V.go_off 80 (by kernel_rfl) (((o1 rfl (at_same hz125.p16.p1 rfl _) : Act.eval _ _ = (.bool (decide ((((actT T (at_ opR l (i : Int))).moved : Nat) : Int) < 0))))).trans (dt hg205)) (by kernel_rfl) ?_
         refine V.go_off 80 (by kernel_rfl) (((o2 rfl (at_same hz125.p16.p1 rfl _) : Act.eval _ _ = (.bool (decide ((((actT T (at_ opR l (i : Int))).moved : Nat) : Int) < 0))))).trans (dt hg205)) (by kernel_rfl) ?_
         refine V.go_none 83 (by kernel_rfl) (at_same hz125.p16.p4 rfl _) ?_
         refine V.go_none 83 (by kernel_rfl) (o1 rfl (at_same hz125.p16.p4 rfl _)) ?_
         refine V.go_none 83 (by kernel_rfl) (o2 rfl (at_same hz125.p16.p4 rfl _)) ?_
         refine V.go_off 80 (by kernel_rfl) (((o4 rfl (o2 rfl (at_same hz125.p16.p1 rfl _)) : Act.eval _ _ = (.bool (decide ((((actT T (at_ opR l (i : Int))).moved : Nat) : Int) < 0))))).trans (dt hg205)) (by kernel_rfl) ?_
         refine V.flushL hz125.p16.p8.p1 (fun a206 hz207 up208 => ?_)
         have s0_209 := up208 0 _ (o16 rfl (o8 rfl (o1 rfl s0_127)))
         have s1_210 := up208 1 _ (o16 rfl (o8 rfl (o1 rfl s1_128)))
         have s5_211 : a206.eval (.tmp 5) = (.pointer (some ⟨t5, 0, none⟩)) := up208 _ _ (o16 rfl (o8 rfl (o1 rfl s5_129)))
         have s6_212 := up208 6 _ (o16 rfl (o8 rfl (o1 rfl s6_130)))
         have s80_213 := up208 80 _ (o4 rfl (o2 rfl (o1 rfl (at_same hz125.p16.p1 rfl _))))
         have s87_214 := up208 87 _ (at_same hz125.p16.p8 rfl _)
         clear up208
         refine V.go (V.pk_t ((s80_213).trans (dt hg205)) (v := (.bool true)) evc ?_)
         refine V.nil ?_
         refine V.then_n (hK111 _ _ ?_)
         refine V.cond_t (at_same hz207 rfl _) ?_
         refine V.seq (fun K215 hK216 => ?_)
         refine V.region (by kernel_rfl) ?_
         refine V.go (V.asg evc ?_)
         refine V.nil ?_
         refine V.then_n (hK216 _ _ ?_)
         refine V.ret ?_
         refine V.blk_r ?_
         refine V.then_r ?_
         refine V.then_r ?_
         refine V.blk_r ?_
         refine V.then_r ?_
         refine V.ret1 hz207.p2 rfl (at_same hz207.p1 rfl _) ?_
         exfalso; first | omega | (have := (hpb (by omega)).2; omega)
        ·
         refine V.go_on 80 (by kernel_rfl) (((at_same hz125.p16.p1 rfl _ : Act.eval _ _ = (.bool (decide ((((actT T (at_ opR l (i : Int))).moved : Nat) : Int) < 0))))).trans (df hg205)) (V.mv (o16 rfl (o2 rfl s8_132)) ?_)
         refine V.go_on 80 (by kernel_rfl) (((o1 rfl (at_same hz125.p16.p1 rfl _) : Act.eval _ _ = (.bool (decide ((((actT T (at_ opR l (i : Int))).moved : Nat) : Int) < 0))))).trans (df hg205)) (V.pvw [(81, .int .i64 (((actT T (at_ opR l (i : Int))).b.length : Nat) : Int))] ⟨(at_same hz125.p16.p2 rfl _), trivial⟩ (by kernel_rfl) (.bool ((((actT T (at_ opR l (i : Int))).b.length : Nat) : Int) != 0)) (.bool (decide (¬ (((actT T (at_ opR l (i : Int))).b.length : Nat) : Int) = 0))) (by kernel_rfl) V.t_neq ?_)
         refine V.go_on 80 (by kernel_rfl) (((o2 rfl (at_same hz125.p16.p1 rfl _) : Act.eval _ _ = (.bool (decide ((((actT T (at_ opR l (i : Int))).moved : Nat) : Int) < 0))))).trans (df hg205)) (V.mv (((at_same hz125.p16.p2.p1 rfl _ : Act.eval _ _ = (.bool (decide (¬ (((actT T (at_ opR l (i : Int))).b.length : Nat) : Int) = 0))))).trans (dt hg117)) ?_)
         refine V.go_on 83 (by kernel_rfl) (at_same hz125.p16.p4 rfl _) (V.mv (o16 rfl (o4 rfl (o1 rfl s9_133))) ?_)
         refine V.go_on 83 (by kernel_rfl) (o1 rfl (at_same hz125.p16.p4 rfl _)) (V.mv (o16 rfl (o4 rfl (o2 rfl s7_131))) ?_)
         refine V.go_on 83 (by kernel_rfl) (o2 rfl (at_same hz125.p16.p4 rfl _)) (V.pv [(84, .int .i64 (((actT T (at_ opR l (i : Int))).moved : Nat) : Int)), (85, .int .i64 (((actT T (at_ opR l (i : Int))).a.length : Nat) : Int))] ⟨(o1 rfl (at_same hz125.p16.p4.p1 rfl _)), (at_same hz125.p16.p4.p2 rfl _), trivial⟩ (by kernel_rfl) (.bool (decide ((((actT T (at_ opR l (i : Int))).moved : Nat) : Int) ≥ (((actT T (at_ opR l (i : Int))).a.length : Nat) : Int)))) (by kernel_rfl) ?_)
         refine V.go_on 80 (by kernel_rfl) (((o4 rfl (o2 rfl (at_same hz125.p16.p1 rfl _)) : Act.eval _ _ = (.bool (decide ((((actT T (at_ opR l (i : Int))).moved : Nat) : Int) < 0))))).trans (df hg205)) (V.pk_t (o2 rfl (o1 rfl (at_same hz125.p16.p4 rfl _))) (v := (.bool (decide ((((actT T (at_ opR l (i : Int))).moved : Nat) : Int) ≥ (((actT T (at_ opR l (i : Int))).a.length : Nat) : Int))))) (at_same hz125.p16.p4.p2.p1 rfl _) ?_)
         refine V.flushL hz125.p16.p8.p1 (fun a217 hz218 up219 => ?_)
         have s0_220 := up219 0 _ (o16 rfl (o8 rfl (o1 rfl s0_127)))
         have s1_221 := up219 1 _ (o16 rfl (o8 rfl (o1 rfl s1_128)))
         have s5_222 : a217.eval (.tmp 5) = (.pointer (some ⟨t5, 0, none⟩)) := up219 _ _ (o16 rfl (o8 rfl (o1 rfl s5_129)))
         have s6_223 := up219 6 _ (o16 rfl (o8 rfl (o1 rfl s6_130)))
         have s80_224 := up219 80 _ (o4 rfl (o2 rfl (o1 rfl (at_same hz125.p16.p1 rfl _))))
         have s87_225 := up219 87 _ (at_same hz125.p16.p8 rfl _)
         clear up219
         refine V.go (V.pk_f ((s80_224).trans (df hg205)) (v := (.bool (decide ((((actT T (at_ opR l (i : Int))).moved : Nat) : Int) ≥ (((actT T (at_ opR l (i : Int))).a.length : Nat) : Int))))) (s87_225) ?_)
         refine V.nil ?_
         refine V.then_n (hK111 _ _ ?_)
         refine V.condP (p := (((actT T (at_ opR l (i : Int))).moved : Nat) : Int) ≥ (((actT T (at_ opR l (i : Int))).a.length : Nat) : Int)) (at_same hz218 rfl _) (fun ht226 => ?_) (fun ht226 => ?_)
         ·
          refine V.seq (fun K227 hK228 => ?_)
          refine V.region (by kernel_rfl) ?_
          refine V.go (V.asg evc ?_)
          refine V.nil ?_
          refine V.then_n (hK228 _ _ ?_)
          refine V.ret ?_
          refine V.blk_r ?_
          refine V.then_r ?_
          refine V.then_r ?_
          refine V.blk_r ?_
          refine V.then_r ?_
          refine V.ret1 hz218.p2 rfl (at_same hz218.p1 rfl _) ?_
          exfalso; first | omega | (have := (hpb (by omega)).2; omega)
         ·
          refine V.skip ?_
          refine V.blk_n ?_
          refine V.then_n (hK52 _ _ ?_)
          refine V.region (by kernel_rfl) ?_
          refine V.go (V.mv (o1 rfl s6_223) ?_)
          refine V.go (V.pvw [(22, .int .i64 (i : Int))] ⟨(at_same hz218.p1 rfl _), trivial⟩ (by kernel_rfl) (.int .i64 (IntKind.i64.wrap ((i : Int) + 1))) (.int .i64 ((i : Int) + 1)) (by kernel_rfl) (V.w_i64 (by omega) (by omega)) ?_)
          refine V.go (V.asg (at_same hz218.p2 rfl _) ?_)
          refine V.nil ?_
          refine V.then_n ?_
          refine ⟨i + 1, actT T (at_ opR l (i : Int)), by omega, ?_⟩
          refine ⟨hz218.p4, ?_, ?_, ?_, ?_, hD76_122, hF_120, hS_121, (by omega), (hgT.act (by omega) _)⟩
          · exact Eq.trans (o4 rfl s0_220) (V.int_eq (by omega))
          · exact (o4 rfl s1_221)
          · exact (o4 rfl s5_222)
          · exact Eq.trans (at_same hz218.p2.p1 rfl _) (V.int_eq (by omega))
     ·
      refine V.go_off 53 (by kernel_rfl) (((at_same hz101.p8.p4.p2.p1 rfl _ : Act.eval _ _ = (.bool (decide (¬ (((actT T (at_ opR l (i : Int))).b.length : Nat) : Int) = (2 * (((actT T (at_ opR l (i : Int))).a.length : Nat) : Int))))))).trans (df hg123)) (by kernel_rfl) ?_
      refine V.go_off 53 (by kernel_rfl) (((o1 rfl (at_same hz101.p8.p4.p2.p1 rfl _) : Act.eval _ _ = (.bool (decide (¬ (((actT T (at_ opR l (i : Int))).b.length : Nat) : Int) = (2 * (((actT T (at_ opR l (i : Int))).a.length : Nat) : Int))))))).trans (df hg123)) (by kernel_rfl) ?_
      refine V.go_off 53 (by kernel_rfl) (((o2 rfl (at_same hz101.p8.p4.p2.p1 rfl _) : Act.eval _ _ = (.bool (decide (¬ (((actT T (at_ opR l (i : Int))).b.length : Nat) : Int) = (2 * (((actT T (at_ opR l (i : Int))).a.length : Nat) : Int))))))).trans (df hg123)) (by kernel_rfl) ?_
      refine V.go_off 53 (by kernel_rfl) (((o2 rfl (o1 rfl (at_same hz101.p8.p4.p2.p1 rfl _)) : Act.eval _ _ = (.bool (decide (¬ (((actT T (at_ opR l (i : Int))).b.length : Nat) : Int) = (2 * (((actT T (at_ opR l (i : Int))).a.length : Nat) : Int))))))).trans (df hg123)) (by kernel_rfl) ?_
      refine V.go_on 48 (by kernel_rfl) (o8 rfl (o1 rfl (at_same hz101.p8.p2 rfl _))) (V.pk_f (((o4 rfl (at_same hz101.p8.p4.p2.p1 rfl _) : Act.eval _ _ = (.bool (decide (¬ (((actT T (at_ opR l (i : Int))).b.length : Nat) : Int) = (2 * (((actT T (at_ opR l (i : Int))).a.length : Nat) : Int))))))).trans (df hg123)) (v := (.bool false)) evc ?_)
      refine V.go_on 44 (by kernel_rfl) (((o8 rfl (o4 rfl (o2 rfl (at_same hz101.p4.p2 rfl _))) : Act.eval _ _ = (.bool (decide (¬ (((actT T (at_ opR l (i : Int))).b.length : Nat) : Int) = 0))))).trans (dt hg117)) (V.pk_f (o8 rfl (o2 rfl (at_same hz101.p8.p2 rfl _))) (v := (.bool false)) (at_same hz101.p16.p4 rfl _) ?_)
      refine V.go_on 41 (by kernel_rfl) (o16 rfl (o2 rfl (at_same hz101.p2.p1 rfl _))) (V.pk_t (((o8 rfl (o4 rfl (o2 rfl (o1 rfl (at_same hz101.p4.p2 rfl _)))) : Act.eval _ _ = (.bool (decide (¬ (((actT T (at_ opR l (i : Int))).b.length : Nat) : Int) = 0))))).trans (dt hg117)) (v := (.bool false)) (at_same hz101.p16.p4.p1 rfl _) ?_)
      refine V.go (V.pk_f (o16 rfl (o2 rfl (o1 rfl (at_same hz101.p2.p1 rfl _)))) (v := (.bool false)) (at_same hz101.p16.p4.p2 rfl _) ?_)
      refine V.go (V.mv (at_same hz101.p16.p4.p2.p1 rfl _) ?_)
      refine V.flushL hz101.p16.p8.p1 (fun a229 hz230 up231 => ?_)
      have s0_232 := up231 0 _ (o16 rfl (o8 rfl (o1 rfl s0_103)))
      have s1_233 := up231 1 _ (o16 rfl (o8 rfl (o1 rfl s1_104)))
      have s5_234 : a229.eval (.tmp 5) = (.pointer (some ⟨t5, 0, none⟩)) := up231 _ _ (o16 rfl (o8 rfl (o1 rfl s5_105)))
      have s6_235 := up231 6 _ (o16 rfl (o8 rfl (o1 rfl s6_106)))
      have s7_236 := up231 7 _ (o16 rfl (o8 rfl (o1 rfl s7_107)))
      have s8_237 := up231 8 _ (o16 rfl (o8 rfl (o1 rfl s8_108)))
      have s9_238 := up231 9 _ (o16 rfl (o8 rfl (o1 rfl s9_109)))
      have s62_239 := up231 62 _ (at_same hz101.p16.p8 rfl _)
      clear up231
      refine V.go_on 62 (by kernel_rfl) (s62_239) (V.mv (s8_237) ?_)
      refine V.go_on 62 (by kernel_rfl) (o1 rfl s62_239) (V.pvw [(63, .int .i64 (((actT T (at_ opR l (i : Int))).b.length : Nat) : Int))] ⟨(at_same hz230 rfl _), trivial⟩ (by kernel_rfl) (.bool ((((actT T (at_ opR l (i : Int))).b.length : Nat) : Int) == 0)) (.bool (decide ((((actT T (at_ opR l (i : Int))).b.length : Nat) : Int) = 0))) (by kernel_rfl) V.t_eql ?_)
      refine V.go_on 62 (by kernel_rfl) (o2 rfl s62_239) (V.mv (at_same hz230.p1 rfl _) ?_)
      by_cases hg240 : (((actT T (at_ opR l (i : Int))).b.length : Nat) : Int) = 0
      ·
       refine V.go_on 65 (by kernel_rfl) (((at_same hz230.p2 rfl _ : Act.eval _ _ = (.bool (decide ((((actT T (at_ opR l (i : Int))).b.length : Nat) : Int) = 0))))).trans (dt hg240)) (V.mv (o2 rfl (o1 rfl s9_238)) ?_)
       refine V.go_on 65 (by kernel_rfl) (((o1 rfl (at_same hz230.p2 rfl _) : Act.eval _ _ = (.bool (decide ((((actT T (at_ opR l (i : Int))).b.length : Nat) : Int) = 0))))).trans (dt hg240)) (V.pvw [(66, .int .i64 (((actT T (at_ opR l (i : Int))).moved : Nat) : Int))] ⟨(at_same hz230.p2.p1 rfl _), trivial⟩ (by kernel_rfl) (.bool ((((actT T (at_ opR l (i : Int))).moved : Nat) : Int) != 0)) (.bool (decide (¬ (((actT T (at_ opR l (i : Int))).moved : Nat) : Int) = 0))) (by kernel_rfl) V.t_neq ?_)
       refine V.go_on 65 (by kernel_rfl) (((o2 rfl (at_same hz230.p2 rfl _) : Act.eval _ _ = (.bool (decide ((((actT T (at_ opR l (i : Int))).b.length : Nat) : Int) = 0))))).trans (dt hg240)) (V.mv (at_same hz230.p4 rfl _) ?_)
       by_cases hg241 : ¬ (((actT T (at_ opR l (i : Int))).moved : Nat) : Int) = 0
       ·
        refine V.go_off 68 (by kernel_rfl) (((at_same hz230.p4.p1 rfl _ : Act.eval _ _ = (.bool (decide (¬ (((actT T (at_ opR l (i : Int))).moved : Nat) : Int) = 0))))).trans (dt hg241)) (by kernel_rfl) ?_
        refine V.go_off 68 (by kernel_rfl) (((o1 rfl (at_same hz230.p4.p1 rfl _) : Act.eval _ _ = (.bool (decide (¬ (((actT T (at_ opR l (i : Int))).moved : Nat) : Int) = 0))))).trans (dt hg241)) (by kernel_rfl) ?_
        refine V.go_off 68 (by kernel_rfl) (((o2 rfl (at_same hz230.p4.p1 rfl _) : Act.eval _ _ = (.bool (decide (¬ (((actT T (at_ opR l (i : Int))).moved : Nat) : Int) = 0))))).trans (dt hg241)) (by kernel_rfl) ?_
        refine V.go_off 68 (by kernel_rfl) (((o2 rfl (o1 rfl (at_same hz230.p4.p1 rfl _)) : Act.eval _ _ = (.bool (decide (¬ (((actT T (at_ opR l (i : Int))).moved : Nat) : Int) = 0))))).trans (dt hg241)) (by kernel_rfl) ?_
        refine V.go_on 65 (by kernel_rfl) (((o4 rfl (o2 rfl (o1 rfl (at_same hz230.p2 rfl _))) : Act.eval _ _ = (.bool (decide ((((actT T (at_ opR l (i : Int))).b.length : Nat) : Int) = 0))))).trans (dt hg240)) (V.pk_t (((o4 rfl (at_same hz230.p4.p1 rfl _) : Act.eval _ _ = (.bool (decide (¬ (((actT T (at_ opR l (i : Int))).moved : Nat) : Int) = 0))))).trans (dt hg241)) (v := (.bool true)) evc ?_)
        refine V.go_on 62 (by kernel_rfl) (o8 rfl (o2 rfl (o1 rfl s62_239))) (V.pk_t (((o8 rfl (at_same hz230.p2 rfl _) : Act.eval _ _ = (.bool (decide ((((actT T (at_ opR l (i : Int))).b.length : Nat) : Int) = 0))))).trans (dt hg240)) (v := (.bool true)) (at_same hz230.p8.p2 rfl _) ?_)
        refine V.go (V.pk_f (o8 rfl (o4 rfl s62_239)) (v := (.bool true)) (at_same hz230.p8.p2.p1 rfl _) ?_)
        refine V.go (V.mv (at_same hz230.p8.p4 rfl _) ?_)
        refine V.go_off 76 (by kernel_rfl) (at_same hz230.p8.p4.p1 rfl _) (by kernel_rfl) ?_
        refine V.go_off 76 (by kernel_rfl) (o1 rfl (at_same hz230.p8.p4.p1 rfl _)) (by kernel_rfl) ?_
        refine V.go (V.pk_t (o2 rfl (at_same hz230.p8.p4.p1 rfl _)) (v := (.bool true)) evc ?_)
        refine V.go (V.mv (at_same hz230.p16 rfl _) ?_)
        refine V.go_off 80 (by kernel_rfl) (at_same hz230.p16.p1 rfl _) (by kernel_rfl) ?_
        refine V.go_off 80 (by kernel_rfl) (o1 rfl (at_same hz230.p16.p1 rfl _)) (by kernel_rfl) ?_
        refine V.go_off 80 (by kernel_rfl) (o2 rfl (at_same hz230.p16.p1 rfl _)) (by kernel_rfl) ?_
        refine V.go_none 83 (by kernel_rfl) (at_same hz230.p16.p4 rfl _) ?_
        refine V.go_none 83 (by kernel_rfl) (o1 rfl (at_same hz230.p16.p4 rfl _)) ?_
        refine V.go_none 83 (by kernel_rfl) (o2 rfl (at_same hz230.p16.p4 rfl _)) ?_
        refine V.go_off 80 (by kernel_rfl) (o4 rfl (o2 rfl (at_same hz230.p16.p1 rfl _))) (by kernel_rfl) ?_
        refine V.flushL hz230.p16.p8.p1 (fun a242 hz243 up244 => ?_)
        have s0_245 := up244 0 _ (o16 rfl (o8 rfl (o1 rfl s0_232)))
        have s1_246 := up244 1 _ (o16 rfl (o8 rfl (o1 rfl s1_233)))
        have s5_247 : a242.eval (.tmp 5) = (.pointer (some ⟨t5, 0, none⟩)) := up244 _ _ (o16 rfl (o8 rfl (o1 rfl s5_234)))
        have s6_248 := up244 6 _ (o16 rfl (o8 rfl (o1 rfl s6_235)))
        have s80_249 := up244 80 _ (o4 rfl (o2 rfl (o1 rfl (at_same hz230.p16.p1 rfl _))))
        have s87_250 := up244 87 _ (at_same hz230.p16.p8 rfl _)
        clear up244
        refine V.go (V.pk_t (s80_249) (v := (.bool true)) evc ?_)
        refine V.nil ?_
        refine V.then_n (hK111 _ _ ?_)
        refine V.cond_t (at_same hz243 rfl _) ?_
        refine V.seq (fun K251 hK252 => ?_)
        refine V.region (by kernel_rfl) ?_
        refine V.go (V.asg evc ?_)
        refine V.nil ?_
        refine V.then_n (hK252 _ _ ?_)
        refine V.ret ?_
        refine V.blk_r ?_
        refine V.then_r ?_
        refine V.then_r ?_
        refine V.blk_r ?_
        refine V.then_r ?_
        refine V.ret1 hz243.p2 rfl (at_same hz243.p1 rfl _) ?_
        exfalso; first | omega | (have := (hpb (by omega)).2; omega)
       ·
        refine V.go_on 68 (by kernel_rfl) (((at_same hz230.p4.p1 rfl _ : Act.eval _ _ = (.bool (decide (¬ (((actT T (at_ opR l (i : Int))).moved : Nat) : Int) = 0))))).trans (df hg241)) (V.mv (v := (.pointer (some ⟨t5, 0, none⟩))) (o4 rfl (o2 rfl s5_234)) ?_)
        refine V.go_on 68 (by kernel_rfl) (((o1 rfl (at_same hz230.p4.p1 rfl _) : Act.eval _ _ = (.bool (decide (¬ (((actT T (at_ opR l (i : Int))).moved : Nat) : Int) = 0))))).trans (df hg241)) (V.call 18 #[] #[.pointer (some ⟨t5, 0, none⟩)] evf (args1 (at_same hz230.p4.p2 rfl _)) (Go.Proofs.enters_of Try.func18 (by kernel_rfl) rfl) (hD76_122.rd (fun Hq hq hqb => len_any w119 Hq ([]) t5 (actT T (at_ opR l (i : Int))) hq )) ?_)
        rintro _ w258 ⟨rfl, hF253⟩
        refine ⟨_, rfl, ?_⟩
        have hsw258 := hF253.size
        have hF_259 := hF_120.new hF253
        have hS_260 := hS_121.fr0 hF253
        have hD76_261 := hD76_122.fr0 hF253
        refine V.go_on 68 (by kernel_rfl) (((o2 rfl (at_same hz230.p4.p1 rfl _) : Act.eval _ _ = (.bool (decide (¬ (((actT T (at_ opR l (i : Int))).moved : Nat) : Int) = 0))))).trans (df hg241)) (V.mv (o8 rfl s7_236) ?_)
        refine V.go_on 68 (by kernel_rfl) (((o2 rfl (o1 rfl (at_same hz230.p4.p1 rfl _)) : Act.eval _ _ = (.bool (decide (¬ (((actT T (at_ opR l (i : Int))).moved : Nat) : Int) = 0))))).trans (df hg241)) (V.pv [(70, .int .i64 (((actT T (at_ opR l (i : Int))).n : Nat) : Int)), (71, .int .i64 (((actT T (at_ opR l (i : Int))).a.length : Nat) : Int))] ⟨(o1 rfl (at_same hz230.p4.p2.p1 rfl _)), (at_same hz230.p8 rfl _), trivial⟩ (by kernel_rfl) (.bool (decide ((((actT T (at_ opR l (i : Int))).n : Nat) : Int) > (((actT T (at_ opR l (i : Int))).a.length : Nat) : Int)))) (by kernel_rfl) ?_)
        refine V.go_on 65 (by kernel_rfl) (((o4 rfl (o2 rfl (o1 rfl (at_same hz230.p2 rfl _))) : Act.eval _ _ = (.bool (decide ((((actT T (at_ opR l (i : Int))).b.length : Nat) : Int) = 0))))).trans (dt hg240)) (V.pk_f (((o4 rfl (at_same hz230.p4.p1 rfl _) : Act.eval _ _ = (.bool (decide (¬ (((actT T (at_ opR l (i : Int))).moved : Nat) : Int) = 0))))).trans (df hg241)) (v := (.bool (decide ((((actT T (at_ opR l (i : Int))).n : Nat) : Int) > (((actT T (at_ opR l (i : Int))).a.length : Nat) : Int))))) (at_same hz230.p8.p1 rfl _) ?_)
        refine V.go_on 62 (by kernel_rfl) (o8 rfl (o2 rfl (o1 rfl s62_239))) (V.pk_t (((o8 rfl (at_same hz230.p2 rfl _) : Act.eval _ _ = (.bool (decide ((((actT T (at_ opR l (i : Int))).b.length : Nat) : Int) = 0))))).trans (dt hg240)) (v := (.bool (decide ((((actT T (at_ opR l (i : Int))).n : Nat) : Int) > (((actT T (at_ opR l (i : Int))).a.length : Nat) : Int))))) (at_same hz230.p8.p2 rfl _) ?_)
        refine V.go (V.pk_f (o8 rfl (o4 rfl s62_239)) (v := (.bool (decide ((((actT T (at_ opR l (i : Int))).n : Nat) : Int) > (((actT T (at_ opR l (i : Int))).a.length : Nat) : Int))))) (at_same hz230.p8.p2.p1 rfl _) ?_)
        refine V.go (V.mv (at_same hz230.p8.p4 rfl _) ?_)
        by_cases hg262 : (((actT T (at_ opR l (i : Int))).n : Nat) : Int) > (((actT T (at_ opR l (i : Int))).a.length : Nat) : Int)
        ·
         refine V.go_off 76 (by kernel_rfl) (((at_same hz230.p8.p4.p1 rfl _ : Act.eval _ _ = (.bool (decide ((((actT T (at_ opR l (i : Int))).n : Nat) : Int) > (((actT T (at_ opR l (i : Int))).a.length : Nat) : Int)))))).trans (dt hg262)) (by kernel_rfl) ?_
         refine V.go_off 76 (by kernel_rfl) (((o1 rfl (at_same hz230.p8.p4.p1 rfl _) : Act.eval _ _ = (.bool (decide ((((actT T (at_ opR l (i : Int))).n : Nat) : Int) > (((actT T (at_ opR l (i : Int))).a.length : Nat) : Int)))))).trans (dt hg262)) (by kernel_rfl) ?_
         refine V.go (V.pk_t (((o2 rfl (at_same hz230.p8.p4.p1 rfl _) : Act.eval _ _ = (.bool (decide ((((actT T (at_ opR l (i : Int))).n : Nat) : Int) > (((actT T (at_ opR l (i : Int))).a.length : Nat) : Int)))))).trans (dt hg262)) (v := (.bool true)) evc ?_)
         refine V.go (V.mv (at_same hz230.p16 rfl _) ?_)
         refine V.go_off 80 (by kernel_rfl) (at_same hz230.p16.p1 rfl _) (by kernel_rfl) ?_
         refine V.go_off 80 (by kernel_rfl) (o1 rfl (at_same hz230.p16.p1 rfl _)) (by kernel_rfl) ?_
         refine V.go_off 80 (by kernel_rfl) (o2 rfl (at_same hz230.p16.p1 rfl _)) (by kernel_rfl) ?_
         refine V.go_none 83 (by kernel_rfl) (at_same hz230.p16.p4 rfl _) ?_
         refine V.go_none 83 (by kernel_rfl) (o1 rfl (at_same hz230.p16.p4 rfl _)) ?_
         refine V.go_none 83 (by kernel_rfl) (o2 rfl (at_same hz230.p16.p4 rfl _)) ?_
         refine V.go_off 80 (by kernel_rfl) (o4 rfl (o2 rfl (at_same hz230.p16.p1 rfl _))) (by kernel_rfl) ?_
         refine V.flushL hz230.p16.p8.p1 (fun a263 hz264 up265 => ?_)
         have s0_266 := up265 0 _ (o16 rfl (o8 rfl (o1 rfl s0_232)))
         have s1_267 := up265 1 _ (o16 rfl (o8 rfl (o1 rfl s1_233)))
         have s5_268 : a263.eval (.tmp 5) = (.pointer (some ⟨t5, 0, none⟩)) := up265 _ _ (o16 rfl (o8 rfl (o1 rfl s5_234)))
         have s6_269 := up265 6 _ (o16 rfl (o8 rfl (o1 rfl s6_235)))
         have s80_270 := up265 80 _ (o4 rfl (o2 rfl (o1 rfl (at_same hz230.p16.p1 rfl _))))
         have s87_271 := up265 87 _ (at_same hz230.p16.p8 rfl _)
         clear up265
         refine V.go (V.pk_t (s80_270) (v := (.bool true)) evc ?_)
         refine V.nil ?_
         refine V.then_n (hK111 _ _ ?_)
         refine V.cond_t (at_same hz264 rfl _) ?_
         refine V.seq (fun K272 hK273 => ?_)
         refine V.region (by kernel_rfl) ?_
         refine V.go (V.asg evc ?_)
         refine V.nil ?_
         refine V.then_n (hK273 _ _ ?_)
         refine V.ret ?_
         refine V.blk_r ?_
         refine V.then_r ?_
         refine V.then_r ?_
         refine V.blk_r ?_
         refine V.then_r ?_
         refine V.ret1 hz264.p2 rfl (at_same hz264.p1 rfl _) ?_
         exfalso; first | omega | (have := (hpb (by omega)).2; omega)
        ·
         refine V.go_on 76 (by kernel_rfl) (((at_same hz230.p8.p4.p1 rfl _ : Act.eval _ _ = (.bool (decide ((((actT T (at_ opR l (i : Int))).n : Nat) : Int) > (((actT T (at_ opR l (i : Int))).a.length : Nat) : Int)))))).trans (df hg262)) (V.mv (o8 rfl (o4 rfl (o2 rfl s9_238))) ?_)
         refine V.go_on 76 (by kernel_rfl) (((o1 rfl (at_same hz230.p8.p4.p1 rfl _) : Act.eval _ _ = (.bool (decide ((((actT T (at_ opR l (i : Int))).n : Nat) : Int) > (((actT T (at_ opR l (i : Int))).a.length : Nat) : Int)))))).trans (df hg262)) (V.pv [(77, .int .i64 (((actT T (at_ opR l (i : Int))).moved : Nat) : Int))] ⟨(at_same hz230.p8.p4.p2 rfl _), trivial⟩ (by kernel_rfl) (.bool (decide ((((actT T (at_ opR l (i : Int))).moved : Nat) : Int) < 0))) (by kernel_rfl) ?_)
         refine V.go (V.pk_f (((o2 rfl (at_same hz230.p8.p4.p1 rfl _) : Act.eval _ _ = (.bool (decide ((((actT T (at_ opR l (i : Int))).n : Nat) : Int) > (((actT T (at_ opR l (i : Int))).a.length : Nat) : Int)))))).trans (df hg262)) (v := (.bool (decide ((((actT T (at_ opR l (i : Int))).moved : Nat) : Int) < 0)))) (at_same hz230.p8.p4.p2.p1 rfl _) ?_)
         refine V.go (V.mv (at_same hz230.p16 rfl _) ?_)
         by_cases hg274 : (((actT T (at_ opR l (i : Int))).moved : Nat) : Int) < 0
         ·
          refine V.go_off 80 (by kernel_rfl) (((at_same hz230.p16.p1 rfl _ : Act.eval _ _ = (.bool (decide ((((actT T (at_ opR l (i : Int))).moved : Nat) : Int) < 0))))).trans (dt hg274)) (by kernel_rfl) ?_
          refine V.go_off 80 (by kernel_rfl) (((o1 rfl (at_same hz230.p16.p1 rfl _) : Act.eval _ _ = (.bool (decide ((((actT T (at_ opR l (i : Int))).moved : Nat) : Int) < 0))))).trans (dt hg274)) (by kernel_rfl) ?_
          refine V.go_off 80 (by kernel_rfl) (((o2 rfl (at_same hz230.p16.p1 rfl _) : Act.eval _ _ = (.bool (decide ((((actT T (at_ opR l (i : Int))).moved : Nat) : Int) < 0))))).trans (dt hg274)) (by kernel_rfl) ?_
          refine V.go_none 83 (by kernel_rfl) (at_same hz230.p16.p4 rfl _) ?_
          refine V.go_none 83 (by kernel_rfl) (o1 rfl (at_same hz230.p16.p4 rfl _)) ?_
          refine V.go_none 83 (by kernel_rfl) (o2 rfl (at_same hz230.p16.p4 rfl _)) ?_
          refine V.go_off 80 (by kernel_rfl) (((o4 rfl (o2 rfl (at_same hz230.p16.p1 rfl _)) : Act.eval _ _ = (.bool (decide ((((actT T (at_ opR l (i : Int))).moved : Nat) : Int) < 0))))).trans (dt hg274)) (by kernel_rfl) ?_
          refine V.flushL hz230.p16.p8.p1 (fun a275 hz276 up277 => ?_)
          have s0_278 := up277 0 _ (o16 rfl (o8 rfl (o1 rfl s0_232)))
          have s1_279 := up277 1 _ (o16 rfl (o8 rfl (o1 rfl s1_233)))
          have s5_280 : a275.eval (.tmp 5) = (.pointer (some ⟨t5, 0, none⟩)) := up277 _ _ (o16 rfl (o8 rfl (o1 rfl s5_234)))
          have s6_281 := up277 6 _ (o16 rfl (o8 rfl (o1 rfl s6_235)))
          have s80_282 := up277 80 _ (o4 rfl (o2 rfl (o1 rfl (at_same hz230.p16.p1 rfl _))))
          have s87_283 := up277 87 _ (at_same hz230.p16.p8 rfl _)
          clear up277
          refine V.go (V.pk_t ((s80_282).trans (dt hg274)) (v := (.bool true)) evc ?_)
          refine V.nil ?_
          refine V.then_n (hK111 _ _ ?_)
          refine V.cond_t (at_same hz276 rfl _) ?_
          refine V.seq (fun K284 hK285 => ?_)
          refine V.region (by kernel_rfl) ?_
          refine V.go (V.asg evc ?_)
          refine V.nil ?_
          refine V.then_n (hK285 _ _ ?_)
          refine V.ret ?_
          refine V.blk_r ?_
          refine V.then_r ?_
          refine V.then_r ?_
          refine V.blk_r ?_
          refine V.then_r ?_
          refine V.ret1 hz276.p2 rfl (at_same hz276.p1 rfl _) ?_
          exfalso; first | omega | (have := (hpb (by omega)).2; omega)
         ·
          refine V.go_on 80 (by kernel_rfl) (((at_same hz230.p16.p1 rfl _ : Act.eval _ _ = (.bool (decide ((((actT T (at_ opR l (i : Int))).moved : Nat) : Int) < 0))))).trans (df hg274)) (V.mv (o16 rfl (o2 rfl s8_237)) ?_)
          refine V.go_on 80 (by kernel_rfl) (((o1 rfl (at_same hz230.p16.p1 rfl _) : Act.eval _ _ = (.bool (decide ((((actT T (at_ opR l (i : Int))).moved : Nat) : Int) < 0))))).trans (df hg274)) (V.pvw [(81, .int .i64 (((actT T (at_ opR l (i : Int))).b.length : Nat) : Int))] ⟨(at_same hz230.p16.p2 rfl _), trivial⟩ (by kernel_rfl) (.bool ((((actT T (at_ opR l (i : Int))).b.length : Nat) : Int) != 0)) (.bool (decide (¬ (((actT T (at_ opR l (i : Int))).b.length : Nat) : Int) = 0))) (by kernel_rfl) V.t_neq ?_)
          refine V.go_on 80 (by kernel_rfl) (((o2 rfl (at_same hz230.p16.p1 rfl _) : Act.eval _ _ = (.bool (decide ((((actT T (at_ opR l (i : Int))).moved : Nat) : Int) < 0))))).trans (df hg274)) (V.mv (((at_same hz230.p16.p2.p1 rfl _ : Act.eval _ _ = (.bool (decide (¬ (((actT T (at_ opR l (i : Int))).b.length : Nat) : Int) = 0))))).trans (dt hg117)) ?_)
          refine V.go_on 83 (by kernel_rfl) (at_same hz230.p16.p4 rfl _) (V.mv (o16 rfl (o4 rfl (o1 rfl s9_238))) ?_)
          refine V.go_on 83 (by kernel_rfl) (o1 rfl (at_same hz230.p16.p4 rfl _)) (V.mv (o16 rfl (o4 rfl (o2 rfl s7_236))) ?_)
          refine V.go_on 83 (by kernel_rfl) (o2 rfl (at_same hz230.p16.p4 rfl _)) (V.pv [(84, .int .i64 (((actT T (at_ opR l (i : Int))).moved : Nat) : Int)), (85, .int .i64 (((actT T (at_ opR l (i : Int))).a.length : Nat) : Int))] ⟨(o1 rfl (at_same hz230.p16.p4.p1 rfl _)), (at_same hz230.p16.p4.p2 rfl _), trivial⟩ (by kernel_rfl) (.bool (decide ((((actT T (at_ opR l (i : Int))).moved : Nat) : Int) ≥ (((actT T (at_ opR l (i : Int))).a.length : Nat) : Int)))) (by kernel_rfl) ?_)
          refine V.go_on 80 (by kernel_rfl) (((o4 rfl (o2 rfl (at_same hz230.p16.p1 rfl _)) : Act.eval _ _ = (.bool (decide ((((actT T (at_ opR l (i : Int))).moved : Nat) : Int) < 0))))).trans (df hg274)) (V.pk_t (o2 rfl (o1 rfl (at_same hz230.p16.p4 rfl _))) (v := (.bool (decide ((((actT T (at_ opR l (i : Int))).moved : Nat) : Int) ≥ (((actT T (at_ opR l (i : Int))).a.length : Nat) : Int))))) (at_same hz230.p16.p4.p2.p1 rfl _) ?_)
          refine V.flushL hz230.p16.p8.p1 (fun a286 hz287 up288 => ?_)
          have s0_289 := up288 0 _ (o16 rfl (o8 rfl (o1 rfl s0_232)))
          have s1_290 := up288 1 _ (o16 rfl (o8 rfl (o1 rfl s1_233)))
          have s5_291 : a286.eval (.tmp 5) = (.pointer (some ⟨t5, 0, none⟩)) := up288 _ _ (o16 rfl (o8 rfl (o1 rfl s5_234)))
          have s6_292 := up288 6 _ (o16 rfl (o8 rfl (o1 rfl s6_235)))
          have s80_293 := up288 80 _ (o4 rfl (o2 rfl (o1 rfl (at_same hz230.p16.p1 rfl _))))
          have s87_294 := up288 87 _ (at_same hz230.p16.p8 rfl _)
          clear up288
          refine V.go (V.pk_f ((s80_293).trans (df hg274)) (v := (.bool (decide ((((actT T (at_ opR l (i : Int))).moved : Nat) : Int) ≥ (((actT T (at_ opR l (i : Int))).a.length : Nat) : Int))))) (s87_294) ?_)
          refine V.nil ?_
          refine V.then_n (hK111 _ _ ?_)
          refine V.condP (p := (((actT T (at_ opR l (i : Int))).moved : Nat) : Int) ≥ (((actT T (at_ opR l (i : Int))).a.length : Nat) : Int)) (at_same hz287 rfl _) (fun ht295 => ?_) (fun ht295 => ?_)
          ·
           refine V.seq (fun K296 hK297 => ?_)
           refine V.region (by kernel_rfl) ?_
           refine V.go (V.asg evc ?_)
           refine V.nil ?_
           refine V.then_n (hK297 _ _ ?_)
           refine V.ret ?_
           refine V.blk_r ?_
           refine V.then_r ?_
           refine V.then_r ?_
           refine V.blk_r ?_
           refine V.then_r ?_
           refine V.ret1 hz287.p2 rfl (at_same hz287.p1 rfl _) ?_
           exfalso; first | omega | (have := (hpb (by omega)).2; omega)
          ·
           refine V.skip ?_
           refine V.blk_n ?_
           refine V.then_n (hK52 _ _ ?_)
           refine V.region (by kernel_rfl) ?_
           refine V.go (V.mv (o1 rfl s6_292) ?_)
           refine V.go (V.pvw [(22, .int .i64 (i : Int))] ⟨(at_same hz287.p1 rfl _), trivial⟩ (by kernel_rfl) (.int .i64 (IntKind.i64.wrap ((i : Int) + 1))) (.int .i64 ((i : Int) + 1)) (by kernel_rfl) (V.w_i64 (by omega) (by omega)) ?_)
           refine V.go (V.asg (at_same hz287.p2 rfl _) ?_)
           refine V.nil ?_
           refine V.then_n ?_
           refine ⟨i + 1, actT T (at_ opR l (i : Int)), by omega, ?_⟩
           refine ⟨hz287.p4, ?_, ?_, ?_, ?_, hD76_261, hF_259, hS_260, (by omega), (hgT.act (by omega) _)⟩
           · exact Eq.trans (o4 rfl s0_289) (V.int_eq (by omega))
           · exact (o4 rfl s1_290)
           · exact (o4 rfl s5_291)
           · exact Eq.trans (at_same hz287.p2.p1 rfl _) (V.int_eq (by omega))
      ·
       refine V.go_off 65 (by kernel_rfl) (((at_same hz230.p2 rfl _ : Act.eval _ _ = (.bool (decide ((((actT T (at_ opR l (i : Int))).b.length : Nat) : Int) = 0))))).trans (df hg240)) (by kernel_rfl) ?_
       refine V.go_off 65 (by kernel_rfl) (((o1 rfl (at_same hz230.p2 rfl _) : Act.eval _ _ = (.bool (decide ((((actT T (at_ opR l (i : Int))).b.length : Nat) : Int) = 0))))).trans (df hg240)) (by kernel_rfl) ?_
       refine V.go_off 65 (by kernel_rfl) (((o2 rfl (at_same hz230.p2 rfl _) : Act.eval _ _ = (.bool (decide ((((actT T (at_ opR l (i : Int))).b.length : Nat) : Int) = 0))))).trans (df hg240)) (by kernel_rfl) ?_
       refine V.go_none 68 (by kernel_rfl) (at_same hz230.p4.p1 rfl _) ?_
       refine V.go_none 68 (by kernel_rfl) (o1 rfl (at_same hz230.p4.p1 rfl _)) ?_
       refine V.go_none 68 (by kernel_rfl) (o2 rfl (at_same hz230.p4.p1 rfl _)) ?_
       refine V.go_none 68 (by kernel_rfl) (o2 rfl (o1 rfl (at_same hz230.p4.p1 rfl _))) ?_
       refine V.go_off 65 (by kernel_rfl) (((o4 rfl (o2 rfl (o1 rfl (at_same hz230.p2 rfl _))) : Act.eval _ _ = (.bool (decide ((((actT T (at_ opR l (i : Int))).b.length : Nat) : Int) = 0))))).trans (df hg240)) (by kernel_rfl) ?_
       refine V.go_on 62 (by kernel_rfl) (o8 rfl (o2 rfl (o1 rfl s62_239))) (V.pk_f (((o8 rfl (at_same hz230.p2 rfl _) : Act.eval _ _ = (.bool (decide ((((actT T (at_ opR l (i : Int))).b.length : Nat) : Int) = 0))))).trans (df hg240)) (v := (.bool false)) evc ?_)
       refine V.go (V.pk_f (o8 rfl (o4 rfl s62_239)) (v := (.bool false)) (at_same hz230.p8.p2.p1 rfl _) ?_)
       refine V.go (V.mv (at_same hz230.p8.p4 rfl _) ?_)
       refine V.go_on 76 (by kernel_rfl) (at_same hz230.p8.p4.p1 rfl _) (V.mv (o8 rfl (o4 rfl (o2 rfl s9_238))) ?_)
       refine V.go_on 76 (by kernel_rfl) (o1 rfl (at_same hz230.p8.p4.p1 rfl _)) (V.pv [(77, .int .i64 (((actT T (at_ opR l (i : Int))).moved : Nat) : Int))] ⟨(at_same hz230.p8.p4.p2 rfl _), trivial⟩ (by kernel_rfl) (.bool (decide ((((actT T (at_ opR l (i : Int))).moved : Nat) : Int) < 0))) (by kernel_rfl) ?_)
       refine V.go (V.pk_f (o2 rfl (at_same hz230.p8.p4.p1 rfl _)) (v := (.bool (decide ((((actT T (at_ opR l (i : Int))).moved : Nat) : Int) < 0)))) (at_same hz230.p8.p4.p2.p1 rfl _) ?_)
       refine V.go (V.mv (at_same hz230.p16 rfl _) ?_)
       by_cases hg298 : (((actT T (at_ opR l (i : Int))).moved : Nat) : Int) < 0
       ·
        refine V.go_off 80 (by kernel_rfl) (((at_same hz230.p16.p1 rfl _ : Act.eval _ _ = (.bool (decide ((((actT T (at_ opR l (i : Int))).moved : Nat) : Int) < 0))))).trans (dt hg298)) (by kernel_rfl) ?_
        refine V.go_off 80 (by kernel_rfl) (((o1 rfl (at_same hz230.p16.p1 rfl _) : Act.eval _ _ = (.bool (decide ((((actT T (at_ opR l (i : Int))).moved : Nat) : Int) < 0))))).trans (dt hg298)) (by kernel_rfl) ?_
        refine V.go_off 80 (by kernel_rfl) (((o2 rfl (at_same hz230.p16.p1 rfl _) : Act.eval _ _ = (.bool (decide ((((actT T (at_ opR l (i : Int))).moved : Nat) : Int) < 0))))).trans (dt hg298)) (by kernel_rfl) ?_
        refine V.go_none 83 (by kernel_rfl) (at_same hz230.p16.p4 rfl _) ?_
        refine V.go_none 83 (by kernel_rfl) (o1 rfl (at_same hz230.p16.p4 rfl _)) ?_
        refine V.go_none 83 (by kernel_rfl) (o2 rfl (at_same hz230.p16.p4 rfl _)) ?_
        refine V.go_off 80 (by kernel_rfl) (((o4 rfl (o2 rfl (at_same hz230.p16.p1 rfl _)) : Act.eval _ _ = (.bool (decide ((((actT T (at_ opR l (i : Int))).moved : Nat) : Int) < 0))))).trans (dt hg298)) (by kernel_rfl) ?_
        refine V.flushL hz230.p16.p8.p1 (fun a299 hz300 up301 => ?_)
        have s0_302 := up301 0 _ (o16 rfl (o8 rfl (o1 rfl s0_232)))
        have s1_303 := up301 1 _ (o16 rfl (o8 rfl (o1 rfl s1_233)))
        have s5_304 : a299.eval (.tmp 5) = (.pointer (some ⟨t5, 0, none⟩)) := up301 _ _ (o16 rfl (o8 rfl (o1 rfl s5_234)))
        have s6_305 := up301 6 _ (o16 rfl (o8 rfl (o1 rfl s6_235)))
        have s80_306 := up301 80 _ (o4 rfl (o2 rfl (o1 rfl (at_same hz230.p16.p1 rfl _))))
        have s87_307 := up301 87 _ (at_same hz230.p16.p8 rfl _)
        clear up301
        refine V.go (V.pk_t ((s80_306).trans (dt hg298)) (v := (.bool true)) evc ?_)
        refine V.nil ?_
        refine V.then_n (hK111 _ _ ?_)
        refine V.cond_t (at_same hz300 rfl _) ?_
        refine V.seq (fun K308 hK309 => ?_)
        refine V.region (by kernel_rfl) ?_
        refine V.go (V.asg evc ?_)
        refine V.nil ?_
        refine V.then_n (hK309 _ _ ?_)
        refine V.ret ?_
        refine V.blk_r ?_
        refine V.then_r ?_
        refine V.then_r ?_
        refine V.blk_r ?_
        refine V.then_r ?_
        refine V.ret1 hz300.p2 rfl (at_same hz300.p1 rfl _) ?_
        exfalso; first | omega | (have := (hpb (by omega)).2; omega)
       ·
        refine V.go_on 80 (by kernel_rfl) (((at_same hz230.p16.p1 rfl _ : Act.eval _ _ = (.bool (decide ((((actT T (at_ opR l (i : Int))).moved : Nat) : Int) < 0))))).trans (df hg298)) (V.mv (o16 rfl (o2 rfl s8_237)) ?_)
        refine V.go_on 80 (by kernel_rfl) (((o1 rfl (at_same hz230.p16.p1 rfl _) : Act.eval _ _ = (.bool (decide ((((actT T (at_ opR l (i : Int))).moved : Nat) : Int) < 0))))).trans (df hg298)) (V.pvw [(81, .int .i64 (((actT T (at_ opR l (i : Int))).b.length : Nat) : Int))] ⟨(at_same hz230.p16.p2 rfl _), trivial⟩ (by kernel_rfl) (.bool ((((actT T (at_ opR l (i : Int))).b.length : Nat) : Int) != 0)) (.bool (decide (¬ (((actT T (at_ opR l (i : Int))).b.length : Nat) : Int) = 0))) (by kernel_rfl) V.t_neq ?_)
        refine V.go_on 80 (by kernel_rfl) (((o2 rfl (at_same hz230.p16.p1 rfl _) : Act.eval _ _ = (.bool (decide ((((actT T (at_ opR l (i : Int))).moved : Nat) : Int) < 0))))).trans (df hg298)) (V.mv (((at_same hz230.p16.p2.p1 rfl _ : Act.eval _ _ = (.bool (decide (¬ (((actT T (at_ opR l (i : Int))).b.length : Nat) : Int) = 0))))).trans (dt hg117)) ?_)
        refine V.go_on 83 (by kernel_rfl) (at_same hz230.p16.p4 rfl _) (V.mv (o16 rfl (o4 rfl (o1 rfl s9_238))) ?_)
        refine V.go_on 83 (by kernel_rfl) (o1 rfl (at_same hz230.p16.p4 rfl _)) (V.mv (o16 rfl (o4 rfl (o2 rfl s7_236))) ?_)
        refine V.go_on 83 (by kernel_rfl) (o2 rfl (at_same hz230.p16.p4 rfl _)) (V.pv [(84, .int .i64 (((actT T (at_ opR l (i : Int))).moved : Nat) : Int)), (85, .int .i64 (((actT T (at_ opR l (i : Int))).a.length : Nat) : Int))] ⟨(o1 rfl (at_same hz230.p16.p4.p1 rfl _)), (at_same hz230.p16.p4.p2 rfl _), trivial⟩ (by kernel_rfl) (.bool (decide ((((actT T (at_ opR l (i : Int))).moved : Nat) : Int) ≥ (((actT T (at_ opR l (i : Int))).a.length : Nat) : Int)))) (by kernel_rfl) ?_)
        refine V.go_on 80 (by kernel_rfl) (((o4 rfl (o2 rfl (at_same hz230.p16.p1 rfl _)) : Act.eval _ _ = (.bool (decide ((((actT T (at_ opR l (i : Int))).moved : Nat) : Int) < 0))))).trans (df hg298)) (V.pk_t (o2 rfl (o1 rfl (at_same hz230.p16.p4 rfl _))) (v := (.bool (decide ((((actT T (at_ opR l (i : Int))).moved : Nat) : Int) ≥ (((actT T (at_ opR l (i : Int))).a.length : Nat) : Int))))) (at_same hz230.p16.p4.p2.p1 rfl _) ?_)
        refine V.flushL hz230.p16.p8.p1 (fun a310 hz311 up312 => ?_)
        have s0_313 := up312 0 _ (o16 rfl (o8 rfl (o1 rfl s0_232)))
        have s1_314 := up312 1 _ (o16 rfl (o8 rfl (o1 rfl s1_233)))
        have s5_315 : a310.eval (.tmp 5) = (.pointer (some ⟨t5, 0, none⟩)) := up312 _ _ (o16 rfl (o8 rfl (o1 rfl s5_234)))
        have s6_316 := up312 6 _ (o16 rfl (o8 rfl (o1 rfl s6_235)))
        have s80_317 := up312 80 _ (o4 rfl (o2 rfl (o1 rfl (at_same hz230.p16.p1 rfl _))))
        have s87_318 := up312 87 _ (at_same hz230.p16.p8 rfl _)
        clear up312
        refine V.go (V.pk_f ((s80_317).trans (df hg298)) (v := (.bool (decide ((((actT T (at_ opR l (i : Int))).moved : Nat) : Int) ≥ (((actT T (at_ opR l (i : Int))).a.length : Nat) : Int))))) (s87_318) ?_)
        refine V.nil ?_
        refine V.then_n (hK111 _ _ ?_)
        refine V.condP (p := (((actT T (at_ opR l (i : Int))).moved : Nat) : Int) ≥ (((actT T (at_ opR l (i : Int))).a.length : Nat) : Int)) (at_same hz311 rfl _) (fun ht319 => ?_) (fun ht319 => ?_)
        ·
         refine V.seq (fun K320 hK321 => ?_)
         refine V.region (by kernel_rfl) ?_
         refine V.go (V.asg evc ?_)
         refine V.nil ?_
         refine V.then_n (hK321 _ _ ?_)
         refine V.ret ?_
         refine V.blk_r ?_
         refine V.then_r ?_
         refine V.then_r ?_
         refine V.blk_r ?_
         refine V.then_r ?_
         refine V.ret1 hz311.p2 rfl (at_same hz311.p1 rfl _) ?_
         exfalso; first | omega | (have := (hpb (by omega)).2; omega)
        ·
         refine V.skip ?_
         refine V.blk_n ?_
         refine V.then_n (hK52 _ _ ?_)
         refine V.region (by kernel_rfl) ?_
         refine V.go (V.mv (o1 rfl s6_316) ?_)
         refine V.go (V.pvw [(22, .int .i64 (i : Int))] ⟨(at_same hz311.p1 rfl _), trivial⟩ (by kernel_rfl) (.int .i64 (IntKind.i64.wrap ((i : Int) + 1))) (.int .i64 ((i : Int) + 1)) (by kernel_rfl) (V.w_i64 (by omega) (by omega)) ?_)
         refine V.go (V.asg (at_same hz311.p2 rfl _) ?_)
         refine V.nil ?_
         refine V.then_n ?_
         refine ⟨i + 1, actT T (at_ opR l (i : Int)), by omega, ?_⟩
         refine ⟨hz311.p4, ?_, ?_, ?_, ?_, hD76_122, hF_120, hS_121, (by omega), (hgT.act (by omega) _)⟩
         · exact Eq.trans (o4 rfl s0_313) (V.int_eq (by omega))
         · exact (o4 rfl s1_314)
         · exact (o4 rfl s5_315)
         · exact Eq.trans (at_same hz311.p2.p1 rfl _) (V.int_eq (by omega))
    ·
     refine V.go_off 44 (by kernel_rfl) (((at_same hz101.p4.p2 rfl _ : Act.eval _ _ = (.bool (decide (¬ (((actT T (at_ opR l (i : Int))).b.length : Nat) : Int) = 0))))).trans (df hg117)) (by kernel_rfl) ?_
     refine V.go_off 44 (by kernel_rfl) (((o1 rfl (at_same hz101.p4.p2 rfl _) : Act.eval _ _ = (.bool (decide (¬ (((actT T (at_ opR l (i : Int))).b.length : Nat) : Int) = 0))))).trans (df hg117)) (by kernel_rfl) ?_
     refine V.go_off 44 (by kernel_rfl) (((o2 rfl (at_same hz101.p4.p2 rfl _) : Act.eval _ _ = (.bool (decide (¬ (((actT T (at_ opR l (i : Int))).b.length : Nat) : Int) = 0))))).trans (df hg117)) (by kernel_rfl) ?_
     refine V.go_off 44 (by kernel_rfl) (((o2 rfl (o1 rfl (at_same hz101.p4.p2 rfl _)) : Act.eval _ _ = (.bool (decide (¬ (((actT T (at_ opR l (i : Int))).b.length : Nat) : Int) = 0))))).trans (df hg117)) (by kernel_rfl) ?_
     refine V.go_none 48 (by kernel_rfl) (at_same hz101.p8.p2 rfl _) ?_
     refine V.go_none 48 (by kernel_rfl) (o1 rfl (at_same hz101.p8.p2 rfl _)) ?_
     refine V.go_none 48 (by kernel_rfl) (o2 rfl (at_same hz101.p8.p2 rfl _)) ?_
     refine V.go_none 48 (by kernel_rfl) (o2 rfl (o1 rfl (at_same hz101.p8.p2 rfl _))) ?_
     refine V.go_none 48 (by kernel_rfl) (o4 rfl (at_same hz101.p8.p2 rfl _)) ?_
     refine V.go_none 53 (by kernel_rfl) (at_same hz101.p8.p4.p2.p1 rfl _) ?_
     refine V.go_none 53 (by kernel_rfl) (o1 rfl (at_same hz101.p8.p4.p2.p1 rfl _)) ?_
     refine V.go_none 53 (by kernel_rfl) (o2 rfl (at_same hz101.p8.p4.p2.p1 rfl _)) ?_
     refine V.go_none 53 (by kernel_rfl) (o2 rfl (o1 rfl (at_same hz101.p8.p4.p2.p1 rfl _))) ?_
     refine V.go_none 48 (by kernel_rfl) (o8 rfl (o1 rfl (at_same hz101.p8.p2 rfl _))) ?_
     refine V.go_off 44 (by kernel_rfl) (((o8 rfl (o4 rfl (o2 rfl (at_same hz101.p4.p2 rfl _))) : Act.eval _ _ = (.bool (decide (¬ (((actT T (at_ opR l (i : Int))).b.length : Nat) : Int) = 0))))).trans (df hg117)) (by kernel_rfl) ?_
     refine V.go_on 41 (by kernel_rfl) (o16 rfl (o2 rfl (at_same hz101.p2.p1 rfl _))) (V.pk_f (((o8 rfl (o4 rfl (o2 rfl (o1 rfl (at_same hz101.p4.p2 rfl _)))) : Act.eval _ _ = (.bool (decide (¬ (((actT T (at_ opR l (i : Int))).b.length : Nat) : Int) = 0))))).trans (df hg117)) (v := (.bool false)) evc ?_)
     refine V.go (V.pk_f (o16 rfl (o2 rfl (o1 rfl (at_same hz101.p2.p1 rfl _)))) (v := (.bool false)) (at_same hz101.p16.p4.p2 rfl _) ?_)
     refine V.go (V.mv (at_same hz101.p16.p4.p2.p1 rfl _) ?_)
     refine V.flushL hz101.p16.p8.p1 (fun a322 hz323 up324 => ?_)
     have s0_325 := up324 0 _ (o16 rfl (o8 rfl (o1 rfl s0_103)))
     have s1_326 := up324 1 _ (o16 rfl (o8 rfl (o1 rfl s1_104)))
     have s5_327 : a322.eval (.tmp 5) = (.pointer (some ⟨t5, 0, none⟩)) := up324 _ _ (o16 rfl (o8 rfl (o1 rfl s5_105)))
     have s6_328 := up324 6 _ (o16 rfl (o8 rfl (o1 rfl s6_106)))
     have s7_329 := up324 7 _ (o16 rfl (o8 rfl (o1 rfl s7_107)))
     have s8_330 := up324 8 _ (o16 rfl (o8 rfl (o1 rfl s8_108)))
     have s9_331 := up324 9 _ (o16 rfl (o8 rfl (o1 rfl s9_109)))
     have s62_332 := up324 62 _ (at_same hz101.p16.p8 rfl _)
     clear up324
     refine V.go_on 62 (by kernel_rfl) (s62_332) (V.mv (s8_330) ?_)
     refine V.go_on 62 (by kernel_rfl) (o1 rfl s62_332) (V.pvw [(63, .int .i64 (((actT T (at_ opR l (i : Int))).b.length : Nat) : Int))] ⟨(at_same hz323 rfl _), trivial⟩ (by kernel_rfl) (.bool ((((actT T (at_ opR l (i : Int))).b.length : Nat) : Int) == 0)) (.bool (decide ((((actT T (at_ opR l (i : Int))).b.length : Nat) : Int) = 0))) (by kernel_rfl) V.t_eql ?_)
     refine V.go_on 62 (by kernel_rfl) (o2 rfl s62_332) (V.mv (at_same hz323.p1 rfl _) ?_)
     by_cases hg333 : (((actT T (at_ opR l (i : Int))).b.length : Nat) : Int) = 0
     ·
      refine V.go_on 65 (by kernel_rfl) (((at_same hz323.p2 rfl _ : Act.eval _ _ = (.bool (decide ((((actT T (at_ opR l (i : Int))).b.length : Nat) : Int) = 0))))).trans (dt hg333)) (V.mv (o2 rfl (o1 rfl s9_331)) ?_)
      refine V.go_on 65 (by kernel_rfl) (((o1 rfl (at_same hz323.p2 rfl _) : Act.eval _ _ = (.bool (decide ((((actT T (at_ opR l (i : Int))).b.length : Nat) : Int) = 0))))).trans (dt hg333)) (V.pvw [(66, .int .i64 (((actT T (at_ opR l (i : Int))).moved : Nat) : Int))] ⟨(at_same hz323.p2.p1 rfl _), trivial⟩ (by kernel_rfl) (.bool ((((actT T (at_ opR l (i : Int))).moved : Nat) : Int) != 0)) (.bool (decide (¬ (((actT T (at_ opR l (i : Int))).moved : Nat) : Int) = 0))) (by kernel_rfl) V.t_neq ?_)
      refine V.go_on 65 (by kernel_rfl) (((o2 rfl (at_same hz323.p2 rfl _) : Act.eval _ _ = (.bool (decide ((((actT T (at_ opR l (i : Int))).b.length : Nat) : Int) = 0))))).trans (dt hg333)) (V.mv (at_same hz323.p4 rfl _) ?_)
      by_cases hg334 : ¬ (((actT T (at_ opR l (i : Int))).moved : Nat) : Int) = 0
      ·
       refine V.go_off 68 (by kernel_rfl) (((at_same hz323.p4.p1 rfl _ : Act.eval _ _ = (.bool (decide (¬ (((actT T (at_ opR l (i : Int))).moved : Nat) : Int) = 0))))).trans (dt hg334)) (by kernel_rfl) ?_
       refine V.go_off 68 (by kernel_rfl) (((o1 rfl (at_same hz323.p4.p1 rfl _) : Act.eval _ _ = (.bool (decide (¬ (((actT T (at_ opR l (i : Int))).moved : Nat) : Int) = 0))))).trans (dt hg334)) (by kernel_rfl) ?_
       refine V.go_off 68 (by kernel_rfl) (((o2 rfl (at_same hz323.p4.p1 rfl _) : Act.eval _ _ = (.bool (decide (¬ (((actT T (at_ opR l (i : Int))).moved : Nat) : Int) = 0))))).trans (dt hg334)) (by kernel_rfl) ?_
       refine V.go_off 68 (by kernel_rfl) (((o2 rfl (o1 rfl (at_same hz323.p4.p1 rfl _)) : Act.eval _ _ = (.bool (decide (¬ (((actT T (at_ opR l (i : Int))).moved : Nat) : Int) = 0))))).trans (dt hg334)) (by kernel_rfl) ?_
       refine V.go_on 65 (by kernel_rfl) (((o4 rfl (o2 rfl (o1 rfl (at_same hz323.p2 rfl _))) : Act.eval _ _ = (.bool (decide ((((actT T (at_ opR l (i : Int))).b.length : Nat) : Int) = 0))))).trans (dt hg333)) (V.pk_t (((o4 rfl (at_same hz323.p4.p1 rfl _) : Act.eval _ _ = (.bool (decide (¬ (((actT T (at_ opR l (i : Int))).moved : Nat) : Int) = 0))))).trans (dt hg334)) (v := (.bool true)) evc ?_)
       refine V.go_on 62 (by kernel_rfl) (o8 rfl (o2 rfl (o1 rfl s62_332))) (V.pk_t (((o8 rfl (at_same hz323.p2 rfl _) : Act.eval _ _ = (.bool (decide ((((actT T (at_ opR l (i : Int))).b.length : Nat) : Int) = 0))))).trans (dt hg333)) (v := (.bool true)) (at_same hz323.p8.p2 rfl _) ?_)
       refine V.go (V.pk_f (o8 rfl (o4 rfl s62_332)) (v := (.bool true)) (at_same hz323.p8.p2.p1 rfl _) ?_)
       refine V.go (V.mv (at_same hz323.p8.p4 rfl _) ?_)
       refine V.go_off 76 (by kernel_rfl) (at_same hz323.p8.p4.p1 rfl _) (by kernel_rfl) ?_
       refine V.go_off 76 (by kernel_rfl) (o1 rfl (at_same hz323.p8.p4.p1 rfl _)) (by kernel_rfl) ?_
       refine V.go (V.pk_t (o2 rfl (at_same hz323.p8.p4.p1 rfl _)) (v := (.bool true)) evc ?_)
       refine V.go (V.mv (at_same hz323.p16 rfl _) ?_)
       refine V.go_off 80 (by kernel_rfl) (at_same hz323.p16.p1 rfl _) (by kernel_rfl) ?_
       refine V.go_off 80 (by kernel_rfl) (o1 rfl (at_same hz323.p16.p1 rfl _)) (by kernel_rfl) ?_
       refine V.go_off 80 (by kernel_rfl) (o2 rfl (at_same hz323.p16.p1 rfl _)) (by kernel_rfl) ?_
       refine V.go_none 83 (by kernel_rfl) (at_same hz323.p16.p4 rfl _) ?_
       refine V.go_none 83 (by kernel_rfl) (o1 rfl (at_same hz323.p16.p4 rfl _)) ?_
       refine V.go_none 83 (by kernel_rfl) (o2 rfl (at_same hz323.p16.p4 rfl _)) ?_
       refine V.go_off 80 (by kernel_rfl) (o4 rfl (o2 rfl (at_same hz323.p16.p1 rfl _))) (by kernel_rfl) ?_
       refine V.flushL hz323.p16.p8.p1 (fun a335 hz336 up337 => ?_)
       have s0_338 := up337 0 _ (o16 rfl (o8 rfl (o1 rfl s0_325)))
       have s1_339 := up337 1 _ (o16 rfl (o8 rfl (o1 rfl s1_326)))
       have s5_340 : a335.eval (.tmp 5) = (.pointer (some ⟨t5, 0, none⟩)) := up337 _ _ (o16 rfl (o8 rfl (o1 rfl s5_327)))
       have s6_341 := up337 6 _ (o16 rfl (o8 rfl (o1 rfl s6_328)))
       have s80_342 := up337 80 _ (o4 rfl (o2 rfl (o1 rfl (at_same hz323.p16.p1 rfl _))))
       have s87_343 := up337 87 _ (at_same hz323.p16.p8 rfl _)
       clear up337
       refine V.go (V.pk_t (s80_342) (v := (.bool true)) evc ?_)
       refine V.nil ?_
       refine V.then_n (hK111 _ _ ?_)
       refine V.cond_t (at_same hz336 rfl _) ?_
       refine V.seq (fun K344 hK345 => ?_)
       refine V.region (by kernel_rfl) ?_
       refine V.go (V.asg evc ?_)
       refine V.nil ?_
       refine V.then_n (hK345 _ _ ?_)
       refine V.ret ?_
       refine V.blk_r ?_
       refine V.then_r ?_
       refine V.then_r ?_
       refine V.blk_r ?_
       refine V.then_r ?_
       refine V.ret1 hz336.p2 rfl (at_same hz336.p1 rfl _) ?_
       exfalso; first | omega | (have := (hpb (by omega)).2; omega)
      ·
       refine V.go_on 68 (by kernel_rfl) (((at_same hz323.p4.p1 rfl _ : Act.eval _ _ = (.bool (decide (¬ (((actT T (at_ opR l (i : Int))).moved : Nat) : Int) = 0))))).trans (df hg334)) (V.mv (v := (.pointer (some ⟨t5, 0, none⟩))) (o4 rfl (o2 rfl s5_327)) ?_)
       refine V.go_on 68 (by kernel_rfl) (((o1 rfl (at_same hz323.p4.p1 rfl _) : Act.eval _ _ = (.bool (decide (¬ (((actT T (at_ opR l (i : Int))).moved : Nat) : Int) = 0))))).trans (df hg334)) (V.call 18 #[] #[.pointer (some ⟨t5, 0, none⟩)] evf (args1 (at_same hz323.p4.p2 rfl _)) (Go.Proofs.enters_of Try.func18 (by kernel_rfl) rfl) (hD76_116.rd (fun Hq hq hqb => len_any w113 Hq ([]) t5 (actT T (at_ opR l (i : Int))) hq )) ?_)
       rintro _ w351 ⟨rfl, hF346⟩
       refine ⟨_, rfl, ?_⟩
       have hsw351 := hF346.size
       have hF_352 := hF_114.new hF346
       have hS_353 := hS_115.fr0 hF346
       have hD76_354 := hD76_116.fr0 hF346
       refine V.go_on 68 (by kernel_rfl) (((o2 rfl (at_same hz323.p4.p1 rfl _) : Act.eval _ _ = (.bool (decide (¬ (((actT T (at_ opR l (i : Int))).moved : Nat) : Int) = 0))))).trans (df hg334)) (V.mv (o8 rfl s7_329) ?_)
       refine V.go_on 68 (by kernel_rfl) (((o2 rfl (o1 rfl (at_same hz323.p4.p1 rfl _)) : Act.eval _ _ = (.bool (decide (¬ (((actT T (at_ opR l (i : Int))).moved : Nat) : Int) = 0))))).trans (df hg334)) (V.pv [(70, .int .i64 (((actT T (at_ opR l (i : Int))).n : Nat) : Int)), (71, .int .i64 (((actT T (at_ opR l (i : Int))).a.length : Nat) : Int))] ⟨(o1 rfl (at_same hz323.p4.p2.p1 rfl _)), (at_same hz323.p8 rfl _), trivial⟩ (by kernel_rfl) (.bool (decide ((((actT T (at_ opR l (i : Int))).n : Nat) : Int) > (((actT T (at_ opR l (i : Int))).a.length : Nat) : Int)))) (by kernel_rfl) ?_)
       refine V.go_on 65 (by kernel_rfl) (((o4 rfl (o2 rfl (o1 rfl (at_same hz323.p2 rfl _))) : Act.eval _ _ = (.bool (decide ((((actT T (at_ opR l (i : Int))).b.length : Nat) : Int) = 0))))).trans (dt hg333)) (V.pk_f (((o4 rfl (at_same hz323.p4.p1 rfl _) : Act.eval _ _ = (.bool (decide (¬ (((actT T (at_ opR l (i : Int))).moved : Nat) : Int) = 0))))).trans (df hg334)) (v := (.bool (decide ((((actT T (at_ opR l (i : Int))).n : Nat) : Int) > (((actT T (at_ opR l (i : Int))).a.length : Nat) : Int))))) (at_same hz323.p8.p1 rfl _) ?_)
       refine V.go_on 62 (by kernel_rfl) (o8 rfl (o2 rfl (o1 rfl s62_332))) (V.pk_t (((o8 rfl (at_same hz323.p2 rfl _) : Act.eval _ _ = (.bool (decide ((((actT T (at_ opR l (i : Int))).b.length : Nat) : Int) = 0))))).trans (dt hg333)) (v := (.bool (decide ((((actT T (at_ opR l (i : Int))).n : Nat) : Int) > (((actT T (at_ opR l (i : Int))).a.length : Nat) : Int))))) (at_same hz323.p8.p2 rfl _) ?_)
       refine V.go (V.pk_f (o8 rfl (o4 rfl s62_332)) (v := (.bool (decide ((((actT T (at_ opR l (i : Int))).n : Nat) : Int) > (((actT T (at_ opR l (i : Int))).a.length : Nat) : Int))))) (at_same hz323.p8.p2.p1 rfl _) ?_)
       refine V.go (V.mv (at_same hz323.p8.p4 rfl _) ?_)
       by_cases hg355 : (((actT T (at_ opR l (i : Int))).n : Nat) : Int) > (((actT T (at_ opR l (i : Int))).a.length : Nat) : Int)
       ·
        refine V.go_off 76 (by kernel_rfl) (((at_same hz323.p8.p4.p1 rfl _ : Act.eval _ _ = (.bool (decide ((((actT T (at_ opR l (i : Int))).n : Nat) : Int) > (((actT T (at_ opR l (i : Int))).a.length : Nat) : Int)))))).trans (dt hg355)) (by kernel_rfl) ?_
        refine V.go_off 76 (by kernel_rfl) (((o1 rfl (at_same hz323.p8.p4.p1 rfl _) : Act.eval _ _ = (.bool (decide ((((actT T (at_ opR l (i : Int))).n : Nat) : Int) > (((actT T (at_ opR l (i : Int))).a.length : Nat) : Int)))))).trans (dt hg355)) (by kernel_rfl) ?_
        refine V.go (V.pk_t (((o2 rfl (at_same hz323.p8.p4.p1 rfl _) : Act.eval _ _ = (.bool (decide ((((actT T (at_ opR l (i : Int))).n : Nat) : Int) > (((actT T (at_ opR l (i : Int))).a.length : Nat) : Int)))))).trans (dt hg355)) (v := (.bool true)) evc ?_)
        refine V.go (V.mv (at_same hz323.p16 rfl _) ?_)
        refine V.go_off 80 (by kernel_rfl) (at_same hz323.p16.p1 rfl _) (by kernel_rfl) ?_
        refine V.go_off 80 (by kernel_rfl) (o1 rfl (at_same hz323.p16.p1 rfl _)) (by kernel_rfl) ?_
        refine V.go_off 80 (by kernel_rfl) (o2 rfl (at_same hz323.p16.p1 rfl _)) (by kernel_rfl) ?_
        refine V.go_none 83 (by kernel_rfl) (at_same hz323.p16.p4 rfl _) ?_
        refine V.go_none 83 (by kernel_rfl) (o1 rfl (at_same hz323.p16.p4 rfl _)) ?_
        refine V.go_none 83 (by kernel_rfl) (o2 rfl (at_same hz323.p16.p4 rfl _)) ?_
        refine V.go_off 80 (by kernel_rfl) (o4 rfl (o2 rfl (at_same hz323.p16.p1 rfl _))) (by kernel_rfl) ?_
        refine V.flushL hz323.p16.p8.p1 (fun a356 hz357 up358 => ?_)
        have s0_359 := up358 0 _ (o16 rfl (o8 rfl (o1 rfl s0_325)))
        have s1_360 := up358 1 _ (o16 rfl (o8 rfl (o1 rfl s1_326)))
        have s5_361 : a356.eval (.tmp 5) = (.pointer (some ⟨t5, 0, none⟩)) := up358 _ _ (o16 rfl (o8 rfl (o1 rfl s5_327)))
        have s6_362 := up358 6 _ (o16 rfl (o8 rfl (o1 rfl s6_328)))
        have s80_363 := up358 80 _ (o4 rfl (o2 rfl (o1 rfl (at_same hz323.p16.p1 rfl _))))
        have s87_364 := up358 87 _ (at_same hz323.p16.p8 rfl _)
        clear up358
        refine V.go (V.pk_t (s80_363) (v := (.bool true)) evc ?_)
        refine V.nil ?_
        refine V.then_n (hK111 _ _ ?_)
        refine V.cond_t (at_same hz357 rfl _) ?_
        refine V.seq (fun K365 hK366 => ?_)
        refine V.region (by kernel_rfl) ?_
        refine V.go (V.asg evc ?_)
        refine V.nil ?_
        refine V.then_n (hK366 _ _ ?_)
        refine V.ret ?_
        refine V.blk_r ?_
        refine V.then_r ?_
        refine V.then_r ?_
        refine V.blk_r ?_
        refine V.then_r ?_
        refine V.ret1 hz357.p2 rfl (at_same hz357.p1 rfl _) ?_
        exfalso; first | omega | (have := (hpb (by omega)).2; omega)
       ·
        refine V.go_on 76 (by kernel_rfl) (((at_same hz323.p8.p4.p1 rfl _ : Act.eval _ _ = (.bool (decide ((((actT T (at_ opR l (i : Int))).n : Nat) : Int) > (((actT T (at_ opR l (i : Int))).a.length : Nat) : Int)))))).trans (df hg355)) (V.mv (o8 rfl (o4 rfl (o2 rfl s9_331))) ?_)
        refine V.go_on 76 (by kernel_rfl) (((o1 rfl (at_same hz323.p8.p4.p1 rfl _) : Act.eval _ _ = (.bool (decide ((((actT T (at_ opR l (i : Int))).n : Nat) : Int) > (((actT T (at_ opR l (i : Int))).a.length : Nat) : Int)))))).trans (df hg355)) (V.pv [(77, .int .i64 (((actT T (at_ opR l (i : Int))).moved : Nat) : Int))] ⟨(at_same hz323.p8.p4.p2 rfl _), trivial⟩ (by kernel_rfl) (.bool (decide ((((actT T (at_ opR l (i : Int))).moved : Nat) : Int) < 0))) (by kernel_rfl) ?_)
        refine V.go (V.pk_f (((o2 rfl (at_same hz323.p8.p4.p1 rfl _) : Act.eval _ _ = (.bool (decide ((((actT T (at_ opR l (i : Int))).n : Nat) : Int) > (((actT T (at_ opR l (i : Int))).a.length : Nat) : Int)))))).trans (df hg355)) (v := (.bool (decide ((((actT T (at_ opR l (i : Int))).moved : Nat) : Int) < 0)))) (at_same hz323.p8.p4.p2.p1 rfl _) ?_)
        refine V.go (V.mv (at_same hz323.p16 rfl _) ?_)
        by_cases hg367 : (((actT T (at_ opR l (i : Int))).moved : Nat) : Int) < 0
        ·
         refine V.go_off 80 (by kernel_rfl) (((at_same hz323.p16.p1 rfl _ : Act.eval _ _ = (.bool (decide ((((actT T (at_ opR l (i : Int))).moved : Nat) : Int) < 0))))).trans (dt hg367)) (by kernel_rfl) ?_
         refine V.go_off 80 (by kernel_rfl) (((o1 rfl (at_same hz323.p16.p1 rfl _) : Act.eval _ _ = (.bool (decide ((((actT T (at_ opR l (i : Int))).moved : Nat) : Int) < 0))))).trans (dt hg367)) (by kernel_rfl) ?_
         refine V.go_off 80 (by kernel_rfl) (((o2 rfl (at_same hz323.p16.p1 rfl _) : Act.eval _ _ = (.bool (decide ((((actT T (at_ opR l (i : Int))).moved : Nat) : Int) < 0))))).trans (dt hg367)) (by kernel_rfl) ?_
         refine V.go_none 83 (by kernel_rfl) (at_same hz323.p16.p4 rfl _) ?_
         refine V.go_none 83 (by kernel_rfl) (o1 rfl (at_same hz323.p16.p4 rfl _)) ?_
         refine V.go_none 83 (by kernel_rfl) (o2 rfl (at_same hz323.p16.p4 rfl _)) ?_
         refine V.go_off 80 (by kernel_rfl) (((o4 rfl (o2 rfl (at_same hz323.p16.p1 rfl _)) : Act.eval _ _ = (.bool (decide ((((actT T (at_ opR l (i : Int))).moved : Nat) : Int) < 0))))).trans (dt hg367)) (by kernel_rfl) ?_
         refine V.flushL hz323.p16.p8.p1 (fun a368 hz369 up370 => ?_)
         have s0_371 := up370 0 _ (o16 rfl (o8 rfl (o1 rfl s0_325)))
         have s1_372 := up370 1 _ (o16 rfl (o8 rfl (o1 rfl s1_326)))
         have s5_373 : a368.eval (.tmp 5) = (.pointer (some ⟨t5, 0, none⟩)) := up370 _ _ (o16 rfl (o8 rfl (o1 rfl s5_327)))
         have s6_374 := up370 6 _ (o16 rfl (o8 rfl (o1 rfl s6_328)))
         have s80_375 := up370 80 _ (o4 rfl (o2 rfl (o1 rfl (at_same hz323.p16.p1 rfl _))))
         have s87_376 := up370 87 _ (at_same hz323.p16.p8 rfl _)
         clear up370
         refine V.go (V.pk_t ((s80_375).trans (dt hg367)) (v := (.bool true)) evc ?_)
         refine V.nil ?_
         refine V.then_n (hK111 _ _ ?_)
         refine V.cond_t (at_same hz369 rfl _) ?_
         refine V.seq (fun K377 hK378 => ?_)
         refine V.region (by kernel_rfl) ?_
         refine V.go (V.asg evc ?_)
         refine V.nil ?_
         refine V.then_n (hK378 _ _ ?_)
         refine V.ret ?_
         refine V.blk_r ?_
         refine V.then_r ?_
         refine V.then_r ?_
         refine V.blk_r ?_
         refine V.then_r ?_
         refine V.ret1 hz369.p2 rfl (at_same hz369.p1 rfl _) ?_
         exfalso; first | omega | (have := (hpb (by omega)).2; omega)
        ·
         refine V.go_on 80 (by kernel_rfl) (((at_same hz323.p16.p1 rfl _ : Act.eval _ _ = (.bool (decide ((((actT T (at_ opR l (i : Int))).moved : Nat) : Int) < 0))))).trans (df hg367)) (V.mv (o16 rfl (o2 rfl s8_330)) ?_)
         refine V.go_on 80 (by kernel_rfl) (((o1 rfl (at_same hz323.p16.p1 rfl _) : Act.eval _ _ = (.bool (decide ((((actT T (at_ opR l (i : Int))).moved : Nat) : Int) < 0))))).trans (df hg367)) (V.pvw [(81, .int .i64 (((actT T (at_ opR l (i : Int))).b.length : Nat) : Int))] ⟨(at_same hz323.p16.p2 rfl _), trivial⟩ (by kernel_rfl) (.bool ((((actT T (at_ opR l (i : Int))).b.length : Nat) : Int) != 0)) (.bool (decide (¬ (((actT T (at_ opR l (i : Int))).b.length : Nat) : Int) = 0))) (by kernel_rfl) V.t_neq ?_)
         refine V.go_on 80 (by kernel_rfl) (((o2 rfl (at_same hz323.p16.p1 rfl _) : Act.eval _ _ = (.bool (decide ((((actT T (at_ opR l (i : Int))).moved : Nat) : Int) < 0))))).trans (df hg367)) (V.mv (((at_same hz323.p16.p2.p1 rfl _ : Act.eval _ _ = (.bool (decide (¬ (((actT T (at_ opR l (i : Int))).b.length : Nat) : Int) = 0))))).trans (df hg117)) ?_)
         refine V.go_off 83 (by kernel_rfl) (at_same hz323.p16.p4 rfl _) (by kernel_rfl) ?_
         refine V.go_off 83 (by kernel_rfl) (o1 rfl (at_same hz323.p16.p4 rfl _)) (by kernel_rfl) ?_
         refine V.go_off 83 (by kernel_rfl) (o2 rfl (at_same hz323.p16.p4 rfl _)) (by kernel_rfl) ?_
         refine V.go_on 80 (by kernel_rfl) (((o4 rfl (o2 rfl (at_same hz323.p16.p1 rfl _)) : Act.eval _ _ = (.bool (decide ((((actT T (at_ opR l (i : Int))).moved : Nat) : Int) < 0))))).trans (df hg367)) (V.pk_f (o2 rfl (o1 rfl (at_same hz323.p16.p4 rfl _))) (v := (.bool false)) evc ?_)
         refine V.flushL hz323.p16.p8.p1 (fun a379 hz380 up381 => ?_)
         have s0_382 := up381 0 _ (o16 rfl (o8 rfl (o1 rfl s0_325)))
         have s1_383 := up381 1 _ (o16 rfl (o8 rfl (o1 rfl s1_326)))
         have s5_384 : a379.eval (.tmp 5) = (.pointer (some ⟨t5, 0, none⟩)) := up381 _ _ (o16 rfl (o8 rfl (o1 rfl s5_327)))
         have s6_385 := up381 6 _ (o16 rfl (o8 rfl (o1 rfl s6_328)))
         have s80_386 := up381 80 _ (o4 rfl (o2 rfl (o1 rfl (at_same hz323.p16.p1 rfl _))))
         have s87_387 := up381 87 _ (at_same hz323.p16.p8 rfl _)
         clear up381
         refine V.go (V.pk_f ((s80_386).trans (df hg367)) (v := (.bool false)) (s87_387) ?_)
         refine V.nil ?_
         refine V.then_n (hK111 _ _ ?_)
         refine V.cond_f (at_same hz380 rfl _) ?_
         refine V.skip ?_
         refine V.blk_n ?_
         refine V.then_n (hK52 _ _ ?_)
         refine V.region (by kernel_rfl) ?_
         refine V.go (V.mv (o1 rfl s6_385) ?_)
         refine V.go (V.pvw [(22, .int .i64 (i : Int))] ⟨(at_same hz380.p1 rfl _), trivial⟩ (by kernel_rfl) (.int .i64 (IntKind.i64.wrap ((i : Int) + 1))) (.int .i64 ((i : Int) + 1)) (by kernel_rfl) (V.w_i64 (by omega) (by omega)) ?_)
         refine V.go (V.asg (at_same hz380.p2 rfl _) ?_)
         refine V.nil ?_
         refine V.then_n ?_
         refine ⟨i + 1, actT T (at_ opR l (i : Int)), by omega, ?_⟩
         refine ⟨hz380.p4, ?_, ?_, ?_, ?_, hD76_354, hF_352, hS_353, (by omega), (hgT.act (by omega) _)⟩
         · exact Eq.trans (o4 rfl s0_382) (V.int_eq (by omega))
         · exact (o4 rfl s1_383)
         · exact (o4 rfl s5_384)
         · exact Eq.trans (at_same hz380.p2.p1 rfl _) (V.int_eq (by omega))
     ·
      refine V.go_off 65 (by kernel_rfl) (((at_same hz323.p2 rfl _ : Act.eval _ _ = (.bool (decide ((((actT T (at_ opR l (i : Int))).b.length : Nat) : Int) = 0))))).trans (df hg333)) (by kernel_rfl) ?_
      refine V.go_off 65 (by kernel_rfl) (((o1 rfl (at_same hz323.p2 rfl _) : Act.eval _ _ = (.bool (decide ((((actT T (at_ opR l (i : Int))).b.length : Nat) : Int) = 0))))).trans (df hg333)) (by kernel_rfl) ?_
      refine V.go_off 65 (by kernel_rfl) (((o2 rfl (at_same hz323.p2 rfl _) : Act.eval _ _ = (.bool (decide ((((actT T (at_ opR l (i : Int))).b.length : Nat) : Int) = 0))))).trans (df hg333)) (by kernel_rfl) ?_
      refine V.go_none 68 (by kernel_rfl) (at_same hz323.p4.p1 rfl _) ?_
      refine V.go_none 68 (by kernel_rfl) (o1 rfl (at_same hz323.p4.p1 rfl _)) ?_
      refine V.go_none 68 (by kernel_rfl) (o2 rfl (at_same hz323.p4.p1 rfl _)) ?_
      refine V.go_none 68 (by kernel_rfl) (o2 rfl (o1 rfl (at_same hz323.p4.p1 rfl _))) ?_
      refine V.go_off 65 (by kernel_rfl) (((o4 rfl (o2 rfl (o1 rfl (at_same hz323.p2 rfl _))) : Act.eval _ _ = (.bool (decide ((((actT T (at_ opR l (i : Int))).b.length : Nat) : Int) = 0))))).trans (df hg333)) (by kernel_rfl) ?_
      refine V.go_on 62 (by kernel_rfl) (o8 rfl (o2 rfl (o1 rfl s62_332))) (V.pk_f (((o8 rfl (at_same hz323.p2 rfl _) : Act.eval _ _ = (.bool (decide ((((actT T (at_ opR l (i : Int))).b.length : Nat) : Int) = 0))))).trans (df hg333)) (v := (.bool false)) evc ?_)
      refine V.go (V.pk_f (o8 rfl (o4 rfl s62_332)) (v := (.bool false)) (at_same hz323.p8.p2.p1 rfl _) ?_)
      refine V.go (V.mv (at_same hz323.p8.p4 rfl _) ?_)
      refine V.go_on 76 (by kernel_rfl) (at_same hz323.p8.p4.p1 rfl _) (V.mv (o8 rfl (o4 rfl (o2 rfl s9_331))) ?_)
      refine V.go_on 76 (by kernel_rfl) (o1 rfl (at_same hz323.p8.p4.p1 rfl _)) (V.pv [(77, .int .i64 (((actT T (at_ opR l (i : Int))).moved : Nat) : Int))] ⟨(at_same hz323.p8.p4.p2 rfl _), trivial⟩ (by kernel_rfl) (.bool (decide ((((actT T (at_ opR l (i : Int))).moved : Nat) : Int) < 0))) (by kernel_rfl) ?_)
      refine V.go (V.pk_f (o2 rfl (at_same hz323.p8.p4.p1 rfl _)) (v := (.bool (decide ((((actT T (at_ opR l (i : Int))).moved : Nat) : Int) < 0)))) (at_same hz323.p8.p4.p2.p1 rfl _) ?_)
      refine V.go (V.mv (at_same hz323.p16 rfl _) ?_)
      by_cases hg388 : (((actT T (at_ opR l (i : Int))).moved : Nat) : Int) < 0
      ·
       refine V.go_off 80 (by kernel_rfl) (((at_same hz323.p16.p1 rfl _ : Act.eval _ _ = (.bool (decide ((((actT T (at_ opR l (i : Int))).moved : Nat) : Int) < 0))))).trans (dt hg388)) (by kernel_rfl) ?_
       refine V.go_off 80 (by kernel_rfl) (((o1 rfl (at_same hz323.p16.p1 rfl _) : Act.eval _ _ = (.bool (decide ((((actT T (at_ opR l (i : Int))).moved : Nat) : Int) < 0))))).trans (dt hg388)) (by kernel_rfl) ?_
       refine V.go_off 80 (by kernel_rfl) (((o2 rfl (at_same hz323.p16.p1 rfl _) : Act.eval _ _ = (.bool (decide ((((actT T (at_ opR l (i : Int))).moved : Nat) : Int) < 0))))).trans (dt hg388)) (by kernel_rfl) ?_
       refine V.go_none 83 (by kernel_rfl) (at_same hz323.p16.p4 rfl _) ?_
       refine V.go_none 83 (by kernel_rfl) (o1 rfl (at_same hz323.p16.p4 rfl _)) ?_
       refine V.go_none 83 (by kernel_rfl) (o2 rfl (at_same hz323.p16.p4 rfl _)) ?_
       refine V.go_off 80 (by kernel_rfl) (((o4 rfl (o2 rfl (at_same hz323.p16.p1 rfl _)) : Act.eval _ _ = (.bool (decide ((((actT T (at_ opR l (i : Int))).moved : Nat) : Int) < 0))))).trans (dt hg388)) (by kernel_rfl) ?_
       refine V.flushL hz323.p16.p8.p1 (fun a389 hz390 up391 => ?_)
       have s0_392 := up391 0 _ (o16 rfl (o8 rfl (o1 rfl s0_325)))
       have s1_393 := up391 1 _ (o16 rfl (o8 rfl (o1 rfl s1_326)))
       have s5_394 : a389.eval (.tmp 5) = (.pointer (some ⟨t5, 0, none⟩)) := up391 _ _ (o16 rfl (o8 rfl (o1 rfl s5_327)))
       have s6_395 := up391 6 _ (o16 rfl (o8 rfl (o1 rfl s6_328)))
       have s80_396 := up391 80 _ (o4 rfl (o2 rfl (o1 rfl (at_same hz323.p16.p1 rfl _))))
       have s87_397 := up391 87 _ (at_same hz323.p16.p8 rfl _)
       clear up391
       refine V.go (V.pk_t ((s80_396).trans (dt hg388)) (v := (.bool true)) evc ?_)
       refine V.nil ?_
       refine V.then_n (hK111 _ _ ?_)
       refine V.cond_t (at_same hz390 rfl _) ?_
       refine V.seq (fun K398 hK399 => ?_)
       refine V.region (by kernel_rfl) ?_
       refine V.go (V.asg evc ?_)
       refine V.nil ?_
       refine V.then_n (hK399 _ _ ?_)
       refine V.ret ?_
       refine V.blk_r ?_
       refine V.then_r ?_
       refine V.then_r ?_
       refine V.blk_r ?_
       refine V.then_r ?_
       refine V.ret1 hz390.p2 rfl (at_same hz390.p1 rfl _) ?_
       exfalso; first | omega | (have := (hpb (by omega)).2; omega)
      ·
       refine V.go_on 80 (by kernel_rfl) (((at_same hz323.p16.p1 rfl _ : Act.eval _ _ = (.bool (decide ((((actT T (at_ opR l (i : Int))).moved : Nat) : Int) < 0))))).trans (df hg388)) (V.mv (o16 rfl (o2 rfl s8_330)) ?_)
       refine V.go_on 80 (by kernel_rfl) (((o1 rfl (at_same hz323.p16.p1 rfl _) : Act.eval _ _ = (.bool (decide ((((actT T (at_ opR l (i : Int))).moved : Nat) : Int) < 0))))).trans (df hg388)) (V.pvw [(81, .int .i64 (((actT T (at_ opR l (i : Int))).b.length : Nat) : Int))] ⟨(at_same hz323.p16.p2 rfl _), trivial⟩ (by kernel_rfl) (.bool ((((actT T (at_ opR l (i : Int))).b.length : Nat) : Int) != 0)) (.bool (decide (¬ (((actT T (at_ opR l (i : Int))).b.length : Nat) : Int) = 0))) (by kernel_rfl) V.t_neq ?_)
       refine V.go_on 80 (by kernel_rfl) (((o2 rfl (at_same hz323.p16.p1 rfl _) : Act.eval _ _ = (.bool (decide ((((actT T (at_ opR l (i : Int))).moved : Nat) : Int) < 0))))).trans (df hg388)) (V.mv (((at_same hz323.p16.p2.p1 rfl _ : Act.eval _ _ = (.bool (decide (¬ (((actT T (at_ opR l (i : Int))).b.length : Nat) : Int) = 0))))).trans (df hg117)) ?_)
       refine V.go_off 83 (by kernel_rfl) (at_same hz323.p16.p4 rfl _) (by kernel_rfl) ?_
       refine V.go_off 83 (by kernel_rfl) (o1 rfl (at_same hz323.p16.p4 rfl _)) (by kernel_rfl) ?_
       refine V.go_off 83 (by kernel_rfl) (o2 rfl (at_same hz323.p16.p4 rfl _)) (by kernel_rfl) ?_
       refine V.go_on 80 (by kernel_rfl) (((o4 rfl (o2 rfl (at_same hz323.p16.p1 rfl _)) : Act.eval _ _ = (.bool (decide ((((actT T (at_ opR l (i : Int))).moved : Nat) : Int) < 0))))).trans (df hg388)) (V.pk_f (o2 rfl (o1 rfl (at_same hz323.p16.p4 rfl _))) (v := (.bool false)) evc ?_)
       refine V.flushL hz323.p16.p8.p1 (fun a400 hz401 up402 => ?_)
       have s0_403 := up402 0 _ (o16 rfl (o8 rfl (o1 rfl s0_325)))
       have s1_404 := up402 1 _ (o16 rfl (o8 rfl (o1 rfl s1_326)))
       have s5_405 : a400.eval (.tmp 5) = (.pointer (some ⟨t5, 0, none⟩)) := up402 _ _ (o16 rfl (o8 rfl (o1 rfl s5_327)))
       have s6_406 := up402 6 _ (o16 rfl (o8 rfl (o1 rfl s6_328)))
       have s80_407 := up402 80 _ (o4 rfl (o2 rfl (o1 rfl (at_same hz323.p16.p1 rfl _))))
       have s87_408 := up402 87 _ (at_same hz323.p16.p8 rfl _)
       clear up402
       refine V.go (V.pk_f ((s80_407).trans (df hg388)) (v := (.bool false)) (s87_408) ?_)
       refine V.nil ?_
       refine V.then_n (hK111 _ _ ?_)
       refine V.cond_f (at_same hz401 rfl _) ?_
       refine V.skip ?_
       refine V.blk_n ?_
       refine V.then_n (hK52 _ _ ?_)
       refine V.region (by kernel_rfl) ?_
       refine V.go (V.mv (o1 rfl s6_406) ?_)
       refine V.go (V.pvw [(22, .int .i64 (i : Int))] ⟨(at_same hz401.p1 rfl _), trivial⟩ (by kernel_rfl) (.int .i64 (IntKind.i64.wrap ((i : Int) + 1))) (.int .i64 ((i : Int) + 1)) (by kernel_rfl) (V.w_i64 (by omega) (by omega)) ?_)
       refine V.go (V.asg (at_same hz401.p2 rfl _) ?_)
       refine V.nil ?_
       refine V.then_n ?_
       refine ⟨i + 1, actT T (at_ opR l (i : Int)), by omega, ?_⟩
       refine ⟨hz401.p4, ?_, ?_, ?_, ?_, hD76_116, hF_114, hS_115, (by omega), (hgT.act (by omega) _)⟩
       · exact Eq.trans (o4 rfl s0_403) (V.int_eq (by omega))
       · exact (o4 rfl s1_404)
       · exact (o4 rfl s5_405)
       · exact Eq.trans (at_same hz401.p2.p1 rfl _) (V.int_eq (by omega))
   ·
    refine V.exit ?_
    refine V.then_e ?_
    refine V.then_e ?_
    refine V.blk_hit ?_
    refine V.then_n (hK23 _ _ ?_)
    refine V.seq (fun K409 hK410 => ?_)
    refine V.region (by kernel_rfl) ?_
    refine V.go (V.call 13 #[] #[] evf (args0) (Go.Proofs.enters_of Try.func13 (by kernel_rfl) rfl) (alive_any w27) ?_)
    rintro _ w412 ⟨rfl, hF411⟩
    refine ⟨_, rfl, ?_⟩
    have hsw412 := hF411.size
    have hD_413 := hD_33.fr0 hF411
    have hF_414 := hF_34.new hF411
    have hS_415 := hS_35.fr0 hF411
    refine V.go (V.asg (v := (.bool true)) (at_same hz43 rfl _) ?_)
    refine V.nil ?_
    refine V.then_n (hK410 _ _ ?_)
    refine V.ret ?_
    refine V.ret1 hz43.p2 rfl (at_same hz43.p1 rfl _) ?_
    exact ⟨rfl, hF_414⟩
  ·
   refine V.go_off 18 (by kernel_rfl) (((at_same hz28.p4 rfl _ : Act.eval _ _ = (.bool (decide ((i : Int) < ((l.length : Nat) : Int)))))).trans (df hg41)) (by kernel_rfl) ?_
   refine V.go_off 18 (by kernel_rfl) (((o1 rfl (at_same hz28.p4 rfl _) : Act.eval _ _ = (.bool (decide ((i : Int) < ((l.length : Nat) : Int)))))).trans (df hg41)) (by kernel_rfl) ?_
   refine V.go (V.pk_f (((o2 rfl (at_same hz28.p4 rfl _) : Act.eval _ _ = (.bool (decide ((i : Int) < ((l.length : Nat) : Int)))))).trans (df hg41)) (v := (.bool false)) evc ?_)
   refine V.nil ?_
   refine V.then_n (hK40 _ _ ?_)
   refine V.flushW hz28.p8 (fun a416 hz417 up418 => ?_)
   have s0_419 := up418 0 _ (o8 rfl s0_29)
   have s1_420 := up418 1 _ (o8 rfl s1_30)
   have s5_421 : a416.eval (.tmp 5) = (.pointer (some ⟨t5, 0, none⟩)) := up418 _ _ (o8 rfl s5_31)
   have s6_422 := up418 6 _ (o8 rfl s6_32)
   have s21_423 := up418 21 _ (at_same hz28.p4.p2.p1 rfl _)
   clear up418
   refine V.cond_f (s21_423) ?_
   refine V.exit ?_
   refine V.then_e ?_
   refine V.then_e ?_
   refine V.blk_hit ?_
   refine V.then_n (hK23 _ _ ?_)
   refine V.seq (fun K424 hK425 => ?_)
   refine V.region (by kernel_rfl) ?_
   refine V.go (V.call 13 #[] #[] evf (args0) (Go.Proofs.enters_of Try.func13 (by kernel_rfl) rfl) (alive_any w27) ?_)
   rintro _ w427 ⟨rfl, hF426⟩
   refine ⟨_, rfl, ?_⟩
   have hsw427 := hF426.size
   have hD_428 := hD_33.fr0 hF426
   have hF_429 := hF_34.new hF426
   have hS_430 := hS_35.fr0 hF426
   refine V.go (V.asg (v := (.bool true)) (at_same hz417 rfl _) ?_)
   refine V.nil ?_
   refine V.then_n (hK425 _ _ ?_)
   refine V.ret ?_
   refine V.ret1 hz417.p2 rfl (at_same hz417.p1 rfl _) ?_
   exact ⟨rfl, hF_429⟩
end Go.Proofs.Ytalhmegjomfbaaa
