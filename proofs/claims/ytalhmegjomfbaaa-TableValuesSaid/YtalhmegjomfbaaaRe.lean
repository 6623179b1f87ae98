/- Walks: the reference: All. -/
import Derived.Test.YtalhmegjomfbaaaProg
import Derived.Test.YtalhmegjomfbaaaRd
namespace Go.Proofs.Ytalhmegjomfbaaa
open Go.V Go.Base
open Go.RowKit (Below)
attribute [local irreducible] Act.put Act.eval
set_option linter.unusedVariables false
set_option linter.unusedSimpArgs false
set_option maxHeartbeats 4000000 in
set_option maxRecDepth 20000 in
theorem rall_N (w : World) (H : Nat → Prop) (av : List Nat) (t gA : Nat) (vsA : List Value) (T : Tb Int) (hok : T.Ok) (hT : TabN 40 42 60 itI w H av t gA vsA T) (hHb : ∀ k, H k → k < w.heap.size) (hb : T.b.length = 0) : Calls Try.prog 21 #[.pointer (some ⟨t, 0, none⟩)] w (fun e w' => ∃ A c, e = .returned (.slice A T.n c) ∧ OwR itI NoZ w' w.heap.size 60 (.slice A T.n c) (T.a ++ T.b).flatten ∧ Fr [] w w') := by
 have hF := Fr.refl [] w
 have hok0 := hok
 have hO := OwR.nil itI NoZ w w.heap.size 60
 have hbl := hok.bl
 obtain ⟨hsd, hpa, hla, hlb, hmv, hmz, hnn, hcn, hks⟩ := hok
 obtain ⟨hB, hRA, hlA, hK, hne, hpt, hpg⟩ := hT
 have hltt := hB.lt
 have hltg := hRA.lt
 refine V.enter 43 Try.func21 rfl rfl ?_
 intro a hz ha
 have s0 : a.eval (.tmp 0) = (.pointer (some ⟨t, 0, none⟩)) := ha 0 _ rfl
 clear ha
 refine V.seq (fun K1 hK2 => ?_)
 refine V.rg ?_
 refine V.ga evc ?_
 refine V.nil ?_
 refine V.then_n (hK2 _ _ ?_)
 refine V.seq (fun K3 hK4 => ?_)
 refine V.rg ?_
 refine V.ga evc ?_
 refine V.nil ?_
 refine V.then_n (hK4 _ _ ?_)
 refine V.seq (fun K5 hK6 => ?_)
 refine V.seq (fun K7 hK8 => ?_)
 refine V.rg ?_
 refine V.ga evc ?_
 refine V.nil ?_
 refine V.then_n (hK8 _ _ ?_)
 refine V.block ?_
 refine V.loop3 (fun (i : Nat) (A : Option Addr) (c : Nat) a_ w_ => Sz 43 a_ ∧ a_.eval (.tmp 0) = (.pointer (some ⟨t, 0, none⟩)) ∧ a_.eval (.tmp 3) = (.slice A (((T.a.take i).flatten).length) c) ∧ a_.eval (.tmp 4) = (.int .i64 (i : Int)) ∧ OwR itI NoZ w_ w.heap.size 60 (.slice A (((T.a.take i).flatten).length) c) ((T.a.take i).flatten) ∧ Fr [] w w_ ∧ Blk w_ t [.int .u64 (T.seed : Int), .slice (some ⟨gA, 0, none⟩) T.a.length T.a.length, .slice none 0 0, .int .i64 (T.moved : Int), .int .i64 (T.n : Int)] 40 ∧ Row idV w_ gA vsA 42 ∧ Bks itI w_ 60 H (t :: gA :: av) (vsA ++ []) (T.a ++ []) ∧ (i ≤ T.a.length)) (fun (i : Nat) (A : Option Addr) (c : Nat) => T.a.length - i) 0 none 0 ?_ ?_
 ·
  refine ⟨hz.p2.p1, ?_, ?_, ?_, hO, hF, hB, hRA, hK, (by omega)⟩
  · exact (o2 rfl (o1 rfl s0))
  · exact Eq.trans (o1 rfl (sm hz.p1 rfl)) (rfl)
  · exact Eq.trans (sm hz.p2 rfl) (V.int_eq (by omega))
 ·
  rintro i A c a9 w10 ⟨hz11, s0_12, s3_13, s4_14, hO_15, hF_16, hB_17, hRA_18, hK_19, hii⟩
  have hfs20 := hF_16.size
  have hlt21 := hB_17.lt
  have hlt22 := hRA_18.lt
  have hft := flat_take_le T.a i
  have hbq := hbl i
  have hsum := hok0.sum
  refine V.seq (fun K23 hK24 => ?_)
  refine V.seq (fun K25 hK26 => ?_)
  refine V.rg ?_
  refine V.gm (s4_14) ?_
  refine V.gm (o1 rfl s0_12) ?_
  refine V.ge_ [(7, .pointer (some ⟨t, 0, none⟩))] ⟨(sm hz11.p1 rfl), trivial⟩ (.pointer (some ⟨t, 0, none⟩)) ?_
  refine V.ge_ [(8, .pointer (some ⟨t, 0, none⟩))] ⟨(sm hz11.p2 rfl), trivial⟩ (.pointer (some ⟨t, 1, none⟩)) ?_
  refine V.go (V.ld ⟨t, 1, none⟩ (.slice (some ⟨gA, 0, none⟩) T.a.length T.a.length) (sm hz11.p2.p1 rfl) (by kernel_rfl) (hB_17.at 1 rfl) ?_)
  refine V.ge_ [(10, .slice (some ⟨gA, 0, none⟩) T.a.length T.a.length)] ⟨(sm hz11.p4 rfl), trivial⟩ (.int .i64 ((T.a.length : Nat) : Int)) ?_
  refine V.ge_ [(6, .int .i64 (i : Int)), (11, .int .i64 ((T.a.length : Nat) : Int))] ⟨(o4 rfl (o1 rfl (sm hz11 rfl))), (sm hz11.p4.p1 rfl), trivial⟩ (.bool (decide ((i : Int) < ((T.a.length : Nat) : Int)))) ?_
  refine V.nil ?_
  refine V.then_n (hK26 _ _ ?_)
  refine V.flushW hz11.p4.p2.p1 (fun a27 hz28 up29 => ?_)
  have s0_30 := up29 0 _ (o4 rfl (o2 rfl (o1 rfl s0_12)))
  have s3_31 := up29 3 _ (o4 rfl (o2 rfl (o1 rfl s3_13)))
  have s4_32 := up29 4 _ (o4 rfl (o2 rfl (o1 rfl s4_14)))
  have s12_33 := up29 12 _ (sm hz11.p4.p2 rfl)
  clear up29
  refine V.condP (p := (i : Int) < ((T.a.length : Nat) : Int)) (s12_33) (fun ht34 => ?_) (fun ht34 => ?_)
  ·
   refine V.skip ?_
   refine V.then_n (hK24 _ _ ?_)
   refine V.seq (fun K35 hK36 => ?_)
   refine V.block ?_
   refine V.rg ?_
   refine V.gm (s3_31) ?_
   refine V.gm (o1 rfl s0_30) ?_
   refine V.ge_ [(16, .pointer (some ⟨t, 0, none⟩))] ⟨(sm hz28.p1 rfl), trivial⟩ (.pointer (some ⟨t, 0, none⟩)) ?_
   refine V.ge_ [(17, .pointer (some ⟨t, 0, none⟩))] ⟨(sm hz28.p2 rfl), trivial⟩ (.pointer (some ⟨t, 1, none⟩)) ?_
   refine V.go (V.ld ⟨t, 1, none⟩ (.slice (some ⟨gA, 0, none⟩) T.a.length T.a.length) (sm hz28.p2.p1 rfl) (by kernel_rfl) (hB_17.at 1 rfl) ?_)
   refine V.gm (o4 rfl (o1 rfl s4_32)) ?_
   refine V.go (V.ixa gA 0 T.a.length T.a.length .i64 (i : Int) 1 (o1 rfl (sm hz28.p4 rfl)) (sm hz28.p4.p1 rfl) (by omega) (by omega) (by kernel_rfl) ?_)
   obtain ⟨A37, c38, hv39⟩ := hK_19.getA hlA (i := i) (by omega) nilS
   refine V.go (V.ld ⟨gA, 0 + (i : Int).toNat * 1, none⟩ (.slice A37 ((T.a.getD i []).length) c38) (sm hz28.p4.p2 rfl) (by kernel_rfl) ((hRA_18.at i nilS (by omega)).trans (congrArg some hv39)) ?_)
   have hS40 := hK_19.slA hlA (i := i) (by omega) hv39
   refine V.go (V.appS (R := itI) (o4 rfl (o2 rfl (o1 rfl (sm hz28 rfl)))) (sm hz28.p4.p2.p1 rfl) (by kernel_rfl) info60 (by kernel_rfl) (by decide) hO_15 hS40 (fun _ _ h => h) (by (try simp only [List.length_append]); omega) (by decide) (by omega) ?_)
   intro A41 c42 w43 hO44 hF45
   have hsw43 := hF45.size
   have hF_46 := hF_16.own hF45 (own_ge hO_15 (by omega))
   have hB_47 := hB_17.fr hF45 (by first | exact own_notin hO_15 (by omega) | exact own_notin2 hO_15 (by omega))
   have hRA_48 := hRA_18.fr hF45 (by first | exact own_notin hO_15 (by omega) | exact own_notin2 hO_15 (by omega))
   have hK_49 := hK_19.frP (FrP.of hF45) (fun k hk => .inr (fun hq => by have h1 := hHb k hq; have h2 := own_ge hO_15 (Nat.le_refl _) k hk; omega))
   refine V.ga (sm hz28.p8 rfl) ?_
   refine V.nil ?_
   refine V.blk_n ?_
   refine V.then_n (hK36 _ _ ?_)
   refine V.flushW hz28.p8.p2 (fun a50 hz51 up52 => ?_)
   have s0_53 := up52 0 _ (o8 rfl (o2 rfl s0_30))
   have s3_54 := up52 3 _ (sm hz28.p8.p1 rfl)
   have s4_55 := up52 4 _ (o8 rfl (o2 rfl s4_32))
   clear up52
   refine V.rg ?_
   refine V.gm (s4_55) ?_
   refine V.gf_ [(13, .int .i64 (i : Int))] ⟨(sm hz51 rfl), trivial⟩ (.int .i64 (IntKind.i64.wrap ((i : Int) + 1))) (.int .i64 ((i : Int) + 1)) (V.w_i64 (by omega) (by omega)) ?_
   refine V.ga (sm hz51.p1 rfl) ?_
   refine V.nil ?_
   refine V.then_n ?_
   have htk : (T.a.take (i + 1)).flatten = (T.a.take i).flatten ++ T.a.getD i [] := flat_take (by omega)
   have hln : ((T.a.take (i + 1)).flatten).length = ((T.a.take i).flatten).length + (T.a.getD i []).length := by rw [htk, List.length_append]
   refine ⟨i + 1, A41, c42, by omega, ?_⟩
   refine ⟨hz51.p2.p1, ?_, ?_, ?_, (by rw [hln, htk]; exact hO44), hF_46, hB_47, hRA_48, hK_49, (by omega)⟩
   · exact (o2 rfl (o1 rfl s0_53))
   · exact Eq.trans (o2 rfl (o1 rfl s3_54)) (V.sl_eq hln.symm)
   · exact Eq.trans (sm hz51.p2 rfl) (V.int_eq (by omega))
  ·
   refine V.exit ?_
   refine V.then_e ?_
   refine V.then_e ?_
   refine V.blk_hit ?_
   refine V.then_n (hK6 _ _ ?_)
   refine V.seq (fun K56 hK57 => ?_)
   refine V.seq (fun K58 hK59 => ?_)
   refine V.rg ?_
   refine V.ga evc ?_
   refine V.nil ?_
   refine V.then_n (hK59 _ _ ?_)
   refine V.block ?_
   refine V.loopR 2 ?_
   refine V.rnd ?_
   refine V.seq (fun K60 hK61 => ?_)
   refine V.seq (fun K62 hK63 => ?_)
   refine V.rg ?_
   refine V.gm (sm hz28 rfl) ?_
   refine V.gm (o2 rfl s0_30) ?_
   refine V.ge_ [(25, .pointer (some ⟨t, 0, none⟩))] ⟨(sm hz28.p2 rfl), trivial⟩ (.pointer (some ⟨t, 0, none⟩)) ?_
   refine V.ge_ [(26, .pointer (some ⟨t, 0, none⟩))] ⟨(sm hz28.p2.p1 rfl), trivial⟩ (.pointer (some ⟨t, 2, none⟩)) ?_
   refine V.go (V.ld ⟨t, 2, none⟩ (.slice none 0 0) (sm hz28.p4 rfl) (by kernel_rfl) (hB_17.at 2 rfl) ?_)
   refine V.ge_ [(28, .slice none 0 0)] ⟨(sm hz28.p4.p1 rfl), trivial⟩ (.int .i64 0) ?_
   refine V.ge_ [(24, .int .i64 0), (29, .int .i64 0)] ⟨(o4 rfl (o1 rfl (sm hz28.p1 rfl))), (sm hz28.p4.p2 rfl), trivial⟩ (.bool false) ?_
   refine V.nil ?_
   refine V.then_n (hK63 _ _ ?_)
   refine V.flushW hz28.p8 (fun a64 hz65 up66 => ?_)
   have s0_67 := up66 0 _ (o8 rfl s0_30)
   have s3_68 := up66 3 _ (o8 rfl s3_31)
   have s5_69 := up66 5 _ (o4 rfl (o2 rfl (o1 rfl (sm hz28 rfl))))
   have s30_70 := up66 30 _ (sm hz28.p4.p2.p1 rfl)
   clear up66
   refine V.cond_f (s30_70) ?_
   refine V.exit ?_
   refine V.then_e ?_
   refine V.then_e ?_
   refine V.blk_hit ?_
   refine V.then_n (hK57 _ _ ?_)
   refine V.seq (fun K71 hK72 => ?_)
   refine V.rg ?_
   refine V.gm (s3_68) ?_
   refine V.ga (sm hz65 rfl) ?_
   refine V.nil ?_
   refine V.then_n (hK72 _ _ ?_)
   refine V.ret ?_
   refine V.ret1 hz65.p2 rfl (sm hz65.p1 rfl) ?_
   have hq : (T.a.take i).flatten = (T.a ++ T.b).flatten := by (rw [List.take_of_length_le (by omega), List.flatten_append, List.eq_nil_of_length_eq_zero hb]; simp)
   have hn : (T.a.take i).flatten.length = T.n := by rw [hq]; exact hok0.cn
   rw [hn, hq] at hO_15
   rw [hn]
   exact ⟨_, _, rfl, hO_15, hF_16⟩
set_option maxHeartbeats 4000000 in
set_option maxRecDepth 20000 in
theorem rall_M (w : World) (H : Nat → Prop) (av : List Nat) (t gA gB : Nat) (vsA vsB : List Value) (T : Tb Int) (hok : T.Ok) (hT : TabM 40 42 60 itI w H av t gA gB vsA vsB T) (hHb : ∀ k, H k → k < w.heap.size) (hb : T.b.length ≠ 0) : Calls Try.prog 21 #[.pointer (some ⟨t, 0, none⟩)] w (fun e w' => ∃ A c, e = .returned (.slice A T.n c) ∧ OwR itI NoZ w' w.heap.size 60 (.slice A T.n c) (T.a ++ T.b).flatten ∧ Fr [] w w') := by
 have hF := Fr.refl [] w
 have hok0 := hok
 have hO := OwR.nil itI NoZ w w.heap.size 60
 have hbl := hok.bl
 obtain ⟨hsd, hpa, hla, hlb, hmv, hmz, hnn, hcn, hks⟩ := hok
 obtain ⟨hB, hRA, hRB, hlA, hlB, hK, hne, hne2, hne3, hpt, hpg, hph⟩ := hT
 have hltg2 := hRB.lt
 have hltt := hB.lt
 have hltg := hRA.lt
 refine V.enter 43 Try.func21 rfl rfl ?_
 intro a hz ha
 have s0 : a.eval (.tmp 0) = (.pointer (some ⟨t, 0, none⟩)) := ha 0 _ rfl
 clear ha
 refine V.seq (fun K1 hK2 => ?_)
 refine V.rg ?_
 refine V.ga evc ?_
 refine V.nil ?_
 refine V.then_n (hK2 _ _ ?_)
 refine V.seq (fun K3 hK4 => ?_)
 refine V.rg ?_
 refine V.ga evc ?_
 refine V.nil ?_
 refine V.then_n (hK4 _ _ ?_)
 refine V.seq (fun K5 hK6 => ?_)
 refine V.seq (fun K7 hK8 => ?_)
 refine V.rg ?_
 refine V.ga evc ?_
 refine V.nil ?_
 refine V.then_n (hK8 _ _ ?_)
 refine V.block ?_
 refine V.loop3 (fun (i : Nat) (A : Option Addr) (c : Nat) a_ w_ => Sz 43 a_ ∧ a_.eval (.tmp 0) = (.pointer (some ⟨t, 0, none⟩)) ∧ a_.eval (.tmp 3) = (.slice A (((T.a.take i).flatten).length) c) ∧ a_.eval (.tmp 4) = (.int .i64 (i : Int)) ∧ OwR itI NoZ w_ w.heap.size 60 (.slice A (((T.a.take i).flatten).length) c) ((T.a.take i).flatten) ∧ Fr [] w w_ ∧ Blk w_ t [.int .u64 (T.seed : Int), .slice (some ⟨gA, 0, none⟩) T.a.length T.a.length, .slice (some ⟨gB, 0, none⟩) T.b.length T.b.length, .int .i64 (T.moved : Int), .int .i64 (T.n : Int)] 40 ∧ Row idV w_ gA vsA 42 ∧ Row idV w_ gB vsB 42 ∧ Bks itI w_ 60 H (t :: gA :: gB :: av) (vsA ++ vsB) (T.a ++ T.b) ∧ (i ≤ T.a.length)) (fun (i : Nat) (A : Option Addr) (c : Nat) => T.a.length - i) 0 none 0 ?_ ?_
 ·
  refine ⟨hz.p2.p1, ?_, ?_, ?_, hO, hF, hB, hRA, hRB, hK, (by omega)⟩
  · exact (o2 rfl (o1 rfl s0))
  · exact Eq.trans (o1 rfl (sm hz.p1 rfl)) (rfl)
  · exact Eq.trans (sm hz.p2 rfl) (V.int_eq (by omega))
 ·
  rintro i A c a9 w10 ⟨hz11, s0_12, s3_13, s4_14, hO_15, hF_16, hB_17, hRA_18, hRB_19, hK_20, hii⟩
  have hfs21 := hF_16.size
  have hlt22 := hB_17.lt
  have hlt23 := hRA_18.lt
  have hlt24 := hRB_19.lt
  have hft := flat_take_le T.a i
  have hbq := hbl i
  have hsum := hok0.sum
  refine V.seq (fun K25 hK26 => ?_)
  refine V.seq (fun K27 hK28 => ?_)
  refine V.rg ?_
  refine V.gm (s4_14) ?_
  refine V.gm (o1 rfl s0_12) ?_
  refine V.ge_ [(7, .pointer (some ⟨t, 0, none⟩))] ⟨(sm hz11.p1 rfl), trivial⟩ (.pointer (some ⟨t, 0, none⟩)) ?_
  refine V.ge_ [(8, .pointer (some ⟨t, 0, none⟩))] ⟨(sm hz11.p2 rfl), trivial⟩ (.pointer (some ⟨t, 1, none⟩)) ?_
  refine V.go (V.ld ⟨t, 1, none⟩ (.slice (some ⟨gA, 0, none⟩) T.a.length T.a.length) (sm hz11.p2.p1 rfl) (by kernel_rfl) (hB_17.at 1 rfl) ?_)
  refine V.ge_ [(10, .slice (some ⟨gA, 0, none⟩) T.a.length T.a.length)] ⟨(sm hz11.p4 rfl), trivial⟩ (.int .i64 ((T.a.length : Nat) : Int)) ?_
  refine V.ge_ [(6, .int .i64 (i : Int)), (11, .int .i64 ((T.a.length : Nat) : Int))] ⟨(o4 rfl (o1 rfl (sm hz11 rfl))), (sm hz11.p4.p1 rfl), trivial⟩ (.bool (decide ((i : Int) < ((T.a.length : Nat) : Int)))) ?_
  refine V.nil ?_
  refine V.then_n (hK28 _ _ ?_)
  refine V.flushW hz11.p4.p2.p1 (fun a29 hz30 up31 => ?_)
  have s0_32 := up31 0 _ (o4 rfl (o2 rfl (o1 rfl s0_12)))
  have s3_33 := up31 3 _ (o4 rfl (o2 rfl (o1 rfl s3_13)))
  have s4_34 := up31 4 _ (o4 rfl (o2 rfl (o1 rfl s4_14)))
  have s12_35 := up31 12 _ (sm hz11.p4.p2 rfl)
  clear up31
  refine V.condP (p := (i : Int) < ((T.a.length : Nat) : Int)) (s12_35) (fun ht36 => ?_) (fun ht36 => ?_)
  ·
   refine V.skip ?_
   refine V.then_n (hK26 _ _ ?_)
   refine V.seq (fun K37 hK38 => ?_)
   refine V.block ?_
   refine V.rg ?_
   refine V.gm (s3_33) ?_
   refine V.gm (o1 rfl s0_32) ?_
   refine V.ge_ [(16, .pointer (some ⟨t, 0, none⟩))] ⟨(sm hz30.p1 rfl), trivial⟩ (.pointer (some ⟨t, 0, none⟩)) ?_
   refine V.ge_ [(17, .pointer (some ⟨t, 0, none⟩))] ⟨(sm hz30.p2 rfl), trivial⟩ (.pointer (some ⟨t, 1, none⟩)) ?_
   refine V.go (V.ld ⟨t, 1, none⟩ (.slice (some ⟨gA, 0, none⟩) T.a.length T.a.length) (sm hz30.p2.p1 rfl) (by kernel_rfl) (hB_17.at 1 rfl) ?_)
   refine V.gm (o4 rfl (o1 rfl s4_34)) ?_
   refine V.go (V.ixa gA 0 T.a.length T.a.length .i64 (i : Int) 1 (o1 rfl (sm hz30.p4 rfl)) (sm hz30.p4.p1 rfl) (by omega) (by omega) (by kernel_rfl) ?_)
   obtain ⟨A39, c40, hv41⟩ := hK_20.getA hlA (i := i) (by omega) nilS
   refine V.go (V.ld ⟨gA, 0 + (i : Int).toNat * 1, none⟩ (.slice A39 ((T.a.getD i []).length) c40) (sm hz30.p4.p2 rfl) (by kernel_rfl) ((hRA_18.at i nilS (by omega)).trans (congrArg some hv41)) ?_)
   have hS42 := hK_20.slA hlA (i := i) (by omega) hv41
   refine V.go (V.appS (R := itI) (o4 rfl (o2 rfl (o1 rfl (sm hz30 rfl)))) (sm hz30.p4.p2.p1 rfl) (by kernel_rfl) info60 (by kernel_rfl) (by decide) hO_15 hS42 (fun _ _ h => h) (by (try simp only [List.length_append]); omega) (by decide) (by omega) ?_)
   intro A43 c44 w45 hO46 hF47
   have hsw45 := hF47.size
   have hF_48 := hF_16.own hF47 (own_ge hO_15 (by omega))
   have hB_49 := hB_17.fr hF47 (by first | exact own_notin hO_15 (by omega) | exact own_notin2 hO_15 (by omega))
   have hRA_50 := hRA_18.fr hF47 (by first | exact own_notin hO_15 (by omega) | exact own_notin2 hO_15 (by omega))
   have hRB_51 := hRB_19.fr hF47 (by first | exact own_notin hO_15 (by omega) | exact own_notin2 hO_15 (by omega))
   have hK_52 := hK_20.frP (FrP.of hF47) (fun k hk => .inr (fun hq => by have h1 := hHb k hq; have h2 := own_ge hO_15 (Nat.le_refl _) k hk; omega))
   refine V.ga (sm hz30.p8 rfl) ?_
   refine V.nil ?_
   refine V.blk_n ?_
   refine V.then_n (hK38 _ _ ?_)
   refine V.flushW hz30.p8.p2 (fun a53 hz54 up55 => ?_)
   have s0_56 := up55 0 _ (o8 rfl (o2 rfl s0_32))
   have s3_57 := up55 3 _ (sm hz30.p8.p1 rfl)
   have s4_58 := up55 4 _ (o8 rfl (o2 rfl s4_34))
   clear up55
   refine V.rg ?_
   refine V.gm (s4_58) ?_
   refine V.gf_ [(13, .int .i64 (i : Int))] ⟨(sm hz54 rfl), trivial⟩ (.int .i64 (IntKind.i64.wrap ((i : Int) + 1))) (.int .i64 ((i : Int) + 1)) (V.w_i64 (by omega) (by omega)) ?_
   refine V.ga (sm hz54.p1 rfl) ?_
   refine V.nil ?_
   refine V.then_n ?_
   have htk : (T.a.take (i + 1)).flatten = (T.a.take i).flatten ++ T.a.getD i [] := flat_take (by omega)
   have hln : ((T.a.take (i + 1)).flatten).length = ((T.a.take i).flatten).length + (T.a.getD i []).length := by rw [htk, List.length_append]
   refine ⟨i + 1, A43, c44, by omega, ?_⟩
   refine ⟨hz54.p2.p1, ?_, ?_, ?_, (by rw [hln, htk]; exact hO46), hF_48, hB_49, hRA_50, hRB_51, hK_52, (by omega)⟩
   · exact (o2 rfl (o1 rfl s0_56))
   · exact Eq.trans (o2 rfl (o1 rfl s3_57)) (V.sl_eq hln.symm)
   · exact Eq.trans (sm hz54.p2 rfl) (V.int_eq (by omega))
  ·
   refine V.exit ?_
   refine V.then_e ?_
   refine V.then_e ?_
   refine V.blk_hit ?_
   refine V.then_n (hK6 _ _ ?_)
   refine V.seq (fun K59 hK60 => ?_)
   refine V.seq (fun K61 hK62 => ?_)
   refine V.rg ?_
   refine V.ga evc ?_
   refine V.nil ?_
   refine V.then_n (hK62 _ _ ?_)
   refine V.block ?_
   refine V.loop3 (fun (i2 : Nat) (A2 : Option Addr) (c2 : Nat) a_ w_ => Sz 43 a_ ∧ a_.eval (.tmp 0) = (.pointer (some ⟨t, 0, none⟩)) ∧ a_.eval (.tmp 3) = (.slice A2 ((T.a.flatten ++ (T.b.take i2).flatten).length) c2) ∧ a_.eval (.tmp 5) = (.int .i64 (i2 : Int)) ∧ OwR itI NoZ w_ w.heap.size 60 (.slice A2 ((T.a.flatten ++ (T.b.take i2).flatten).length) c2) (T.a.flatten ++ (T.b.take i2).flatten) ∧ Fr [] w w_ ∧ Blk w_ t [.int .u64 (T.seed : Int), .slice (some ⟨gA, 0, none⟩) T.a.length T.a.length, .slice (some ⟨gB, 0, none⟩) T.b.length T.b.length, .int .i64 (T.moved : Int), .int .i64 (T.n : Int)] 40 ∧ Row idV w_ gA vsA 42 ∧ Row idV w_ gB vsB 42 ∧ Bks itI w_ 60 H (t :: gA :: gB :: av) (vsA ++ vsB) (T.a ++ T.b) ∧ (i2 ≤ T.b.length)) (fun (i2 : Nat) (A2 : Option Addr) (c2 : Nat) => T.b.length - i2) 0 A c ?_ ?_
   ·
    have hq : (T.a.take i).flatten = T.a.flatten ++ (T.b.take 0).flatten := by (rw [List.take_of_length_le (by omega)]; simp)
    refine ⟨hz30.p1, ?_, ?_, ?_, (by rw [← hq]; exact hO_15), hF_16, hB_17, hRA_18, hRB_19, hK_20, (by omega)⟩
    · exact (o1 rfl s0_32)
    · exact Eq.trans (o1 rfl s3_33) (V.sl_eq (congrArg List.length hq))
    · exact Eq.trans (sm hz30 rfl) (V.int_eq (by omega))
   ·
    rintro i2 A2 c2 a63 w64 ⟨hz65, s0_66, s3_67, s5_68, hO_69, hF_70, hB_71, hRA_72, hRB_73, hK_74, hii2⟩
    have hfs75 := hF_70.size
    have hlt76 := hB_71.lt
    have hlt77 := hRA_72.lt
    have hlt78 := hRB_73.lt
    have hft := flat_take_le T.b i2
    have hbq := hbl i2
    have hsum := hok0.sum
    refine V.seq (fun K79 hK80 => ?_)
    refine V.seq (fun K81 hK82 => ?_)
    refine V.rg ?_
    refine V.gm (s5_68) ?_
    refine V.gm (o1 rfl s0_66) ?_
    refine V.ge_ [(25, .pointer (some ⟨t, 0, none⟩))] ⟨(sm hz65.p1 rfl), trivial⟩ (.pointer (some ⟨t, 0, none⟩)) ?_
    refine V.ge_ [(26, .pointer (some ⟨t, 0, none⟩))] ⟨(sm hz65.p2 rfl), trivial⟩ (.pointer (some ⟨t, 2, none⟩)) ?_
    refine V.go (V.ld ⟨t, 2, none⟩ (.slice (some ⟨gB, 0, none⟩) T.b.length T.b.length) (sm hz65.p2.p1 rfl) (by kernel_rfl) (hB_71.at 2 rfl) ?_)
    refine V.ge_ [(28, .slice (some ⟨gB, 0, none⟩) T.b.length T.b.length)] ⟨(sm hz65.p4 rfl), trivial⟩ (.int .i64 ((T.b.length : Nat) : Int)) ?_
    refine V.ge_ [(24, .int .i64 (i2 : Int)), (29, .int .i64 ((T.b.length : Nat) : Int))] ⟨(o4 rfl (o1 rfl (sm hz65 rfl))), (sm hz65.p4.p1 rfl), trivial⟩ (.bool (decide ((i2 : Int) < ((T.b.length : Nat) : Int)))) ?_
    refine V.nil ?_
    refine V.then_n (hK82 _ _ ?_)
    refine V.flushW hz65.p4.p2.p1 (fun a83 hz84 up85 => ?_)
    have s0_86 := up85 0 _ (o4 rfl (o2 rfl (o1 rfl s0_66)))
    have s3_87 := up85 3 _ (o4 rfl (o2 rfl (o1 rfl s3_67)))
    have s5_88 := up85 5 _ (o4 rfl (o2 rfl (o1 rfl s5_68)))
    have s30_89 := up85 30 _ (sm hz65.p4.p2 rfl)
    clear up85
    refine V.condP (p := (i2 : Int) < ((T.b.length : Nat) : Int)) (s30_89) (fun ht90 => ?_) (fun ht90 => ?_)
    ·
     refine V.skip ?_
     refine V.then_n (hK80 _ _ ?_)
     refine V.seq (fun K91 hK92 => ?_)
     refine V.block ?_
     refine V.rg ?_
     refine V.gm (s3_87) ?_
     refine V.gm (o1 rfl s0_86) ?_
     refine V.ge_ [(34, .pointer (some ⟨t, 0, none⟩))] ⟨(sm hz84.p1 rfl), trivial⟩ (.pointer (some ⟨t, 0, none⟩)) ?_
     refine V.ge_ [(35, .pointer (some ⟨t, 0, none⟩))] ⟨(sm hz84.p2 rfl), trivial⟩ (.pointer (some ⟨t, 2, none⟩)) ?_
     refine V.go (V.ld ⟨t, 2, none⟩ (.slice (some ⟨gB, 0, none⟩) T.b.length T.b.length) (sm hz84.p2.p1 rfl) (by kernel_rfl) (hB_71.at 2 rfl) ?_)
     refine V.gm (o4 rfl (o1 rfl s5_88)) ?_
     refine V.go (V.ixa gB 0 T.b.length T.b.length .i64 (i2 : Int) 1 (o1 rfl (sm hz84.p4 rfl)) (sm hz84.p4.p1 rfl) (by omega) (by omega) (by kernel_rfl) ?_)
     obtain ⟨A93, c94, hv95⟩ := hK_74.getB hlA (i := i2) (by omega) nilS
     refine V.go (V.ld ⟨gB, 0 + (i2 : Int).toNat * 1, none⟩ (.slice A93 ((T.b.getD i2 []).length) c94) (sm hz84.p4.p2 rfl) (by kernel_rfl) ((hRB_73.at i2 nilS (by omega)).trans (congrArg some hv95)) ?_)
     have hS96 := hK_74.slB hlA (i := i2) (by omega) hv95
     refine V.go (V.appS (R := itI) (o4 rfl (o2 rfl (o1 rfl (sm hz84 rfl)))) (sm hz84.p4.p2.p1 rfl) (by kernel_rfl) info60 (by kernel_rfl) (by decide) hO_69 hS96 (fun _ _ h => h) (by (try simp only [List.length_append]); omega) (by decide) (by omega) ?_)
     intro A97 c98 w99 hO100 hF101
     have hsw99 := hF101.size
     have hF_102 := hF_70.own hF101 (own_ge hO_69 (by omega))
     have hB_103 := hB_71.fr hF101 (by first | exact own_notin hO_69 (by omega) | exact own_notin2 hO_69 (by omega))
     have hRA_104 := hRA_72.fr hF101 (by first | exact own_notin hO_69 (by omega) | exact own_notin2 hO_69 (by omega))
     have hRB_105 := hRB_73.fr hF101 (by first | exact own_notin hO_69 (by omega) | exact own_notin2 hO_69 (by omega))
     have hK_106 := hK_74.frP (FrP.of hF101) (fun k hk => .inr (fun hq => by have h1 := hHb k hq; have h2 := own_ge hO_69 (Nat.le_refl _) k hk; omega))
     refine V.ga (sm hz84.p8 rfl) ?_
     refine V.nil ?_
     refine V.blk_n ?_
     refine V.then_n (hK92 _ _ ?_)
     refine V.flushW hz84.p8.p2 (fun a107 hz108 up109 => ?_)
     have s0_110 := up109 0 _ (o8 rfl (o2 rfl s0_86))
     have s3_111 := up109 3 _ (sm hz84.p8.p1 rfl)
     have s5_112 := up109 5 _ (o8 rfl (o2 rfl s5_88))
     clear up109
     refine V.rg ?_
     refine V.gm (s5_112) ?_
     refine V.gf_ [(31, .int .i64 (i2 : Int))] ⟨(sm hz108 rfl), trivial⟩ (.int .i64 (IntKind.i64.wrap ((i2 : Int) + 1))) (.int .i64 ((i2 : Int) + 1)) (V.w_i64 (by omega) (by omega)) ?_
     refine V.ga (sm hz108.p1 rfl) ?_
     refine V.nil ?_
     refine V.then_n ?_
     have htk : (T.a.flatten ++ (T.b.take (i2 + 1)).flatten) = (T.a.flatten ++ (T.b.take i2).flatten) ++ T.b.getD i2 [] := by rw [flat_take (by omega), List.append_assoc]
     have hln : (T.a.flatten ++ (T.b.take (i2 + 1)).flatten).length = (T.a.flatten ++ (T.b.take i2).flatten).length + (T.b.getD i2 []).length := by rw [htk, List.length_append]
     refine ⟨i2 + 1, A97, c98, by omega, ?_⟩
     refine ⟨hz108.p2.p1, ?_, ?_, ?_, (by rw [hln, htk]; exact hO100), hF_102, hB_103, hRA_104, hRB_105, hK_106, (by omega)⟩
     · exact (o2 rfl (o1 rfl s0_110))
     · exact Eq.trans (o2 rfl (o1 rfl s3_111)) (V.sl_eq hln.symm)
     · exact Eq.trans (sm hz108.p2 rfl) (V.int_eq (by omega))
    ·
     refine V.exit ?_
     refine V.then_e ?_
     refine V.then_e ?_
     refine V.blk_hit ?_
     refine V.then_n (hK60 _ _ ?_)
     refine V.seq (fun K113 hK114 => ?_)
     refine V.rg ?_
     refine V.gm (s3_87) ?_
     refine V.ga (sm hz84 rfl) ?_
     refine V.nil ?_
     refine V.then_n (hK114 _ _ ?_)
     refine V.ret ?_
     refine V.ret1 hz84.p2 rfl (sm hz84.p1 rfl) ?_
     have hq : (T.a.flatten ++ (T.b.take i2).flatten) = (T.a ++ T.b).flatten := by (rw [List.take_of_length_le (by omega), List.flatten_append])
     have hn : (T.a.flatten ++ (T.b.take i2).flatten).length = T.n := by rw [hq]; exact hok0.cn
     rw [hn, hq] at hO_69
     rw [hn]
     exact ⟨_, _, rfl, hO_69, hF_70⟩
theorem rall_any (w : World) (H : Nat → Prop) (av : List Nat) (t : Nat) (T : Tb Int) (hT : TabX 40 42 60 itI w H av t T) (hHb : ∀ k, H k → k < w.heap.size) :
    Calls Try.prog 21 #[.pointer (some ⟨t, 0, none⟩)] w (fun e w' => ∃ A c, e = .returned (.slice A T.n c) ∧ OwR itI NoZ w' w.heap.size 60 (.slice A T.n c) (T.a ++ T.b).flatten ∧ Fr [] w w') := by
  rcases hT.2 with ⟨hb, gA, vsA, h⟩ | ⟨hb, gA, gB, vsA, vsB, h⟩
  · exact rall_N w H av t gA vsA T hT.1 h hHb (by rw [hb]; rfl)
  · exact rall_M w H av t gA gB vsA vsB T hT.1 h hHb (fun h => hb (List.eq_nil_of_length_eq_zero h))
end Go.Proofs.Ytalhmegjomfbaaa
