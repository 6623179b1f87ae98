/- Walks: a row of buckets, all in one row. -/
import Derived.Test.YtalhmegjomfbaaaProg
import Derived.Test.YtalhmegjomfbaaaTg
import Derived.Test.YtalhmegjomfbaaaAggS
import Derived.Test.YtalhmegjomfbaaaRngP
namespace Go.Proofs.Ytalhmegjomfbaaa
open Go.V Go.Base
open Go.RowKit (Below)
attribute [local irreducible] Act.put Act.eval
set_option linter.unusedVariables false
set_option linter.unusedSimpArgs false
theorem flat_take {β : Type} {l : List (List β)} {i : Nat} (h : i < l.length) : (l.take (i + 1)).flatten = (l.take i).flatten ++ l.getD i [] := by
  rw [List.take_add_one, List.getElem?_eq_getElem h, List.flatten_append, List.getD_eq_getElem?_getD, List.getElem?_eq_getElem h]; simp
theorem flat_take_le {β : Type} (l : List (List β)) (i : Nat) : (l.take i).flatten.length ≤ l.flatten.length := by
  have h : (l.take i).flatten.length + (l.drop i).flatten.length = l.flatten.length := by rw [← List.length_append, ← List.flatten_append, List.take_append_drop]
  omega
theorem _root_.Go.V.SlR.cap {α : Type} {R : Rp α} {Z : Nat → Prop} {w : World} {A : Option Addr} {n c : Nat} {xs : List α} (h : SlR R Z w (.slice A n c) xs) : xs.length ≤ c := by
  obtain ⟨A', c', e, h1, _⟩ := h
  injection e with e1 e2 e3
  omega
set_option maxHeartbeats 4000000 in
set_option maxRecDepth 20000 in
theorem grow_any (w : World) (n : Nat) (hn : n ≤ 1099511627776) : Calls Try.prog 82 #[.slice none 0 0, .int .i64 (n : Int)] w (fun e w' => ∃ A c, e = .returned (.slice A 0 c) ∧ OwR itI NoZ w' w.heap.size 86 (.slice A 0 c) [] ∧ Fr [] w w') := by
 have hF := Fr.refl [] w
 refine V.enter 27 Try.func82 rfl rfl ?_
 intro a hz ha
 have s0 : a.eval (.tmp 0) = (.slice none 0 0) := ha 0 _ rfl
 have s1 : a.eval (.tmp 1) = (.int .i64 (n : Int)) := ha 1 _ rfl
 clear ha
 refine V.seq (fun K1 hK2 => ?_)
 refine V.rg ?_
 refine V.ga evc ?_
 refine V.nil ?_
 refine V.then_n (hK2 _ _ ?_)
 refine V.seq (fun K3 hK4 => ?_)
 refine V.seq (fun K5 hK6 => ?_)
 refine V.rg ?_
 refine V.gm (o1 rfl s1) ?_
 refine V.ge_ [(5, .int .i64 (n : Int))] ⟨(sm hz.p1 rfl), trivial⟩ (.bool (decide ((n : Int) < 0))) ?_
 refine V.nil ?_
 refine V.then_n (hK6 _ _ ?_)
 refine V.condP (p := (n : Int) < 0) (sm hz.p2 rfl) (fun ht7 => ?_) (fun ht7 => ?_)
 · exact absurd ht7 (by omega)
 ·
  refine V.skip ?_
  refine V.then_n (hK4 _ _ ?_)
  refine V.seq (fun K8 hK9 => ?_)
  refine V.seq (fun K10 hK11 => ?_)
  refine V.rg ?_
  refine V.gm (o2 rfl (o1 rfl s1)) ?_
  refine V.gm (o4 rfl s0) ?_
  refine V.ge_ [(9, .slice none 0 0)] ⟨(sm hz.p4 rfl), trivial⟩ (.int .i64 0) ?_
  refine V.gm (o4 rfl (o2 rfl s0)) ?_
  refine V.ge_ [(11, .slice none 0 0)] ⟨(sm hz.p4.p2 rfl), trivial⟩ (.int .i64 0) ?_
  refine V.gf_ [(10, .int .i64 0), (12, .int .i64 0)] ⟨(o2 rfl (sm hz.p4.p1 rfl)), (sm hz.p4.p2.p1 rfl), trivial⟩ (.int .i64 (IntKind.i64.wrap (0 - 0))) (.int .i64 (0 - 0)) (V.w_i64 (by omega) (by omega)) ?_
  refine V.gf_ [(8, .int .i64 (n : Int)), (13, .int .i64 (0 - 0))] ⟨(o4 rfl (o1 rfl (sm hz.p2.p1 rfl))), (sm hz.p8 rfl), trivial⟩ (.int .i64 (IntKind.i64.wrap ((n : Int) - (0 - 0)))) (.int .i64 ((n : Int) - (0 - 0))) (V.w_i64 (by omega) (by omega)) ?_
  refine V.ga (sm hz.p8.p1 rfl) ?_
  refine V.nil ?_
  refine V.then_n (hK11 _ _ ?_)
  refine V.flushW hz.p8.p2.p1 (fun a12 hz13 up14 => ?_)
  have s0_15 := up14 0 _ (o8 rfl (o2 rfl (o1 rfl s0)))
  have s1_16 := up14 1 _ (sm hz.p8.p2 rfl)
  clear up14
  refine V.seq (fun K17 hK18 => ?_)
  refine V.rg ?_
  refine V.gm (s1_16) ?_
  refine V.ge_ [(15, .int .i64 ((n : Int) - (0 - 0)))] ⟨(sm hz13 rfl), trivial⟩ (.bool (decide (((n : Int) - (0 - 0)) > 0))) ?_
  refine V.nil ?_
  refine V.then_n (hK18 _ _ ?_)
  refine V.condP (p := ((n : Int) - (0 - 0)) > 0) (sm hz13.p1 rfl) (fun ht19 => ?_) (fun ht19 => ?_)
  ·
   refine V.rg ?_
   refine V.gm (o2 rfl s0_15) ?_
   refine V.gm (o2 rfl (o1 rfl s0_15)) ?_
   refine V.ge_ [(18, .slice none 0 0)] ⟨(sm hz13.p2.p1 rfl), trivial⟩ (.int .i64 0) ?_
   refine V.ge_ [(17, .slice none 0 0), (19, .int .i64 0)] ⟨(o2 rfl (sm hz13.p2 rfl)), (sm hz13.p4 rfl), trivial⟩ (.slice none 0 0) ?_
   refine V.gm (o4 rfl (o2 rfl s1_16)) ?_
   refine V.go (V.appZ (R := itI) (kn := .i64) (n := n) (o1 rfl (sm hz13.p4.p1 rfl)) ((sm hz13.p4.p2 rfl).trans (V.int_eq (by omega))) (by kernel_rfl) (by kernel_rfl) info86 (by kernel_rfl) (by decide) (by omega) (by decide) (by omega) ?_)
   intro g20 c21 w22 hO23 hF24
   have hsw22 := hF24.size
   have hF_25 := hF.new hF24
   refine V.gm (o8 rfl s0_15) ?_
   refine V.ge_ [(23, .slice none 0 0)] ⟨(sm hz13.p8 rfl), trivial⟩ (.int .i64 0) ?_
   refine V.go (V.slc (e := 86) (sz := 2) g20 0 n c21 0 0 c21 (o2 rfl (sm hz13.p4.p2.p1 rfl)) rfl ⟨_, ((sm hz13.p8.p1 rfl)).trans (V.int_eq (by omega))⟩ rfl (by omega) (by omega) (by omega) (by kernel_rfl) (by kernel_rfl) ?_)
   intro ad26 had27 hae28
   obtain rfl := hae28 rfl
   refine V.ga (v := (.slice (some ⟨g20, 0, none⟩) (0 - 0) (c21 - 0))) (sm hz13.p8.p2 rfl) ?_
   refine V.nil ?_
   refine V.then_n (hK9 _ _ ?_)
   refine V.flushW hz13.p8.p4 (fun a29 hz30 up31 => ?_)
   have s0_32 : a29.eval (.tmp 0) = (.slice (some ⟨g20, 0, none⟩) (0 - 0) (c21 - 0)) := up31 _ _ (sm hz13.p8.p2.p1 rfl)
   clear up31
   refine V.seq (fun K33 hK34 => ?_)
   refine V.rg ?_
   refine V.gm (v := (.slice (some ⟨g20, 0, none⟩) (0 - 0) (c21 - 0))) (s0_32) ?_
   refine V.ga (v := (.slice (some ⟨g20, 0, none⟩) (0 - 0) (c21 - 0))) (sm hz30 rfl) ?_
   refine V.nil ?_
   refine V.then_n (hK34 _ _ ?_)
   refine V.ret ?_
   refine V.ret1 hz30.p2 rfl (sm hz30.p1 rfl) ?_
   exact ⟨_, _, rfl, hO23, hF_25⟩
  ·
   refine V.skip ?_
   refine V.then_n (hK9 _ _ ?_)
   refine V.seq (fun K35 hK36 => ?_)
   refine V.rg ?_
   refine V.gm (o2 rfl s0_15) ?_
   refine V.ga (sm hz13.p2 rfl) ?_
   refine V.nil ?_
   refine V.then_n (hK36 _ _ ?_)
   refine V.flushW hz13.p4 (fun a37 hz38 up39 => ?_)
   have s4_40 := up39 4 _ (sm hz13.p2.p1 rfl)
   clear up39
   refine V.ret ?_
   refine V.ret1 hz38 rfl (s4_40) ?_
   exact ⟨_, _, rfl, OwR.nil itI NoZ _ w.heap.size 86, hF⟩
set_option maxHeartbeats 4000000 in
set_option maxRecDepth 20000 in
theorem concat_nil (w : World)  : Calls Try.prog 79 #[.slice none 0 0] w (fun e w' => ∃ A c, e = .returned (.slice A 0 c) ∧ OwR itI NoZ w' w.heap.size 86 (.slice A 0 c) [] ∧ Fr [] w w') := by
 have hF := Fr.refl [] w
 refine V.enter 36 Try.func79 rfl rfl ?_
 intro a hz ha
 have s0 : a.eval (.tmp 0) = (.slice none 0 0) := ha 0 _ rfl
 clear ha
 refine V.seq (fun K1 hK2 => ?_)
 refine V.rg ?_
 refine V.ga evc ?_
 refine V.nil ?_
 refine V.then_n (hK2 _ _ ?_)
 refine V.seq (fun K3 hK4 => ?_)
 refine V.rg ?_
 refine V.ga evc ?_
 refine V.nil ?_
 refine V.then_n (hK4 _ _ ?_)
 refine V.seq (fun K5 hK6 => ?_)
 refine V.seq (fun K7 hK8 => ?_)
 refine V.rg ?_
 refine V.gm (o2 rfl s0) ?_
 refine V.ge_ [(9, .slice none 0 0)] ⟨(sm hz.p2 rfl), trivial⟩ (.int .i64 0) ?_
 refine V.gm evc ?_
 refine V.nil ?_
 refine V.then_n (hK8 _ _ ?_)
 refine V.flushW hz.p4.p1 (fun a9 hz10 up11 => ?_)
 have s0_12 := up11 0 _ (o4 rfl (o1 rfl s0))
 have s3_13 := up11 3 _ (o2 rfl (o1 rfl (sm hz.p1 rfl)))
 have s9_14 := up11 9 _ (o2 rfl (sm hz.p2 rfl))
 have s10_15 := up11 10 _ (o1 rfl (sm hz.p2.p1 rfl))
 have s11_16 := up11 11 _ (sm hz.p4 rfl)
 clear up11
 refine V.block ?_
 refine V.loopR 2 ?_
 refine V.rnd ?_
 refine V.seq (fun K17 hK18 => ?_)
 refine V.rg ?_
 refine V.ge_ [(11, .int .i64 0), (10, .int .i64 0)] ⟨(s11_16), (s10_15), trivial⟩ (.bool false) ?_
 refine V.nil ?_
 refine V.then_n (hK18 _ _ ?_)
 refine V.seq (fun K19 hK20 => ?_)
 refine V.cond_f (sm hz10 rfl) ?_
 refine V.exit ?_
 refine V.then_e ?_
 refine V.then_e ?_
 refine V.blk_hit ?_
 refine V.then_n (hK6 _ _ ?_)
 refine V.seq (fun K21 hK22 => ?_)
 refine V.rg ?_
 refine V.gm (o1 rfl s3_13) ?_
 refine V.go (V.call 82 #[] #[.slice none 0 0, .int .i64 0] evf (args2 evc (sm hz10.p1 rfl)) (Go.Proofs.enters_of Try.func82 (by kernel_rfl) rfl) (grow_any w 0 (by omega)) ?_)
 rintro _ w27 ⟨A23, c24, rfl, hO25, hF26⟩
 refine ⟨_, rfl, ?_⟩
 have hsw27 := hF26.size
 have hF_28 := hF.new hF26
 have hO25q := hO25.rebase (base' := w.heap.size) (by omega)
 refine V.ga (v := (.slice A23 0 c24)) (sm hz10.p2 rfl) ?_
 refine V.nil ?_
 refine V.then_n (hK22 _ _ ?_)
 refine V.flushW hz10.p4 (fun a29 hz30 up31 => ?_)
 have s0_32 := up31 0 _ (o4 rfl s0_12)
 have s6_33 : a29.eval (.tmp 6) = (.slice A23 0 c24) := up31 _ _ (sm hz10.p2.p1 rfl)
 clear up31
 refine V.seq (fun K34 hK35 => ?_)
 refine V.seq (fun K36 hK37 => ?_)
 refine V.rg ?_
 refine V.gm (s0_32) ?_
 refine V.ge_ [(25, .slice none 0 0)] ⟨(sm hz30 rfl), trivial⟩ (.int .i64 0) ?_
 refine V.gm evc ?_
 refine V.nil ?_
 refine V.then_n (hK37 _ _ ?_)
 refine V.block ?_
 refine V.loopR 2 ?_
 refine V.rnd ?_
 refine V.seq (fun K38 hK39 => ?_)
 refine V.rg ?_
 refine V.ge_ [(27, .int .i64 0), (26, .int .i64 0)] ⟨(sm hz30.p2 rfl), (o1 rfl (sm hz30.p1 rfl)), trivial⟩ (.bool false) ?_
 refine V.nil ?_
 refine V.then_n (hK39 _ _ ?_)
 refine V.flushW hz30.p4 (fun a40 hz41 up42 => ?_)
 have s6_43 : a40.eval (.tmp 6) = (.slice A23 0 c24) := up42 _ _ (o4 rfl s6_33)
 have s25_44 := up42 25 _ (o2 rfl (o1 rfl (sm hz30 rfl)))
 have s26_45 := up42 26 _ (o2 rfl (sm hz30.p1 rfl))
 have s27_46 := up42 27 _ (o1 rfl (sm hz30.p2 rfl))
 have s28_47 := up42 28 _ (sm hz30.p2.p1 rfl)
 clear up42
 refine V.seq (fun K48 hK49 => ?_)
 refine V.cond_f (s28_47) ?_
 refine V.exit ?_
 refine V.then_e ?_
 refine V.then_e ?_
 refine V.blk_hit ?_
 refine V.then_n (hK35 _ _ ?_)
 refine V.seq (fun K50 hK51 => ?_)
 refine V.rg ?_
 refine V.gm (v := (.slice A23 0 c24)) (s6_43) ?_
 refine V.ga (v := (.slice A23 0 c24)) (sm hz41 rfl) ?_
 refine V.nil ?_
 refine V.then_n (hK51 _ _ ?_)
 refine V.ret ?_
 refine V.ret1 hz41.p2 rfl (sm hz41.p1 rfl) ?_
 exact ⟨_, _, rfl, hO25q, hF_28⟩
set_option maxHeartbeats 4000000 in
set_option maxRecDepth 20000 in
theorem concat_row (w : World) (H : Nat → Prop) (av : List Nat) (g : Nat) (vs vsB : List Value) (xs xsB : List (List (ByteArray × Int))) (hR : Row idV w g vs 87) (hl : vs.length = xs.length) (hK : Bks itI w 86 H av (vs ++ vsB) (xs ++ xsB)) (hHb : ∀ k, H k → k < w.heap.size) (hx : xs.length ≤ 4398046511104) (hf : xs.flatten.length ≤ 1099511627776) : Calls Try.prog 79 #[.slice (some ⟨g, 0, none⟩) xs.length xs.length] w (fun e w' => ∃ A c, e = .returned (.slice A xs.flatten.length c) ∧ OwR itI NoZ w' w.heap.size 86 (.slice A xs.flatten.length c) xs.flatten ∧ Fr [] w w') := by
 have hF := Fr.refl [] w
 have hltr := hR.lt
 refine V.enter 36 Try.func79 rfl rfl ?_
 intro a hz ha
 have s0 : a.eval (.tmp 0) = (.slice (some ⟨g, 0, none⟩) xs.length xs.length) := ha 0 _ rfl
 clear ha
 refine V.seq (fun K1 hK2 => ?_)
 refine V.rg ?_
 refine V.ga evc ?_
 refine V.nil ?_
 refine V.then_n (hK2 _ _ ?_)
 refine V.seq (fun K3 hK4 => ?_)
 refine V.rg ?_
 refine V.ga evc ?_
 refine V.nil ?_
 refine V.then_n (hK4 _ _ ?_)
 refine V.seq (fun K5 hK6 => ?_)
 refine V.seq (fun K7 hK8 => ?_)
 refine V.rg ?_
 refine V.gm (o2 rfl s0) ?_
 refine V.ge_ [(9, .slice (some ⟨g, 0, none⟩) xs.length xs.length)] ⟨(sm hz.p2 rfl), trivial⟩ (.int .i64 ((xs.length : Nat) : Int)) ?_
 refine V.gm evc ?_
 refine V.nil ?_
 refine V.then_n (hK8 _ _ ?_)
 refine V.flushW hz.p4.p1 (fun a9 hz10 up11 => ?_)
 have s0_12 := up11 0 _ (o4 rfl (o1 rfl s0))
 have s3_13 := up11 3 _ (o2 rfl (o1 rfl (sm hz.p1 rfl)))
 have s9_14 := up11 9 _ (o2 rfl (sm hz.p2 rfl))
 have s10_15 := up11 10 _ (o1 rfl (sm hz.p2.p1 rfl))
 have s11_16 := up11 11 _ (sm hz.p4 rfl)
 clear up11
 refine V.block ?_
 refine V.loop1 (fun (i : Nat) a_ w_ => Sz 36 a_ ∧ a_.eval (.tmp 0) = (.slice (some ⟨g, 0, none⟩) xs.length xs.length) ∧ a_.eval (.tmp 3) = (.int .i64 (((xs.take i).flatten.length : Nat) : Int)) ∧ a_.eval (.tmp 9) = (.slice (some ⟨g, 0, none⟩) xs.length xs.length) ∧ a_.eval (.tmp 10) = (.int .i64 ((xs.length : Nat) : Int)) ∧ a_.eval (.tmp 11) = (.int .i64 (i : Int)) ∧ Fr [] w w_ ∧ Row idV w_ g vs 87 ∧ Bks itI w_ 86 H (av) (vs ++ vsB) (xs ++ xsB) ∧ (i ≤ xs.length)) (fun (i : Nat) => xs.length - i) 0 ?_ ?_
 ·
  refine ⟨hz10, ?_, ?_, ?_, ?_, ?_, hF, hR, hK, (by omega)⟩
  · exact (s0_12)
  · exact Eq.trans (s3_13) (V.int_eq (by simp))
  · exact (s9_14)
  · exact Eq.trans (s10_15) (V.int_eq (by omega))
  · exact Eq.trans (s11_16) (V.int_eq (by omega))
 ·
  rintro i a17 w18 ⟨hz19, s0_20, s3_21, s9_22, s10_23, s11_24, hF_25, hR_26, hK_27, hi⟩
  have hfs28 := hF_25.size
  have hlt29 := hR_26.lt
  have hft := flat_take_le xs (i + 1)
  have hft0 := flat_take_le xs i
  have hbq := flat_getD xs i
  refine V.seq (fun K30 hK31 => ?_)
  refine V.rg ?_
  refine V.ge_ [(11, .int .i64 (i : Int)), (10, .int .i64 ((xs.length : Nat) : Int))] ⟨(s11_24), (s10_23), trivial⟩ (.bool (decide ((i : Int) < ((xs.length : Nat) : Int)))) ?_
  refine V.nil ?_
  refine V.then_n (hK31 _ _ ?_)
  refine V.seq (fun K32 hK33 => ?_)
  refine V.condP (p := (i : Int) < ((xs.length : Nat) : Int)) (sm hz19 rfl) (fun ht34 => ?_) (fun ht34 => ?_)
  ·
   refine V.skip ?_
   refine V.then_n (hK33 _ _ ?_)
   refine V.seq (fun K35 hK36 => ?_)
   refine V.block ?_
   refine V.seq (fun K37 hK38 => ?_)
   refine V.rg ?_
   refine V.go (V.ixa g 0 xs.length xs.length .i64 (i : Int) 1 (o1 rfl s9_22) (o1 rfl s11_24) (by omega) (by omega) (by kernel_rfl) ?_)
   obtain ⟨A39, c40, hv41⟩ := hK_27.getA hl (i := i) (by omega) nilS
   refine V.go (V.ld ⟨g, 0 + (i : Int).toNat * 1, none⟩ (.slice A39 ((xs.getD i []).length) c40) (sm hz19.p1 rfl) (by kernel_rfl) ((hR_26.at i nilS (by omega)).trans (congrArg some hv41)) ?_)
   have hS42 := hK_27.slA hl (i := i) (by omega) hv41
   refine V.ga (sm hz19.p2 rfl) ?_
   refine V.nil ?_
   refine V.then_n (hK38 _ _ ?_)
   refine V.flushW hz19.p4 (fun a43 hz44 up45 => ?_)
   have s0_46 := up45 0 _ (o4 rfl s0_20)
   have s3_47 := up45 3 _ (o4 rfl s3_21)
   have s5_48 := up45 5 _ (sm hz19.p2.p1 rfl)
   have s9_49 := up45 9 _ (o4 rfl s9_22)
   have s10_50 := up45 10 _ (o4 rfl s10_23)
   have s11_51 := up45 11 _ (o4 rfl s11_24)
   clear up45
   refine V.seq (fun K52 hK53 => ?_)
   refine V.rg ?_
   refine V.gm (s3_47) ?_
   refine V.gm (o1 rfl s5_48) ?_
   refine V.ge_ [(16, .slice A39 ((xs.getD i []).length) c40)] ⟨(sm hz44.p1 rfl), trivial⟩ (.int .i64 (((xs.getD i []).length : Nat) : Int)) ?_
   refine V.gf_ [(15, .int .i64 (((xs.take i).flatten.length : Nat) : Int)), (17, .int .i64 (((xs.getD i []).length : Nat) : Int))] ⟨(o2 rfl (sm hz44 rfl)), (sm hz44.p2 rfl), trivial⟩ (.int .i64 (IntKind.i64.wrap ((((xs.take i).flatten.length : Nat) : Int) + (((xs.getD i []).length : Nat) : Int)))) (.int .i64 ((((xs.take i).flatten.length : Nat) : Int) + (((xs.getD i []).length : Nat) : Int))) (V.w_i64 (by omega) (by omega)) ?_
   refine V.ga (sm hz44.p2.p1 rfl) ?_
   refine V.nil ?_
   refine V.then_n (hK53 _ _ ?_)
   refine V.flushW hz44.p4.p1 (fun a54 hz55 up56 => ?_)
   have s0_57 := up56 0 _ (o4 rfl (o1 rfl s0_46))
   have s3_58 := up56 3 _ (sm hz44.p4 rfl)
   have s9_59 := up56 9 _ (o4 rfl (o1 rfl s9_49))
   have s10_60 := up56 10 _ (o4 rfl (o1 rfl s10_50))
   have s11_61 := up56 11 _ (o4 rfl (o1 rfl s11_51))
   clear up56
   refine V.seq (fun K62 hK63 => ?_)
   have htk : (xs.take (i + 1)).flatten = (xs.take i).flatten ++ xs.getD i [] := flat_take (by omega)
   have hln : ((xs.take (i + 1)).flatten).length = ((xs.take i).flatten).length + (xs.getD i []).length := by rw [htk, List.length_append]
   refine V.rg ?_
   refine V.gm (s3_58) ?_
   refine V.ge_ [(19, .int .i64 ((((xs.take i).flatten.length : Nat) : Int) + (((xs.getD i []).length : Nat) : Int)))] ⟨(sm hz55 rfl), trivial⟩ (.bool (decide (((((xs.take i).flatten.length : Nat) : Int) + (((xs.getD i []).length : Nat) : Int)) < 0))) ?_
   refine V.nil ?_
   refine V.then_n (hK63 _ _ ?_)
   refine V.condP (p := ((((xs.take i).flatten.length : Nat) : Int) + (((xs.getD i []).length : Nat) : Int)) < 0) (sm hz55.p1 rfl) (fun ht64 => ?_) (fun ht64 => ?_)
   · exact absurd ht64 (by omega)
   ·
    refine V.skip ?_
    refine V.blk_n ?_
    refine V.then_n (hK36 _ _ ?_)
    refine V.rg ?_
    refine V.gf_ [(11, .int .i64 (i : Int))] ⟨(o2 rfl s11_61), trivial⟩ (.int .i64 (IntKind.i64.wrap ((i : Int) + 1))) (.int .i64 ((i : Int) + 1)) (V.w_i64 (by omega) (by omega)) ?_
    refine V.gm (sm hz55.p2 rfl) ?_
    refine V.nil ?_
    refine V.then_n ?_
    refine ⟨i + 1, by omega, ?_⟩
    refine ⟨hz55.p4, ?_, ?_, ?_, ?_, ?_, hF_25, hR_26, hK_27, (by omega)⟩
    · exact (o4 rfl s0_57)
    · exact Eq.trans (o4 rfl s3_58) (V.int_eq (by omega))
    · exact (o4 rfl s9_59)
    · exact Eq.trans (o4 rfl s10_60) (V.int_eq (by omega))
    · exact Eq.trans (sm hz55.p2.p1 rfl) (V.int_eq (by omega))
  ·
   refine V.exit ?_
   refine V.then_e ?_
   refine V.then_e ?_
   refine V.blk_hit ?_
   refine V.then_n (hK6 _ _ ?_)
   refine V.seq (fun K65 hK66 => ?_)
   have hft9 := flat_take_le xs i
   refine V.rg ?_
   refine V.gm (o1 rfl s3_21) ?_
   refine V.go (V.call 82 #[] #[.slice none 0 0, .int .i64 (((xs.take i).flatten.length : Nat) : Int)] evf (args2 evc (sm hz19.p1 rfl)) (Go.Proofs.enters_of Try.func82 (by kernel_rfl) rfl) (grow_any w18 ((xs.take i).flatten.length) (by omega)) ?_)
   rintro _ w71 ⟨A67, c68, rfl, hO69, hF70⟩
   refine ⟨_, rfl, ?_⟩
   have hsw71 := hF70.size
   have hF_72 := hF_25.new hF70
   have hR_73 := hR_26.fr0 hF70
   have hK_74 := hK_27.fr0 hF70
   have hO69q := hO69.rebase (base' := w.heap.size) (by omega)
   refine V.ga (v := (.slice A67 0 c68)) (sm hz19.p2 rfl) ?_
   refine V.nil ?_
   refine V.then_n (hK66 _ _ ?_)
   refine V.flushW hz19.p4 (fun a75 hz76 up77 => ?_)
   have s0_78 := up77 0 _ (o4 rfl s0_20)
   have s6_79 : a75.eval (.tmp 6) = (.slice A67 0 c68) := up77 _ _ (sm hz19.p2.p1 rfl)
   clear up77
   refine V.seq (fun K80 hK81 => ?_)
   refine V.seq (fun K82 hK83 => ?_)
   refine V.rg ?_
   refine V.gm (s0_78) ?_
   refine V.ge_ [(25, .slice (some ⟨g, 0, none⟩) xs.length xs.length)] ⟨(sm hz76 rfl), trivial⟩ (.int .i64 ((xs.length : Nat) : Int)) ?_
   refine V.gm evc ?_
   refine V.nil ?_
   refine V.then_n (hK83 _ _ ?_)
   refine V.block ?_
   refine V.loop3 (fun (i2 : Nat) (A2 : Option Addr) (c2 : Nat) a_ w_ => Sz 36 a_ ∧ a_.eval (.tmp 6) = (.slice A2 ((xs.take i2).flatten.length) c2) ∧ a_.eval (.tmp 25) = (.slice (some ⟨g, 0, none⟩) xs.length xs.length) ∧ a_.eval (.tmp 26) = (.int .i64 ((xs.length : Nat) : Int)) ∧ a_.eval (.tmp 27) = (.int .i64 (i2 : Int)) ∧ OwR itI NoZ w_ w.heap.size 86 (.slice A2 ((xs.take i2).flatten.length) c2) ((xs.take i2).flatten) ∧ Fr [] w w_ ∧ Row idV w_ g vs 87 ∧ Bks itI w_ 86 H (av) (vs ++ vsB) (xs ++ xsB) ∧ (i2 ≤ xs.length)) (fun (i2 : Nat) (A2 : Option Addr) (c2 : Nat) => xs.length - i2) 0 A67 c68 ?_ ?_
   ·
    refine ⟨hz76.p2.p1, ?_, ?_, ?_, ?_, (by simpa using hO69q), hF_72, hR_73, hK_74, (by omega)⟩
    · exact Eq.trans (o2 rfl (o1 rfl s6_79)) (V.sl_eq (by simp))
    · exact (o2 rfl (sm hz76 rfl))
    · exact Eq.trans (o1 rfl (sm hz76.p1 rfl)) (V.int_eq (by omega))
    · exact Eq.trans (sm hz76.p2 rfl) (V.int_eq (by omega))
   ·
    rintro i2 A2 c2 a84 w85 ⟨hz86, s6_87, s25_88, s26_89, s27_90, hO_91, hF_92, hR_93, hK_94, hi2⟩
    have hfs95 := hF_92.size
    have hlt96 := hR_93.lt
    have hft := flat_take_le xs (i2 + 1)
    have hft0 := flat_take_le xs i2
    have hbq := flat_getD xs i2
    refine V.seq (fun K97 hK98 => ?_)
    refine V.rg ?_
    refine V.ge_ [(27, .int .i64 (i2 : Int)), (26, .int .i64 ((xs.length : Nat) : Int))] ⟨(s27_90), (s26_89), trivial⟩ (.bool (decide ((i2 : Int) < ((xs.length : Nat) : Int)))) ?_
    refine V.nil ?_
    refine V.then_n (hK98 _ _ ?_)
    refine V.seq (fun K99 hK100 => ?_)
    refine V.condP (p := (i2 : Int) < ((xs.length : Nat) : Int)) (sm hz86 rfl) (fun ht101 => ?_) (fun ht101 => ?_)
    ·
     refine V.skip ?_
     refine V.then_n (hK100 _ _ ?_)
     refine V.seq (fun K102 hK103 => ?_)
     refine V.block ?_
     refine V.seq (fun K104 hK105 => ?_)
     refine V.rg ?_
     refine V.go (V.ixa g 0 xs.length xs.length .i64 (i2 : Int) 1 (o1 rfl s25_88) (o1 rfl s27_90) (by omega) (by omega) (by kernel_rfl) ?_)
     obtain ⟨A106, c107, hv108⟩ := hK_94.getA hl (i := i2) (by omega) nilS
     refine V.go (V.ld ⟨g, 0 + (i2 : Int).toNat * 1, none⟩ (.slice A106 ((xs.getD i2 []).length) c107) (sm hz86.p1 rfl) (by kernel_rfl) ((hR_93.at i2 nilS (by omega)).trans (congrArg some hv108)) ?_)
     have hS109 := hK_94.slA hl (i := i2) (by omega) hv108
     refine V.ga (sm hz86.p2 rfl) ?_
     refine V.nil ?_
     refine V.then_n (hK105 _ _ ?_)
     refine V.flushW hz86.p4 (fun a110 hz111 up112 => ?_)
     have s6_113 := up112 6 _ (o4 rfl s6_87)
     have s8_114 := up112 8 _ (sm hz86.p2.p1 rfl)
     have s25_115 := up112 25 _ (o4 rfl s25_88)
     have s26_116 := up112 26 _ (o4 rfl s26_89)
     have s27_117 := up112 27 _ (o4 rfl s27_90)
     clear up112
     refine V.rg ?_
     refine V.gm (s6_113) ?_
     refine V.gm (o1 rfl s8_114) ?_
     refine V.go (V.appS (R := itI) (o1 rfl (sm hz111 rfl)) (sm hz111.p1 rfl) (by kernel_rfl) info86 (by kernel_rfl) (by decide) hO_91 hS109 (fun _ _ h => h) (by (try simp only [List.length_append]); omega) (by decide) (by omega) ?_)
     intro A118 c119 w120 hO121 hF122
     have hsw120 := hF122.size
     have hF_123 := hF_92.own hF122 (own_ge hO_91 (by omega))
     have hR_124 := hR_93.fr hF122 (by first | exact own_notin hO_91 (by omega) | exact own_notin2 hO_91 (by omega))
     have hK_125 := hK_94.frP (FrP.of hF122) (fun k hk => .inr (fun hq => by have h1 := hHb k hq; have h2 := own_ge hO_91 (Nat.le_refl _) k hk; omega))
     refine V.ga (sm hz111.p2 rfl) ?_
     refine V.nil ?_
     refine V.blk_n ?_
     refine V.then_n (hK103 _ _ ?_)
     refine V.flushW hz111.p4 (fun a126 hz127 up128 => ?_)
     have s6_129 := up128 6 _ (sm hz111.p2.p1 rfl)
     have s25_130 := up128 25 _ (o4 rfl s25_115)
     have s26_131 := up128 26 _ (o4 rfl s26_116)
     have s27_132 := up128 27 _ (o4 rfl s27_117)
     clear up128
     refine V.rg ?_
     refine V.gf_ [(27, .int .i64 (i2 : Int))] ⟨(s27_132), trivial⟩ (.int .i64 (IntKind.i64.wrap ((i2 : Int) + 1))) (.int .i64 ((i2 : Int) + 1)) (V.w_i64 (by omega) (by omega)) ?_
     refine V.gm (sm hz127 rfl) ?_
     refine V.nil ?_
     refine V.then_n ?_
     have htk : (xs.take (i2 + 1)).flatten = (xs.take i2).flatten ++ xs.getD i2 [] := flat_take (by omega)
     have hln : ((xs.take (i2 + 1)).flatten).length = ((xs.take i2).flatten).length + (xs.getD i2 []).length := by rw [htk, List.length_append]
     refine ⟨i2 + 1, A118, c119, by omega, ?_⟩
     refine ⟨hz127.p2, ?_, ?_, ?_, ?_, (by rw [hln, htk]; exact hO121), hF_123, hR_124, hK_125, (by omega)⟩
     · exact Eq.trans (o2 rfl s6_129) (V.sl_eq hln.symm)
     · exact (o2 rfl s25_130)
     · exact Eq.trans (o2 rfl s26_131) (V.int_eq (by omega))
     · exact Eq.trans (sm hz127.p1 rfl) (V.int_eq (by omega))
    ·
     refine V.exit ?_
     refine V.then_e ?_
     refine V.then_e ?_
     refine V.blk_hit ?_
     refine V.then_n (hK81 _ _ ?_)
     refine V.seq (fun K133 hK134 => ?_)
     refine V.rg ?_
     refine V.gm (o1 rfl s6_87) ?_
     refine V.ga (sm hz86.p1 rfl) ?_
     refine V.nil ?_
     refine V.then_n (hK134 _ _ ?_)
     refine V.ret ?_
     refine V.ret1 hz86.p2.p1 rfl (sm hz86.p2 rfl) ?_
     have hq : (xs.take i2).flatten = xs.flatten := by rw [List.take_of_length_le (by omega)]
     rw [hq] at hO_91 ⊢
     exact ⟨_, _, rfl, hO_91, hF_92⟩
end Go.Proofs.Ytalhmegjomfbaaa
