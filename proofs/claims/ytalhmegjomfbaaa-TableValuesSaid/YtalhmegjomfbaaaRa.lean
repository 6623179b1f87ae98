/- Walks: the reference: bucket, in, find. -/
import Derived.Test.YtalhmegjomfbaaaProg
import Derived.Test.YtalhmegjomfbaaaTl
namespace Go.Proofs.Ytalhmegjomfbaaa
open Go.V Go.Base
open Go.RowKit (Below)
attribute [local irreducible] Act.put Act.eval
set_option linter.unusedVariables false
set_option linter.unusedSimpArgs false
def rfT {α : Type} (T : Tb α) (k : ByteArray) : Int × Int × Int := if (findT T k).2 = true then (findT T k).1 else (-1, 0, 0)
theorem rfT_yes {α : Type} {T : Tb α} {k : ByteArray} {p : Int × Int × Int} (h : findT T k = (p, true)) : rfT T k = p := by unfold rfT; rw [h]; rfl
theorem rfT_no {α : Type} {T : Tb α} {k : ByteArray} {p : Int × Int × Int} (h : findT T k = (p, false)) : rfT T k = (-1, 0, 0) := by unfold rfT; rw [h]; rfl
set_option maxHeartbeats 4000000 in
set_option maxRecDepth 20000 in
theorem rbucket_blk (w : World) (t : Nat) (seed : Nat) (v1 v2 m1 m2 : Value) (hB : Blk w t [.int .u64 (seed : Int), v1, v2, m1, m2] 40) (n : Nat) (k : ByteArray) (hsd : seed < 18446744073709551616) (hk : k.size ≤ 9223372036854775807) (hn : 0 < n) (hn2 : n ≤ 4398046511104) : Calls Try.prog 72 #[.pointer (some ⟨t, 0, none⟩), .int .i64 (n : Int), .string k] w (fun e w' => e = .returned (.int .i64 ((bkt seed n k : Nat) : Int)) ∧ Fr [] w w') := by
 have hF := Fr.refl [] w
 have hbk := bkt_lt seed k hn
 refine V.enter 17 Try.func72 rfl rfl ?_
 intro a hz ha
 have s0 : a.eval (.tmp 0) = (.pointer (some ⟨t, 0, none⟩)) := ha 0 _ rfl
 have s1 : a.eval (.tmp 1) = (.int .i64 (n : Int)) := ha 1 _ rfl
 have s2 : a.eval (.tmp 2) = (.string k) := ha 2 _ rfl
 clear ha
 refine V.seq (fun K1 hK2 => ?_)
 refine V.rg ?_
 refine V.ga evc ?_
 refine V.nil ?_
 refine V.then_n (hK2 _ _ ?_)
 refine V.seq (fun K3 hK4 => ?_)
 refine V.rg ?_
 refine V.gm (o1 rfl s0) ?_
 refine V.ge_ [(7, .pointer (some ⟨t, 0, none⟩))] ⟨(sm hz.p1 rfl), trivial⟩ (.pointer (some ⟨t, 0, none⟩)) ?_
 refine V.ge_ [(8, .pointer (some ⟨t, 0, none⟩))] ⟨(sm hz.p2 rfl), trivial⟩ (.pointer (some ⟨t, 0, none⟩)) ?_
 refine V.go (V.ld ⟨t, 0, none⟩ (.int .u64 (seed : Int)) (sm hz.p2.p1 rfl) (by kernel_rfl) (hB.at 0 rfl) ?_)
 refine V.gm (o4 rfl (o1 rfl s2)) ?_
 refine V.go (V.call 12 #[] #[.int .u64 (seed : Int), .string k] evf (args2 (o1 rfl (sm hz.p4 rfl)) (sm hz.p4.p1 rfl)) (Go.Proofs.enters_of Try.func12 (by kernel_rfl) rfl) (rhash_any w seed k (by omega) (by omega)) ?_)
 rintro _ w6 ⟨rfl, hF5⟩
 refine ⟨_, rfl, ?_⟩
 have hsw6 := hF5.size
 have hF_7 := hF.new hF5
 have hB_8 := hB.fr0 hF5
 have hhl5 := hashN_lt (seed := seed) (by omega) k
 refine V.gm (o4 rfl (o2 rfl (o1 rfl s1))) ?_
 refine V.gf_ [(13, .int .i64 (n : Int))] ⟨(sm hz.p4.p2.p1 rfl), trivial⟩ (.int .u64 (IntKind.u64.wrap (n : Int))) (.int .u64 (n : Int)) (V.w_u64 (by omega) (by omega)) ?_
 refine V.go (V.remN (hashN seed k) n (o2 rfl (sm hz.p4.p2 rfl)) (sm hz.p8 rfl) (by omega) ?_)
 refine V.gf_ [(15, .int .u64 ((bkt seed n k : Nat) : Int))] ⟨(sm hz.p8.p1 rfl), trivial⟩ (.int .i64 (IntKind.i64.wrap ((bkt seed n k : Nat) : Int))) (.int .i64 ((bkt seed n k : Nat) : Int)) (V.w_i64 (by omega) (by omega)) ?_
 refine V.ga (sm hz.p8.p2 rfl) ?_
 refine V.nil ?_
 refine V.then_n (hK4 _ _ ?_)
 refine V.flushW hz.p8.p4 (fun a9 hz10 up11 => ?_)
 have s6_12 := up11 6 _ (sm hz.p8.p2.p1 rfl)
 clear up11
 refine V.ret ?_
 refine V.ret1 hz10 rfl (s6_12) ?_
 exact ⟨rfl, hF_7⟩
set_option maxHeartbeats 4000000 in
set_option maxRecDepth 20000 in
theorem rin_any (w : World) (Z : Nat → Prop) (A0 : Option Addr) (c0 : Nat) (l : List (ByteArray × Int)) (k : ByteArray) (hS : SlR itI Z w (.slice A0 l.length c0) l) : Calls Try.prog 80 #[.slice A0 l.length c0, .string k] w (fun e w' => e = .returned (.int .i64 (ixI l k)) ∧ Fr [] w w') := by
 have hF := Fr.refl [] w
 have hlen0 := hS.len_le
 refine V.enter 20 Try.func80 rfl rfl ?_
 intro a hz ha
 have s0 : a.eval (.tmp 0) = (.slice A0 l.length c0) := ha 0 _ rfl
 have s1 : a.eval (.tmp 1) = (.string k) := ha 1 _ rfl
 clear ha
 refine V.seq (fun K1 hK2 => ?_)
 refine V.rg ?_
 refine V.ga evc ?_
 refine V.nil ?_
 refine V.then_n (hK2 _ _ ?_)
 refine V.seq (fun K3 hK4 => ?_)
 refine V.seq (fun K5 hK6 => ?_)
 refine V.rg ?_
 refine V.ga evc ?_
 refine V.nil ?_
 refine V.then_n (hK6 _ _ ?_)
 refine V.block ?_
 refine V.loop1 (fun (i : Nat) a_ w_ => Sz 20 a_ ∧ a_.eval (.tmp 0) = (.slice A0 l.length c0) ∧ a_.eval (.tmp 1) = (.string k) ∧ a_.eval (.tmp 5) = (.int .i64 (i : Int)) ∧ Fr [] w w_ ∧ SlR itI Z w_ (.slice A0 l.length c0) l ∧ (i ≤ l.length) ∧ (∀ (j : Nat) (x : ByteArray × Int), j < i → l[j]? = some x → x.1 ≠ k)) (fun (i : Nat) => l.length - i) 0 ?_ ?_
 ·
  refine ⟨hz.p2, ?_, ?_, ?_, hF, hS, (by omega), (fun j x hj => by omega)⟩
  · exact (o2 rfl s0)
  · exact (o2 rfl s1)
  · exact Eq.trans (sm hz.p1 rfl) (V.int_eq (by omega))
 ·
  rintro i a7 w8 ⟨hz9, s0_10, s1_11, s5_12, hF_13, hS_14, hi, hmiss⟩
  have hfs15 := hF_13.size
  refine V.seq (fun K16 hK17 => ?_)
  refine V.seq (fun K18 hK19 => ?_)
  refine V.rg ?_
  refine V.gm (s5_12) ?_
  refine V.gm (o1 rfl s0_10) ?_
  refine V.ge_ [(7, .slice A0 l.length c0)] ⟨(sm hz9.p1 rfl), trivial⟩ (.int .i64 ((l.length : Nat) : Int)) ?_
  refine V.ge_ [(6, .int .i64 (i : Int)), (8, .int .i64 ((l.length : Nat) : Int))] ⟨(o2 rfl (sm hz9 rfl)), (sm hz9.p2 rfl), trivial⟩ (.bool (decide ((i : Int) < ((l.length : Nat) : Int)))) ?_
  refine V.nil ?_
  refine V.then_n (hK19 _ _ ?_)
  refine V.flushW hz9.p4 (fun a20 hz21 up22 => ?_)
  have s0_23 := up22 0 _ (o4 rfl s0_10)
  have s1_24 := up22 1 _ (o4 rfl s1_11)
  have s5_25 := up22 5 _ (o4 rfl s5_12)
  have s9_26 := up22 9 _ (sm hz9.p2.p1 rfl)
  clear up22
  refine V.condP (p := (i : Int) < ((l.length : Nat) : Int)) (s9_26) (fun ht27 => ?_) (fun ht27 => ?_)
  ·
   refine V.skip ?_
   refine V.then_n (hK17 _ _ ?_)
   refine V.seq (fun K28 hK29 => ?_)
   refine V.block ?_
   refine V.seq (fun K30 hK31 => ?_)
   refine V.rg ?_
   refine V.gm (s0_23) ?_
   refine V.gm (o1 rfl s5_25) ?_
   obtain ⟨g32, o33, hA34, hA34l, hA34z⟩ := hS_14.addr (by omega)
   refine V.go (V.ixa g32 o33 l.length c0 .i64 (i : Int) 2 ((o1 rfl (sm hz21 rfl)).trans (by rw [hA34])) (sm hz21.p1 rfl) (by omega) (by omega) (by kernel_rfl) ?_)
   refine V.go (V.fa (sm hz21.p2 rfl) 0 (fun _ _ => by kernel_rfl) ?_)
   obtain ⟨cs35, hok36, hE37⟩ := hS_14.els hA34 (i : Int) (by omega) (by omega)
   obtain rfl : cs35 = [.string (at_ itI l (i : Int)).1, .int .i64 (at_ itI l (i : Int)).2] := hok36
   refine V.go (V.ld ⟨g32, o33 + (i : Int).toNat * 2, none⟩ (.string ((at_ itI l (i : Int)).1)) (sm hz21.p2.p1 rfl) (by kernel_rfl) (hE37.at 0 rfl) ?_)
   refine V.gm (o4 rfl (o1 rfl s1_24)) ?_
   refine V.gf_ [(16, .string ((at_ itI l (i : Int)).1)), (17, .string k)] ⟨(o1 rfl (sm hz21.p4 rfl)), (sm hz21.p4.p1 rfl), trivial⟩ (.bool ((((at_ itI l (i : Int)).1).toList == k.toList))) (.bool (decide (((at_ itI l (i : Int)).1) = k))) V.t_seql ?_
   refine V.nil ?_
   refine V.then_n (hK31 _ _ ?_)
   refine V.flushW hz21.p4.p2.p1 (fun a38 hz39 up40 => ?_)
   have s0_41 := up40 0 _ (o4 rfl (o2 rfl (o1 rfl s0_23)))
   have s1_42 := up40 1 _ (o4 rfl (o2 rfl (o1 rfl s1_24)))
   have s5_43 := up40 5 _ (o4 rfl (o2 rfl (o1 rfl s5_25)))
   have s18_44 := up40 18 _ (sm hz21.p4.p2 rfl)
   clear up40
   refine V.condP (p := ((at_ itI l (i : Int)).1) = k) (s18_44) (fun ht45 => ?_) (fun ht45 => ?_)
   ·
    refine V.seq (fun K46 hK47 => ?_)
    refine V.rg ?_
    refine V.gm (s5_43) ?_
    refine V.ga (sm hz39 rfl) ?_
    refine V.nil ?_
    refine V.then_n (hK47 _ _ ?_)
    refine V.ret ?_
    refine V.blk_r ?_
    refine V.then_r ?_
    refine V.then_r ?_
    refine V.blk_r ?_
    refine V.then_r ?_
    refine V.ret1 hz39.p2 rfl (sm hz39.p1 rfl) ?_
    exact ⟨congrArg Ending.returned (int_eq (hit_end itI hmiss (by omega) ht45).symm), hF_13⟩
   ·
    refine V.skip ?_
    refine V.blk_n ?_
    refine V.then_n (hK29 _ _ ?_)
    refine V.rg ?_
    refine V.gm (s5_43) ?_
    refine V.gf_ [(10, .int .i64 (i : Int))] ⟨(sm hz39 rfl), trivial⟩ (.int .i64 (IntKind.i64.wrap ((i : Int) + 1))) (.int .i64 ((i : Int) + 1)) (V.w_i64 (by omega) (by omega)) ?_
    refine V.ga (sm hz39.p1 rfl) ?_
    refine V.nil ?_
    refine V.then_n ?_
    refine ⟨i + 1, by omega, ?_⟩
    refine ⟨hz39.p2.p1, ?_, ?_, ?_, hF_13, hS_14, (by omega), (miss_step itI hmiss (by omega) ht45)⟩
    · exact (o2 rfl (o1 rfl s0_41))
    · exact (o2 rfl (o1 rfl s1_42))
    · exact Eq.trans (sm hz39.p2 rfl) (V.int_eq (by omega))
  ·
   refine V.exit ?_
   refine V.then_e ?_
   refine V.then_e ?_
   refine V.blk_hit ?_
   refine V.then_n (hK4 _ _ ?_)
   refine V.seq (fun K48 hK49 => ?_)
   refine V.rg ?_
   refine V.ga evc ?_
   refine V.nil ?_
   refine V.then_n (hK49 _ _ ?_)
   refine V.ret ?_
   refine V.ret1 hz21.p1 rfl (sm hz21 rfl) ?_
   exact ⟨congrArg Ending.returned (int_eq (miss_end hmiss (by omega)).symm), hF_13⟩
set_option maxHeartbeats 4000000 in
set_option maxRecDepth 20000 in
theorem rfind_N (w : World) (H : Nat → Prop) (av : List Nat) (t gA : Nat) (vsA : List Value) (T : Tb Int) (hok : T.Ok) (hT : TabN 40 42 60 itI w H av t gA vsA T) (k : ByteArray) (hk : k.size ≤ 9223372036854775807) (hb : T.b.length = 0) : Calls Try.prog 71 #[.pointer (some ⟨t, 0, none⟩), .string k] w (fun e w' => e = .returned (.tuple #[.int .i64 (rfT T k).1, .int .i64 (rfT T k).2.1, .int .i64 (rfT T k).2.2]) ∧ Fr [] w w') := by
 have hF := Fr.refl [] w
 obtain ⟨hsd, hpa, hla, hlb, hmv, hmz, hnn, hcn, hks⟩ := hok
 obtain ⟨hB, hRA, hlA, hK, hne, hpt, hpg⟩ := hT
 have hltt := hB.lt
 have hltg := hRA.lt
 refine V.enter 57 Try.func71 rfl rfl ?_
 intro a hz ha
 have s0 : a.eval (.tmp 0) = (.pointer (some ⟨t, 0, none⟩)) := ha 0 _ rfl
 have s1 : a.eval (.tmp 1) = (.string k) := ha 1 _ rfl
 clear ha
 refine V.seq (fun K1 hK2 => ?_)
 refine V.rg ?_
 refine V.ga evc ?_
 refine V.ga evc ?_
 refine V.ga evc ?_
 refine V.nil ?_
 refine V.then_n (hK2 _ _ ?_)
 refine V.seq (fun K3 hK4 => ?_)
 refine V.rg ?_
 refine V.gm (o2 rfl (o1 rfl s0)) ?_
 refine V.gm (o4 rfl s0) ?_
 refine V.ge_ [(10, .pointer (some ⟨t, 0, none⟩))] ⟨(sm hz.p4 rfl), trivial⟩ (.pointer (some ⟨t, 0, none⟩)) ?_
 refine V.ge_ [(11, .pointer (some ⟨t, 0, none⟩))] ⟨(sm hz.p4.p1 rfl), trivial⟩ (.pointer (some ⟨t, 1, none⟩)) ?_
 refine V.go (V.ld ⟨t, 1, none⟩ (.slice (some ⟨gA, 0, none⟩) T.a.length T.a.length) (sm hz.p4.p2 rfl) (by kernel_rfl) (hB.at 1 rfl) ?_)
 refine V.ge_ [(13, .slice (some ⟨gA, 0, none⟩) T.a.length T.a.length)] ⟨(sm hz.p4.p2.p1 rfl), trivial⟩ (.int .i64 ((T.a.length : Nat) : Int)) ?_
 refine V.gm (o8 rfl (o1 rfl s1)) ?_
 refine V.go (V.call 72 #[] #[.pointer (some ⟨t, 0, none⟩), .int .i64 ((T.a.length : Nat) : Int), .string k] evf (args3 (o4 rfl (o2 rfl (sm hz.p2.p1 rfl))) (o1 rfl (sm hz.p8 rfl)) (sm hz.p8.p1 rfl)) (Go.Proofs.enters_of Try.func72 (by kernel_rfl) rfl) (rbucket_blk w t T.seed (.slice (some ⟨gA, 0, none⟩) T.a.length T.a.length) (.slice none 0 0) (.int .i64 (T.moved : Int)) (.int .i64 (T.n : Int)) hB T.a.length k  (by omega) (by omega) (by omega) (by omega)) ?_)
 rintro _ w6 ⟨rfl, hF5⟩
 refine ⟨_, rfl, ?_⟩
 have hsw6 := hF5.size
 have hF_7 := hF.new hF5
 have hB_8 := hB.fr0 hF5
 have hRA_9 := hRA.fr0 hF5
 have hK_10 := hK.fr0 hF5
 have hbl5 := bkt_lt T.seed k (n := T.a.length) (by omega)
 refine V.ga (v := (.int .i64 ((bkt T.seed T.a.length k : Nat) : Int))) (sm hz.p8.p2 rfl) ?_
 refine V.nil ?_
 refine V.then_n (hK4 _ _ ?_)
 refine V.flushW hz.p8.p4 (fun a11 hz12 up13 => ?_)
 have s0_14 := up13 0 _ (o8 rfl (o4 rfl s0))
 have s1_15 := up13 1 _ (o8 rfl (o4 rfl s1))
 have s7_16 : a11.eval (.tmp 7) = (.int .i64 ((bkt T.seed T.a.length k : Nat) : Int)) := up13 _ _ (sm hz.p8.p2.p1 rfl)
 clear up13
 refine V.seq (fun K17 hK18 => ?_)
 refine V.rg ?_
 refine V.gm (s0_14) ?_
 refine V.ge_ [(17, .pointer (some ⟨t, 0, none⟩))] ⟨(sm hz12 rfl), trivial⟩ (.pointer (some ⟨t, 0, none⟩)) ?_
 refine V.ge_ [(18, .pointer (some ⟨t, 0, none⟩))] ⟨(sm hz12.p1 rfl), trivial⟩ (.pointer (some ⟨t, 1, none⟩)) ?_
 refine V.go (V.ld ⟨t, 1, none⟩ (.slice (some ⟨gA, 0, none⟩) T.a.length T.a.length) (sm hz12.p2 rfl) (by kernel_rfl) (hB_8.at 1 rfl) ?_)
 refine V.gm (v := (.int .i64 ((bkt T.seed T.a.length k : Nat) : Int))) (o4 rfl s7_16) ?_
 refine V.go (V.ixa gA 0 T.a.length T.a.length .i64 ((bkt T.seed T.a.length k : Nat) : Int) 1 (o1 rfl (sm hz12.p2.p1 rfl)) (sm hz12.p4 rfl) (by omega) (by omega) (by kernel_rfl) ?_)
 obtain ⟨A19, c20, hv21⟩ := hK_10.getA hlA (i := (bkt T.seed T.a.length k)) (by omega) nilS
 refine V.go (V.ld ⟨gA, 0 + ((bkt T.seed T.a.length k : Nat) : Int).toNat * 1, none⟩ (.slice A19 ((T.a.getD (bkt T.seed T.a.length k) []).length) c20) (sm hz12.p4.p1 rfl) (by kernel_rfl) ((hRA_9.at (bkt T.seed T.a.length k) nilS (by omega)).trans (congrArg some hv21)) ?_)
 have hS22 := hK_10.slA hlA (i := (bkt T.seed T.a.length k)) (by omega) hv21
 refine V.gm (o4 rfl (o2 rfl (o1 rfl s1_15))) ?_
 refine V.go (V.call 80 #[] #[.slice A19 ((T.a.getD (bkt T.seed T.a.length k) []).length) c20, .string k] evf (args2 (o1 rfl (sm hz12.p4.p2 rfl)) (sm hz12.p4.p2.p1 rfl)) (Go.Proofs.enters_of Try.func80 (by kernel_rfl) rfl) (rin_any w6 _ A19 c20 (T.a.getD (bkt T.seed T.a.length k) []) k hS22) ?_)
 rintro _ w24 ⟨rfl, hF23⟩
 refine ⟨_, rfl, ?_⟩
 have hsw24 := hF23.size
 have hF_25 := hF_7.new hF23
 have hB_26 := hB_8.fr0 hF23
 have hRA_27 := hRA_9.fr0 hF23
 have hK_28 := hK_10.fr0 hF23
 have hS22_29 := hS22.fr0 hF23
 have hix23 := ixI_lt (T.a.getD (bkt T.seed T.a.length k) []) k
 refine V.ga (v := (.int .i64 (ixI (T.a.getD (bkt T.seed T.a.length k) []) k))) (sm hz12.p8 rfl) ?_
 refine V.nil ?_
 refine V.then_n (hK18 _ _ ?_)
 refine V.flushW hz12.p8.p2 (fun a30 hz31 up32 => ?_)
 have s0_33 := up32 0 _ (o8 rfl (o2 rfl s0_14))
 have s1_34 := up32 1 _ (o8 rfl (o2 rfl s1_15))
 have s7_35 : a30.eval (.tmp 7) = (.int .i64 ((bkt T.seed T.a.length k : Nat) : Int)) := up32 _ _ (o8 rfl (o2 rfl s7_16))
 have s8_36 : a30.eval (.tmp 8) = (.int .i64 (ixI (T.a.getD (bkt T.seed T.a.length k) []) k)) := up32 _ _ (sm hz12.p8.p1 rfl)
 clear up32
 refine V.seq (fun K37 hK38 => ?_)
 refine V.seq (fun K39 hK40 => ?_)
 refine V.rg ?_
 refine V.gm (v := (.int .i64 (ixI (T.a.getD (bkt T.seed T.a.length k) []) k))) (s8_36) ?_
 refine V.ge_ [(26, .int .i64 (ixI (T.a.getD (bkt T.seed T.a.length k) []) k))] ⟨(sm hz31 rfl), trivial⟩ (.bool (decide ((ixI (T.a.getD (bkt T.seed T.a.length k) []) k) ≥ 0))) ?_
 refine V.nil ?_
 refine V.then_n (hK40 _ _ ?_)
 refine V.condP (p := (ixI (T.a.getD (bkt T.seed T.a.length k) []) k) ≥ 0) (sm hz31.p1 rfl) (fun ht41 => ?_) (fun ht41 => ?_)
 ·
  refine V.seq (fun K42 hK43 => ?_)
  refine V.rg ?_
  refine V.gm (v := (.int .i64 ((bkt T.seed T.a.length k : Nat) : Int))) (o2 rfl s7_35) ?_
  refine V.gm (v := (.int .i64 (ixI (T.a.getD (bkt T.seed T.a.length k) []) k))) (o2 rfl (o1 rfl s8_36)) ?_
  refine V.ga evc ?_
  refine V.ga (v := (.int .i64 ((bkt T.seed T.a.length k : Nat) : Int))) (o2 rfl (sm hz31.p2 rfl)) ?_
  refine V.ga (v := (.int .i64 (ixI (T.a.getD (bkt T.seed T.a.length k) []) k))) (o2 rfl (sm hz31.p2.p1 rfl)) ?_
  refine V.nil ?_
  refine V.then_n (hK43 _ _ ?_)
  refine V.flushW hz31.p4.p2.p1 (fun a44 hz45 up46 => ?_)
  have s0_47 := up46 0 _ (o4 rfl (o2 rfl (o1 rfl s0_33)))
  have s1_48 := up46 1 _ (o4 rfl (o2 rfl (o1 rfl s1_34)))
  have s4_49 := up46 4 _ (o2 rfl (sm hz31.p4 rfl))
  have s5_50 : a44.eval (.tmp 5) = (.int .i64 ((bkt T.seed T.a.length k : Nat) : Int)) := up46 _ _ (o1 rfl (sm hz31.p4.p1 rfl))
  have s6_51 : a44.eval (.tmp 6) = (.int .i64 (ixI (T.a.getD (bkt T.seed T.a.length k) []) k)) := up46 _ _ (sm hz31.p4.p2 rfl)
  clear up46
  refine V.ret ?_
  refine V.then_r ?_
  refine V.ret3 hz45 rfl (s4_49) (s5_50) (s6_51) ?_
  refine ⟨?_, hF_25⟩
  have hr : rfT T k = (0, ((bkt T.seed T.a.length k : Nat) : Int), ixI (T.a.getD (bkt T.seed T.a.length k) []) k) := rfT_yes (by unfold findT; rw [if_pos (by omega)])
  rw [hr]
 ·
  refine V.skip ?_
  refine V.then_n (hK38 _ _ ?_)
  refine V.seq (fun K52 hK53 => ?_)
  refine V.seq (fun K54 hK55 => ?_)
  refine V.rg ?_
  refine V.gm (o2 rfl s0_33) ?_
  refine V.ge_ [(30, .pointer (some ⟨t, 0, none⟩))] ⟨(sm hz31.p2 rfl), trivial⟩ (.pointer (some ⟨t, 0, none⟩)) ?_
  refine V.ge_ [(31, .pointer (some ⟨t, 0, none⟩))] ⟨(sm hz31.p2.p1 rfl), trivial⟩ (.pointer (some ⟨t, 2, none⟩)) ?_
  refine V.go (V.ld ⟨t, 2, none⟩ (.slice none 0 0) (sm hz31.p4 rfl) (by kernel_rfl) (hB_26.at 2 rfl) ?_)
  refine V.ge_ [(33, .slice none 0 0)] ⟨(sm hz31.p4.p1 rfl), trivial⟩ (.int .i64 0) ?_
  refine V.ge_ [(34, .int .i64 0)] ⟨(sm hz31.p4.p2 rfl), trivial⟩ (.bool false) ?_
  refine V.nil ?_
  refine V.then_n (hK55 _ _ ?_)
  refine V.flushW hz31.p8 (fun a56 hz57 up58 => ?_)
  have s0_59 := up58 0 _ (o8 rfl s0_33)
  have s1_60 := up58 1 _ (o8 rfl s1_34)
  have s35_61 := up58 35 _ (sm hz31.p4.p2.p1 rfl)
  clear up58
  refine V.cond_f (s35_61) ?_
  refine V.skip ?_
  refine V.then_n (hK53 _ _ ?_)
  refine V.seq (fun K62 hK63 => ?_)
  refine V.rg ?_
  refine V.ga evc ?_
  refine V.ga evc ?_
  refine V.ga evc ?_
  refine V.nil ?_
  refine V.then_n (hK63 _ _ ?_)
  refine V.ret ?_
  refine V.ret3 hz57.p2.p1 rfl (o2 rfl (sm hz57 rfl)) (o1 rfl (sm hz57.p1 rfl)) (sm hz57.p2 rfl) ?_
  refine ⟨?_, hF_25⟩
  have hr : rfT T k = ((-1), 0, 0) := rfT_no (by unfold findT; rw [if_neg (by omega), if_neg (by omega)])
  rw [hr]
set_option maxHeartbeats 4000000 in
set_option maxRecDepth 20000 in
theorem rfind_M (w : World) (H : Nat → Prop) (av : List Nat) (t gA gB : Nat) (vsA vsB : List Value) (T : Tb Int) (hok : T.Ok) (hT : TabM 40 42 60 itI w H av t gA gB vsA vsB T) (k : ByteArray) (hk : k.size ≤ 9223372036854775807) (hb : T.b.length ≠ 0) : Calls Try.prog 71 #[.pointer (some ⟨t, 0, none⟩), .string k] w (fun e w' => e = .returned (.tuple #[.int .i64 (rfT T k).1, .int .i64 (rfT T k).2.1, .int .i64 (rfT T k).2.2]) ∧ Fr [] w w') := by
 have hF := Fr.refl [] w
 obtain ⟨hsd, hpa, hla, hlb, hmv, hmz, hnn, hcn, hks⟩ := hok
 obtain ⟨hB, hRA, hRB, hlA, hlB, hK, hne, hne2, hne3, hpt, hpg, hph⟩ := hT
 have hltg2 := hRB.lt
 have hltt := hB.lt
 have hltg := hRA.lt
 refine V.enter 57 Try.func71 rfl rfl ?_
 intro a hz ha
 have s0 : a.eval (.tmp 0) = (.pointer (some ⟨t, 0, none⟩)) := ha 0 _ rfl
 have s1 : a.eval (.tmp 1) = (.string k) := ha 1 _ rfl
 clear ha
 refine V.seq (fun K1 hK2 => ?_)
 refine V.rg ?_
 refine V.ga evc ?_
 refine V.ga evc ?_
 refine V.ga evc ?_
 refine V.nil ?_
 refine V.then_n (hK2 _ _ ?_)
 refine V.seq (fun K3 hK4 => ?_)
 refine V.rg ?_
 refine V.gm (o2 rfl (o1 rfl s0)) ?_
 refine V.gm (o4 rfl s0) ?_
 refine V.ge_ [(10, .pointer (some ⟨t, 0, none⟩))] ⟨(sm hz.p4 rfl), trivial⟩ (.pointer (some ⟨t, 0, none⟩)) ?_
 refine V.ge_ [(11, .pointer (some ⟨t, 0, none⟩))] ⟨(sm hz.p4.p1 rfl), trivial⟩ (.pointer (some ⟨t, 1, none⟩)) ?_
 refine V.go (V.ld ⟨t, 1, none⟩ (.slice (some ⟨gA, 0, none⟩) T.a.length T.a.length) (sm hz.p4.p2 rfl) (by kernel_rfl) (hB.at 1 rfl) ?_)
 refine V.ge_ [(13, .slice (some ⟨gA, 0, none⟩) T.a.length T.a.length)] ⟨(sm hz.p4.p2.p1 rfl), trivial⟩ (.int .i64 ((T.a.length : Nat) : Int)) ?_
 refine V.gm (o8 rfl (o1 rfl s1)) ?_
 refine V.go (V.call 72 #[] #[.pointer (some ⟨t, 0, none⟩), .int .i64 ((T.a.length : Nat) : Int), .string k] evf (args3 (o4 rfl (o2 rfl (sm hz.p2.p1 rfl))) (o1 rfl (sm hz.p8 rfl)) (sm hz.p8.p1 rfl)) (Go.Proofs.enters_of Try.func72 (by kernel_rfl) rfl) (rbucket_blk w t T.seed (.slice (some ⟨gA, 0, none⟩) T.a.length T.a.length) (.slice (some ⟨gB, 0, none⟩) T.b.length T.b.length) (.int .i64 (T.moved : Int)) (.int .i64 (T.n : Int)) hB T.a.length k  (by omega) (by omega) (by omega) (by omega)) ?_)
 rintro _ w6 ⟨rfl, hF5⟩
 refine ⟨_, rfl, ?_⟩
 have hsw6 := hF5.size
 have hF_7 := hF.new hF5
 have hB_8 := hB.fr0 hF5
 have hRA_9 := hRA.fr0 hF5
 have hRB_10 := hRB.fr0 hF5
 have hK_11 := hK.fr0 hF5
 have hbl5 := bkt_lt T.seed k (n := T.a.length) (by omega)
 refine V.ga (v := (.int .i64 ((bkt T.seed T.a.length k : Nat) : Int))) (sm hz.p8.p2 rfl) ?_
 refine V.nil ?_
 refine V.then_n (hK4 _ _ ?_)
 refine V.flushW hz.p8.p4 (fun a12 hz13 up14 => ?_)
 have s0_15 := up14 0 _ (o8 rfl (o4 rfl s0))
 have s1_16 := up14 1 _ (o8 rfl (o4 rfl s1))
 have s7_17 : a12.eval (.tmp 7) = (.int .i64 ((bkt T.seed T.a.length k : Nat) : Int)) := up14 _ _ (sm hz.p8.p2.p1 rfl)
 clear up14
 refine V.seq (fun K18 hK19 => ?_)
 refine V.rg ?_
 refine V.gm (s0_15) ?_
 refine V.ge_ [(17, .pointer (some ⟨t, 0, none⟩))] ⟨(sm hz13 rfl), trivial⟩ (.pointer (some ⟨t, 0, none⟩)) ?_
 refine V.ge_ [(18, .pointer (some ⟨t, 0, none⟩))] ⟨(sm hz13.p1 rfl), trivial⟩ (.pointer (some ⟨t, 1, none⟩)) ?_
 refine V.go (V.ld ⟨t, 1, none⟩ (.slice (some ⟨gA, 0, none⟩) T.a.length T.a.length) (sm hz13.p2 rfl) (by kernel_rfl) (hB_8.at 1 rfl) ?_)
 refine V.gm (v := (.int .i64 ((bkt T.seed T.a.length k : Nat) : Int))) (o4 rfl s7_17) ?_
 refine V.go (V.ixa gA 0 T.a.length T.a.length .i64 ((bkt T.seed T.a.length k : Nat) : Int) 1 (o1 rfl (sm hz13.p2.p1 rfl)) (sm hz13.p4 rfl) (by omega) (by omega) (by kernel_rfl) ?_)
 obtain ⟨A20, c21, hv22⟩ := hK_11.getA hlA (i := (bkt T.seed T.a.length k)) (by omega) nilS
 refine V.go (V.ld ⟨gA, 0 + ((bkt T.seed T.a.length k : Nat) : Int).toNat * 1, none⟩ (.slice A20 ((T.a.getD (bkt T.seed T.a.length k) []).length) c21) (sm hz13.p4.p1 rfl) (by kernel_rfl) ((hRA_9.at (bkt T.seed T.a.length k) nilS (by omega)).trans (congrArg some hv22)) ?_)
 have hS23 := hK_11.slA hlA (i := (bkt T.seed T.a.length k)) (by omega) hv22
 refine V.gm (o4 rfl (o2 rfl (o1 rfl s1_16))) ?_
 refine V.go (V.call 80 #[] #[.slice A20 ((T.a.getD (bkt T.seed T.a.length k) []).length) c21, .string k] evf (args2 (o1 rfl (sm hz13.p4.p2 rfl)) (sm hz13.p4.p2.p1 rfl)) (Go.Proofs.enters_of Try.func80 (by kernel_rfl) rfl) (rin_any w6 _ A20 c21 (T.a.getD (bkt T.seed T.a.length k) []) k hS23) ?_)
 rintro _ w25 ⟨rfl, hF24⟩
 refine ⟨_, rfl, ?_⟩
 have hsw25 := hF24.size
 have hF_26 := hF_7.new hF24
 have hB_27 := hB_8.fr0 hF24
 have hRA_28 := hRA_9.fr0 hF24
 have hRB_29 := hRB_10.fr0 hF24
 have hK_30 := hK_11.fr0 hF24
 have hS23_31 := hS23.fr0 hF24
 have hix24 := ixI_lt (T.a.getD (bkt T.seed T.a.length k) []) k
 refine V.ga (v := (.int .i64 (ixI (T.a.getD (bkt T.seed T.a.length k) []) k))) (sm hz13.p8 rfl) ?_
 refine V.nil ?_
 refine V.then_n (hK19 _ _ ?_)
 refine V.flushW hz13.p8.p2 (fun a32 hz33 up34 => ?_)
 have s0_35 := up34 0 _ (o8 rfl (o2 rfl s0_15))
 have s1_36 := up34 1 _ (o8 rfl (o2 rfl s1_16))
 have s7_37 : a32.eval (.tmp 7) = (.int .i64 ((bkt T.seed T.a.length k : Nat) : Int)) := up34 _ _ (o8 rfl (o2 rfl s7_17))
 have s8_38 : a32.eval (.tmp 8) = (.int .i64 (ixI (T.a.getD (bkt T.seed T.a.length k) []) k)) := up34 _ _ (sm hz13.p8.p1 rfl)
 clear up34
 refine V.seq (fun K39 hK40 => ?_)
 refine V.seq (fun K41 hK42 => ?_)
 refine V.rg ?_
 refine V.gm (v := (.int .i64 (ixI (T.a.getD (bkt T.seed T.a.length k) []) k))) (s8_38) ?_
 refine V.ge_ [(26, .int .i64 (ixI (T.a.getD (bkt T.seed T.a.length k) []) k))] ⟨(sm hz33 rfl), trivial⟩ (.bool (decide ((ixI (T.a.getD (bkt T.seed T.a.length k) []) k) ≥ 0))) ?_
 refine V.nil ?_
 refine V.then_n (hK42 _ _ ?_)
 refine V.condP (p := (ixI (T.a.getD (bkt T.seed T.a.length k) []) k) ≥ 0) (sm hz33.p1 rfl) (fun ht43 => ?_) (fun ht43 => ?_)
 ·
  refine V.seq (fun K44 hK45 => ?_)
  refine V.rg ?_
  refine V.gm (v := (.int .i64 ((bkt T.seed T.a.length k : Nat) : Int))) (o2 rfl s7_37) ?_
  refine V.gm (v := (.int .i64 (ixI (T.a.getD (bkt T.seed T.a.length k) []) k))) (o2 rfl (o1 rfl s8_38)) ?_
  refine V.ga evc ?_
  refine V.ga (v := (.int .i64 ((bkt T.seed T.a.length k : Nat) : Int))) (o2 rfl (sm hz33.p2 rfl)) ?_
  refine V.ga (v := (.int .i64 (ixI (T.a.getD (bkt T.seed T.a.length k) []) k))) (o2 rfl (sm hz33.p2.p1 rfl)) ?_
  refine V.nil ?_
  refine V.then_n (hK45 _ _ ?_)
  refine V.flushW hz33.p4.p2.p1 (fun a46 hz47 up48 => ?_)
  have s0_49 := up48 0 _ (o4 rfl (o2 rfl (o1 rfl s0_35)))
  have s1_50 := up48 1 _ (o4 rfl (o2 rfl (o1 rfl s1_36)))
  have s4_51 := up48 4 _ (o2 rfl (sm hz33.p4 rfl))
  have s5_52 : a46.eval (.tmp 5) = (.int .i64 ((bkt T.seed T.a.length k : Nat) : Int)) := up48 _ _ (o1 rfl (sm hz33.p4.p1 rfl))
  have s6_53 : a46.eval (.tmp 6) = (.int .i64 (ixI (T.a.getD (bkt T.seed T.a.length k) []) k)) := up48 _ _ (sm hz33.p4.p2 rfl)
  clear up48
  refine V.ret ?_
  refine V.then_r ?_
  refine V.ret3 hz47 rfl (s4_51) (s5_52) (s6_53) ?_
  refine ⟨?_, hF_26⟩
  have hr : rfT T k = (0, ((bkt T.seed T.a.length k : Nat) : Int), ixI (T.a.getD (bkt T.seed T.a.length k) []) k) := rfT_yes (by unfold findT; rw [if_pos (by omega)])
  rw [hr]
 ·
  refine V.skip ?_
  refine V.then_n (hK40 _ _ ?_)
  refine V.seq (fun K54 hK55 => ?_)
  refine V.seq (fun K56 hK57 => ?_)
  refine V.rg ?_
  refine V.gm (o2 rfl s0_35) ?_
  refine V.ge_ [(30, .pointer (some ⟨t, 0, none⟩))] ⟨(sm hz33.p2 rfl), trivial⟩ (.pointer (some ⟨t, 0, none⟩)) ?_
  refine V.ge_ [(31, .pointer (some ⟨t, 0, none⟩))] ⟨(sm hz33.p2.p1 rfl), trivial⟩ (.pointer (some ⟨t, 2, none⟩)) ?_
  refine V.go (V.ld ⟨t, 2, none⟩ (.slice (some ⟨gB, 0, none⟩) T.b.length T.b.length) (sm hz33.p4 rfl) (by kernel_rfl) (hB_27.at 2 rfl) ?_)
  refine V.ge_ [(33, .slice (some ⟨gB, 0, none⟩) T.b.length T.b.length)] ⟨(sm hz33.p4.p1 rfl), trivial⟩ (.int .i64 ((T.b.length : Nat) : Int)) ?_
  refine V.ge_ [(34, .int .i64 ((T.b.length : Nat) : Int))] ⟨(sm hz33.p4.p2 rfl), trivial⟩ (.bool (decide (((T.b.length : Nat) : Int) > 0))) ?_
  refine V.nil ?_
  refine V.then_n (hK57 _ _ ?_)
  refine V.flushW hz33.p8 (fun a58 hz59 up60 => ?_)
  have s0_61 := up60 0 _ (o8 rfl s0_35)
  have s1_62 := up60 1 _ (o8 rfl s1_36)
  have s35_63 := up60 35 _ (sm hz33.p4.p2.p1 rfl)
  clear up60
  refine V.condP (p := ((T.b.length : Nat) : Int) > 0) (s35_63) (fun ht64 => ?_) (fun ht64 => ?_)
  ·
   refine V.seq (fun K65 hK66 => ?_)
   refine V.rg ?_
   refine V.gm (s0_61) ?_
   refine V.gm (o1 rfl s0_61) ?_
   refine V.ge_ [(37, .pointer (some ⟨t, 0, none⟩))] ⟨(sm hz59.p1 rfl), trivial⟩ (.pointer (some ⟨t, 0, none⟩)) ?_
   refine V.ge_ [(38, .pointer (some ⟨t, 0, none⟩))] ⟨(sm hz59.p2 rfl), trivial⟩ (.pointer (some ⟨t, 2, none⟩)) ?_
   refine V.go (V.ld ⟨t, 2, none⟩ (.slice (some ⟨gB, 0, none⟩) T.b.length T.b.length) (sm hz59.p2.p1 rfl) (by kernel_rfl) (hB_27.at 2 rfl) ?_)
   refine V.ge_ [(40, .slice (some ⟨gB, 0, none⟩) T.b.length T.b.length)] ⟨(sm hz59.p4 rfl), trivial⟩ (.int .i64 ((T.b.length : Nat) : Int)) ?_
   refine V.gm (o4 rfl (o2 rfl s1_62)) ?_
   refine V.go (V.call 72 #[] #[.pointer (some ⟨t, 0, none⟩), .int .i64 ((T.b.length : Nat) : Int), .string k] evf (args3 (o4 rfl (o2 rfl (sm hz59 rfl))) (o1 rfl (sm hz59.p4.p1 rfl)) (sm hz59.p4.p2 rfl)) (Go.Proofs.enters_of Try.func72 (by kernel_rfl) rfl) (rbucket_blk w25 t T.seed (.slice (some ⟨gA, 0, none⟩) T.a.length T.a.length) (.slice (some ⟨gB, 0, none⟩) T.b.length T.b.length) (.int .i64 (T.moved : Int)) (.int .i64 (T.n : Int)) hB_27 T.b.length k  (by omega) (by omega) (by omega) (by omega)) ?_)
   rintro _ w68 ⟨rfl, hF67⟩
   refine ⟨_, rfl, ?_⟩
   have hsw68 := hF67.size
   have hF_69 := hF_26.new hF67
   have hB_70 := hB_27.fr0 hF67
   have hRA_71 := hRA_28.fr0 hF67
   have hRB_72 := hRB_29.fr0 hF67
   have hK_73 := hK_30.fr0 hF67
   have hS23_74 := hS23_31.fr0 hF67
   have hbl67 := bkt_lt T.seed k (n := T.b.length) (by omega)
   refine V.ga (v := (.int .i64 ((bkt T.seed T.b.length k : Nat) : Int))) (sm hz59.p4.p2.p1 rfl) ?_
   refine V.nil ?_
   refine V.then_n (hK66 _ _ ?_)
   refine V.flushW hz59.p8.p1 (fun a75 hz76 up77 => ?_)
   have s0_78 := up77 0 _ (o8 rfl (o1 rfl s0_61))
   have s1_79 := up77 1 _ (o8 rfl (o1 rfl s1_62))
   have s7_80 : a75.eval (.tmp 7) = (.int .i64 ((bkt T.seed T.b.length k : Nat) : Int)) := up77 _ _ (sm hz59.p8 rfl)
   clear up77
   refine V.seq (fun K81 hK82 => ?_)
   refine V.rg ?_
   refine V.gm (s0_78) ?_
   refine V.ge_ [(44, .pointer (some ⟨t, 0, none⟩))] ⟨(sm hz76 rfl), trivial⟩ (.pointer (some ⟨t, 0, none⟩)) ?_
   refine V.ge_ [(45, .pointer (some ⟨t, 0, none⟩))] ⟨(sm hz76.p1 rfl), trivial⟩ (.pointer (some ⟨t, 2, none⟩)) ?_
   refine V.go (V.ld ⟨t, 2, none⟩ (.slice (some ⟨gB, 0, none⟩) T.b.length T.b.length) (sm hz76.p2 rfl) (by kernel_rfl) (hB_70.at 2 rfl) ?_)
   refine V.gm (v := (.int .i64 ((bkt T.seed T.b.length k : Nat) : Int))) (o4 rfl s7_80) ?_
   refine V.go (V.ixa gB 0 T.b.length T.b.length .i64 ((bkt T.seed T.b.length k : Nat) : Int) 1 (o1 rfl (sm hz76.p2.p1 rfl)) (sm hz76.p4 rfl) (by omega) (by omega) (by kernel_rfl) ?_)
   obtain ⟨A83, c84, hv85⟩ := hK_73.getB hlA (i := (bkt T.seed T.b.length k)) (by omega) nilS
   refine V.go (V.ld ⟨gB, 0 + ((bkt T.seed T.b.length k : Nat) : Int).toNat * 1, none⟩ (.slice A83 ((T.b.getD (bkt T.seed T.b.length k) []).length) c84) (sm hz76.p4.p1 rfl) (by kernel_rfl) ((hRB_72.at (bkt T.seed T.b.length k) nilS (by omega)).trans (congrArg some hv85)) ?_)
   have hS86 := hK_73.slB hlA (i := (bkt T.seed T.b.length k)) (by omega) hv85
   refine V.gm (o4 rfl (o2 rfl (o1 rfl s1_79))) ?_
   refine V.go (V.call 80 #[] #[.slice A83 ((T.b.getD (bkt T.seed T.b.length k) []).length) c84, .string k] evf (args2 (o1 rfl (sm hz76.p4.p2 rfl)) (sm hz76.p4.p2.p1 rfl)) (Go.Proofs.enters_of Try.func80 (by kernel_rfl) rfl) (rin_any w68 _ A83 c84 (T.b.getD (bkt T.seed T.b.length k) []) k hS86) ?_)
   rintro _ w88 ⟨rfl, hF87⟩
   refine ⟨_, rfl, ?_⟩
   have hsw88 := hF87.size
   have hF_89 := hF_69.new hF87
   have hB_90 := hB_70.fr0 hF87
   have hRA_91 := hRA_71.fr0 hF87
   have hRB_92 := hRB_72.fr0 hF87
   have hK_93 := hK_73.fr0 hF87
   have hS23_94 := hS23_74.fr0 hF87
   have hS86_95 := hS86.fr0 hF87
   have hix87 := ixI_lt (T.b.getD (bkt T.seed T.b.length k) []) k
   refine V.ga (v := (.int .i64 (ixI (T.b.getD (bkt T.seed T.b.length k) []) k))) (sm hz76.p8 rfl) ?_
   refine V.nil ?_
   refine V.then_n (hK82 _ _ ?_)
   refine V.flushW hz76.p8.p2 (fun a96 hz97 up98 => ?_)
   have s7_99 : a96.eval (.tmp 7) = (.int .i64 ((bkt T.seed T.b.length k : Nat) : Int)) := up98 _ _ (o8 rfl (o2 rfl s7_80))
   have s8_100 : a96.eval (.tmp 8) = (.int .i64 (ixI (T.b.getD (bkt T.seed T.b.length k) []) k)) := up98 _ _ (sm hz76.p8.p1 rfl)
   clear up98
   refine V.seq (fun K101 hK102 => ?_)
   refine V.rg ?_
   refine V.gm (v := (.int .i64 (ixI (T.b.getD (bkt T.seed T.b.length k) []) k))) (s8_100) ?_
   refine V.ge_ [(53, .int .i64 (ixI (T.b.getD (bkt T.seed T.b.length k) []) k))] ⟨(sm hz97 rfl), trivial⟩ (.bool (decide ((ixI (T.b.getD (bkt T.seed T.b.length k) []) k) ≥ 0))) ?_
   refine V.nil ?_
   refine V.then_n (hK102 _ _ ?_)
   refine V.condP (p := (ixI (T.b.getD (bkt T.seed T.b.length k) []) k) ≥ 0) (sm hz97.p1 rfl) (fun ht103 => ?_) (fun ht103 => ?_)
   ·
    refine V.seq (fun K104 hK105 => ?_)
    refine V.rg ?_
    refine V.gm (v := (.int .i64 ((bkt T.seed T.b.length k : Nat) : Int))) (o2 rfl s7_99) ?_
    refine V.gm (v := (.int .i64 (ixI (T.b.getD (bkt T.seed T.b.length k) []) k))) (o2 rfl (o1 rfl s8_100)) ?_
    refine V.ga evc ?_
    refine V.ga (v := (.int .i64 ((bkt T.seed T.b.length k : Nat) : Int))) (o2 rfl (sm hz97.p2 rfl)) ?_
    refine V.ga (v := (.int .i64 (ixI (T.b.getD (bkt T.seed T.b.length k) []) k))) (o2 rfl (sm hz97.p2.p1 rfl)) ?_
    refine V.nil ?_
    refine V.then_n (hK105 _ _ ?_)
    refine V.flushW hz97.p4.p2.p1 (fun a106 hz107 up108 => ?_)
    have s4_109 := up108 4 _ (o2 rfl (sm hz97.p4 rfl))
    have s5_110 : a106.eval (.tmp 5) = (.int .i64 ((bkt T.seed T.b.length k : Nat) : Int)) := up108 _ _ (o1 rfl (sm hz97.p4.p1 rfl))
    have s6_111 : a106.eval (.tmp 6) = (.int .i64 (ixI (T.b.getD (bkt T.seed T.b.length k) []) k)) := up108 _ _ (sm hz97.p4.p2 rfl)
    clear up108
    refine V.ret ?_
    refine V.then_r ?_
    refine V.ret3 hz107 rfl (s4_109) (s5_110) (s6_111) ?_
    refine ⟨?_, hF_89⟩
    have hr : rfT T k = (1, ((bkt T.seed T.b.length k : Nat) : Int), ixI (T.b.getD (bkt T.seed T.b.length k) []) k) := rfT_yes (by unfold findT; rw [if_neg (by omega), if_pos ⟨by omega, by omega⟩])
    rw [hr]
   ·
    refine V.skip ?_
    refine V.then_n (hK55 _ _ ?_)
    refine V.seq (fun K112 hK113 => ?_)
    refine V.rg ?_
    refine V.ga evc ?_
    refine V.ga evc ?_
    refine V.ga evc ?_
    refine V.nil ?_
    refine V.then_n (hK113 _ _ ?_)
    refine V.flushW hz97.p4.p1 (fun a114 hz115 up116 => ?_)
    have s4_117 := up116 4 _ (o2 rfl (sm hz97.p2 rfl))
    have s5_118 := up116 5 _ (o1 rfl (sm hz97.p2.p1 rfl))
    have s6_119 := up116 6 _ (sm hz97.p4 rfl)
    clear up116
    refine V.ret ?_
    refine V.ret3 hz115 rfl (s4_117) (s5_118) (s6_119) ?_
    refine ⟨?_, hF_89⟩
    have hr : rfT T k = ((-1), 0, 0) := rfT_no (by unfold findT; rw [if_neg (by omega), if_neg (by omega)])
    rw [hr]
  ·
   refine V.skip ?_
   refine V.then_n (hK55 _ _ ?_)
   refine V.seq (fun K120 hK121 => ?_)
   refine V.rg ?_
   refine V.ga evc ?_
   refine V.ga evc ?_
   refine V.ga evc ?_
   refine V.nil ?_
   refine V.then_n (hK121 _ _ ?_)
   refine V.ret ?_
   refine V.ret3 hz59.p2.p1 rfl (o2 rfl (sm hz59 rfl)) (o1 rfl (sm hz59.p1 rfl)) (sm hz59.p2 rfl) ?_
   refine ⟨?_, hF_26⟩
   have hr : rfT T k = ((-1), 0, 0) := rfT_no (by unfold findT; rw [if_neg (by omega), if_neg (by omega)])
   rw [hr]
end Go.Proofs.Ytalhmegjomfbaaa
