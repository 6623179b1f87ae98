/- Walks: the reference: bucket, in, find. -/
import Derived.Test.YtalhmegjomfbaaaProg
import Derived.Test.YtalhmegjomfbaaaTl
namespace Go.Proofs.Ytalhmegjomfbaaa
open Go.V Go.Base
open Go.RowKit (Below)
attribute [local irreducible] Act.put Act.eval
set_option linter.unusedVariables false
set_option linter.unusedSimpArgs false
def rfT {α : Type} (T : Tb α) (k : ByteArray) : Int × Int × Int := if (findT T k).2 = true then (findT T k).1 else (-1, 0, 0)
theorem rfT_yes {α : Type} {T : Tb α} {k : ByteArray} {p : Int × Int × Int} (h : findT T k = (p, true)) : rfT T k = p := by unfold rfT; rw [h]; rfl
theorem rfT_no {α : Type} {T : Tb α} {k : ByteArray} {p : Int × Int × Int} (h : findT T k = (p, false)) : rfT T k = (-1, 0, 0) := by unfold rfT; rw [h]; rfl
set_option maxHeartbeats 4000000 in
set_option maxRecDepth 20000 in
theorem rbucket_blk (w : World) (t : Nat) (seed : Nat) (v1 v2 m1 m2 : Value) (hB : Blk w t [.int .u64 (seed : Int), v1, v2, m1, m2] 40) (n : Nat) (k : ByteArray) (hsd : seed < 18446744073709551616) (hk : k.size ≤ 9223372036854775807) (hn : 0 < n) (hn2 : n ≤ 4398046511104) : Calls Try.prog 72 #[.pointer (some ⟨t, 0, none⟩), .int .i64 (n : Int), .string k] w (fun e w' => e = .returned (.int .i64 ((bkt seed n k : Nat) : Int)) ∧ Fr [] w w') := by
 have hF := Fr.refl [] w
 have hbk := bkt_lt seed k hn
 refine V.en 17 Try.func72 fun a h1 => ?_
 refine V.sr h1 [] 6 6 [] fun a h4 => ?_
 refine V.sg fun K5 k6 => ?_
 refine V.run h4 [(3, .b hB 0)] 5 7 9 [(10, .int .u64 (seed : Int)), (11, .string k)] fun a h7 => ?_
 refine V.cl h7 (Go.Proofs.enters_of Try.func12 (by kernel_rfl) rfl) (rhash_any w seed k (by omega) (by omega)) ?_
 rintro _ w9 ⟨rfl, hF8⟩
 refine ⟨_, rfl, fun a h10 => ?_⟩
 have hsw9 := hF8.size
 have hF_11 := hF.new hF8
 have hB_12 := hB.fr0 hF8
 have hhl8 := hashN_lt (seed := seed) (by omega) k
 refine V.re h10 [(1, .q (.int .u64 (n : Int)) (V.w_u64 (by omega) (by omega))), (0, .remN .u64 (hashN seed k) n), (0, .q (.int .i64 ((bkt seed n k : Nat) : Int)) (V.w_i64 (by omega) (by omega)))] 13 16 [(6, .int .i64 ((bkt seed n k : Nat) : Int))] fun a h13 => k6 _ _ ?_
 refine V.ret ?_
 refine V.r1 h13 (.int .i64 ((bkt seed n k : Nat) : Int)) ?_
 exact ⟨rfl, hF_11⟩
set_option maxHeartbeats 4000000 in
set_option maxRecDepth 20000 in
theorem rin_any (w : World) (Z : Nat → Prop) (A0 : Option Addr) (c0 : Nat) (l : List (ByteArray × Int)) (k : ByteArray) (hS : SlR itI Z w (.slice A0 l.length c0) l) : Calls Try.prog 80 #[.slice A0 l.length c0, .string k] w (fun e w' => e = .returned (.int .i64 (ixI l k)) ∧ Fr [] w w') := by
 have hF := Fr.refl [] w
 have hlen0 := hS.len_le
 refine V.en 20 Try.func80 fun a h1 => ?_
 refine V.sr h1 [] 4 4 [] fun a h4 => ?_
 refine V.seq fun K5 k6 => ?_
 refine V.sr h4 [] 1 0 [(5, .int .i64 0)] fun a h9 => ?_
 refine V.block ?_
 refine V.loop1 (fun (i : Nat) a_ w_ => En 20 [] a_ [(0, .slice A0 l.length c0), (1, .string k), (5, .int .i64 (i : Int))] ∧ Fr [] w w_ ∧ SlR itI Z w_ (.slice A0 l.length c0) l ∧ (i ≤ l.length) ∧ (∀ (j : Nat) (x : ByteArray × Int), j < i → l[j]? = some x → x.1 ≠ k)) (fun (i : Nat) => l.length - i) 0 ?_ ?_
 ·
  refine ⟨(h9.eq 5 (v := (.int .i64 0)) (u := (.int .i64 (0 : Int))) (V.int_eq (by omega))).only _, hF, hS, (by omega), (fun j x hj => by omega)⟩
 ·
  rintro i a10 w11 ⟨h12, hF_13, hS_14, hi, hmiss⟩
  have hfs15 := hF_13.size
  refine V.seq fun K16 k17 => ?_
  refine V.sr h12 [] 6 8 [(9, .bool (decide ((i : Int) < ((l.length : Nat) : Int))))] fun a h20 => ?_
  refine V.cp h20 ((i : Int) < ((l.length : Nat) : Int)) (fun ht21 => ?_) (fun ht21 => ?_)
  ·
   refine V.skip ?_
   refine V.then_n (k17 _ _ ?_)
   refine V.seq fun K22 k23 => ?_
   refine V.block ?_
   obtain ⟨g26, o27, hA28, hA28l, hA28z⟩ := hS_14.addr (by omega)
   obtain ⟨cs29, hok30, hE31⟩ := hS_14.els hA28 (i : Int) (by omega) (by omega)
   refine V.sg fun K24 k25 => ?_
   refine V.run h20 [(2, .ix g26 o27 l.length c0 .i64 (i : Int) 2 hA28)] 4 12 14 [(15, .pointer (some ⟨g26, o27 + (i : Int).toNat * 2, none⟩))] fun a h32 => ?_
   obtain rfl : cs29 = [.string (at_ itI l (i : Int)).1, .int .i64 (at_ itI l (i : Int)).2] := hok30
   refine V.re h32 [(0, .l ⟨g26, o27 + (i : Int).toNat * 2, none⟩ (.string ((at_ itI l (i : Int)).1)) (hE31.at 0 rfl)), (1, .seq ((at_ itI l (i : Int)).1) k)] 16 17 [(18, .bool (decide (((at_ itI l (i : Int)).1) = k)))] fun a h33 => k25 _ _ ?_
   refine V.cp h33 (((at_ itI l (i : Int)).1) = k) (fun ht34 => ?_) (fun ht34 => ?_)
   ·
    refine V.sr h33 [] 19 19 [(4, .int .i64 (i : Int))] fun a h37 => ?_
    refine V.ret ?_
    refine V.blk_r ?_
    refine V.then_r ?_
    refine V.then_r ?_
    refine V.blk_r ?_
    refine V.then_r ?_
    refine V.r1 h37 (.int .i64 (i : Int)) ?_
    exact ⟨congrArg Ending.returned (int_eq (hit_end itI hmiss (by omega) ht34).symm), hF_13⟩
   ·
    refine V.skip ?_
    refine V.blk_n ?_
    refine V.then_n (k23 _ _ ?_)
    refine V.rr h33 [(1, .i ((i : Int) + 1))] 10 11 [(5, .int .i64 ((i : Int) + 1))] fun a h38 => ?_
    refine V.then_n ?_
    refine ⟨i + 1, by omega, ?_⟩
    refine ⟨(h38.eq 5 (v := (.int .i64 ((i : Int) + 1))) (u := (.int .i64 ((i + 1) : Int))) (V.int_eq (by omega))).only _, hF_13, hS_14, (by omega), (miss_step itI hmiss (by omega) ht34)⟩
  ·
   refine V.exit ?_
   refine V.then_e ?_
   refine V.then_e ?_
   refine V.blk_hit ?_
   refine V.then_n (k6 _ _ ?_)
   refine V.sr h20 [] 1 0 [(4, .int .i64 (-1))] fun a h41 => ?_
   refine V.ret ?_
   refine V.r1 h41 (.int .i64 (-1)) ?_
   exact ⟨congrArg Ending.returned (int_eq (miss_end hmiss (by omega)).symm), hF_13⟩
set_option maxHeartbeats 4000000 in
set_option maxRecDepth 20000 in
theorem rfind_N (w : World) (H : Nat → Prop) (av : List Nat) (t gA : Nat) (vsA : List Value) (T : Tb Int) (hok : T.Ok) (hT : TabN 40 42 60 itI w H av t gA vsA T) (k : ByteArray) (hk : k.size ≤ 9223372036854775807) (hb : T.b.length = 0) : Calls Try.prog 71 #[.pointer (some ⟨t, 0, none⟩), .string k] w (fun e w' => e = .returned (.tuple #[.int .i64 (rfT T k).1, .int .i64 (rfT T k).2.1, .int .i64 (rfT T k).2.2]) ∧ Fr [] w w') := by
 have hF := Fr.refl [] w
 obtain ⟨hsd, hpa, hla, hlb, hmv, hmz, hnn, hcn, hks⟩ := hok
 obtain ⟨hB, hRA, hlA, hK, hne, hpt, hpg⟩ := hT
 have hltt := hB.lt
 have hltg := hRA.lt
 refine V.en 57 Try.func71 fun a h1 => ?_
 refine V.sr h1 [] 4 6 [] fun a h4 => ?_
 refine V.sg fun K5 k6 => ?_
 refine V.run h4 [(4, .b hB 1)] 7 10 13 [(9, .pointer (some ⟨t, 0, none⟩)), (14, .int .i64 ((T.a.length : Nat) : Int)), (15, .string k)] fun a h7 => ?_
 refine V.cl h7 (Go.Proofs.enters_of Try.func72 (by kernel_rfl) rfl) (rbucket_blk w t T.seed (.slice (some ⟨gA, 0, none⟩) T.a.length T.a.length) (.slice none 0 0) (.int .i64 (T.moved : Int)) (.int .i64 (T.n : Int)) hB T.a.length k  (by omega) (by omega) (by omega) (by omega)) ?_
 rintro _ w9 ⟨rfl, hF8⟩
 refine ⟨_, rfl, fun a h10 => ?_⟩
 have hsw9 := hF8.size
 have hF_11 := hF.new hF8
 have hB_12 := hB.fr0 hF8
 have hRA_13 := hRA.fr0 hF8
 have hK_14 := hK.fr0 hF8
 have hbl8 := bkt_lt T.seed k (n := T.a.length) (by omega)
 refine V.re h10 [] 1 0 [(7, .int .i64 ((bkt T.seed T.a.length k : Nat) : Int))] fun a h15 => k6 _ _ ?_
 obtain ⟨A18, c19, hv20⟩ := hK_14.getA hlA (i := (bkt T.seed T.a.length k)) (by omega) nilS
 have hS21 := hK_14.slA hlA (i := (bkt T.seed T.a.length k)) (by omega) hv20
 refine V.sg fun K16 k17 => ?_
 refine V.run h15 [(3, .b hB_12 1), (1, .ix gA 0 T.a.length T.a.length .i64 ((bkt T.seed T.a.length k : Nat) : Int) 1 rfl), (0, .l ⟨gA, 0 + ((bkt T.seed T.a.length k : Nat) : Int).toNat * 1, none⟩ (.slice A18 ((T.a.getD (bkt T.seed T.a.length k) []).length) c19) ((hRA_13.at (bkt T.seed T.a.length k) nilS (by omega)).trans (congrArg some hv20)))] 8 17 22 [(23, .slice A18 ((T.a.getD (bkt T.seed T.a.length k) []).length) c19), (24, .string k)] fun a h22 => ?_
 refine V.cl h22 (Go.Proofs.enters_of Try.func80 (by kernel_rfl) rfl) (rin_any w9 _ A18 c19 (T.a.getD (bkt T.seed T.a.length k) []) k hS21) ?_
 rintro _ w24 ⟨rfl, hF23⟩
 refine ⟨_, rfl, fun a h25 => ?_⟩
 have hsw24 := hF23.size
 have hF_26 := hF_11.new hF23
 have hB_27 := hB_12.fr0 hF23
 have hRA_28 := hRA_13.fr0 hF23
 have hK_29 := hK_14.fr0 hF23
 have hS21_30 := hS21.fr0 hF23
 have hix23 := ixI_lt (T.a.getD (bkt T.seed T.a.length k) []) k
 refine V.re h25 [] 1 0 [(8, .int .i64 (ixI (T.a.getD (bkt T.seed T.a.length k) []) k))] fun a h31 => k17 _ _ ?_
 refine V.seq fun K32 k33 => ?_
 refine V.sr h31 [] 26 26 [(27, .bool (decide ((ixI (T.a.getD (bkt T.seed T.a.length k) []) k) ≥ 0)))] fun a h36 => ?_
 refine V.cp h36 ((ixI (T.a.getD (bkt T.seed T.a.length k) []) k) ≥ 0) (fun ht37 => ?_) (fun ht37 => ?_)
 ·
  refine V.sr h36 [] 28 29 [(4, .int .i64 0), (5, .int .i64 ((bkt T.seed T.a.length k : Nat) : Int)), (6, .int .i64 (ixI (T.a.getD (bkt T.seed T.a.length k) []) k))] fun a h40 => ?_
  refine V.ret ?_
  refine V.then_r ?_
  refine V.r3 h40 (.int .i64 0) (.int .i64 ((bkt T.seed T.a.length k : Nat) : Int)) (.int .i64 (ixI (T.a.getD (bkt T.seed T.a.length k) []) k)) ?_
  refine ⟨?_, hF_26⟩
  have hr : rfT T k = (0, ((bkt T.seed T.a.length k : Nat) : Int), ixI (T.a.getD (bkt T.seed T.a.length k) []) k) := rfT_yes (by unfold findT; rw [if_pos (by omega)])
  rw [hr]
 ·
  refine V.skip ?_
  refine V.then_n (k33 _ _ ?_)
  refine V.seq fun K41 k42 => ?_
  refine V.sr h36 [(3, .b hB_27 2)] 30 34 [(35, .bool false)] fun a h45 => ?_
  refine V.cf h45 ?_
  refine V.skip ?_
  refine V.then_n (k42 _ _ ?_)
  refine V.sr h45 [] 1 0 [(4, .int .i64 (-1)), (5, .int .i64 0), (6, .int .i64 0)] fun a h48 => ?_
  refine V.ret ?_
  refine V.r3 h48 (.int .i64 (-1)) (.int .i64 0) (.int .i64 0) ?_
  refine ⟨?_, hF_26⟩
  have hr : rfT T k = ((-1), 0, 0) := rfT_no (by unfold findT; rw [if_neg (by omega), if_neg (by omega)])
  rw [hr]
set_option maxHeartbeats 4000000 in
set_option maxRecDepth 20000 in
theorem rfind_M (w : World) (H : Nat → Prop) (av : List Nat) (t gA gB : Nat) (vsA vsB : List Value) (T : Tb Int) (hok : T.Ok) (hT : TabM 40 42 60 itI w H av t gA gB vsA vsB T) (k : ByteArray) (hk : k.size ≤ 9223372036854775807) (hb : T.b.length ≠ 0) : Calls Try.prog 71 #[.pointer (some ⟨t, 0, none⟩), .string k] w (fun e w' => e = .returned (.tuple #[.int .i64 (rfT T k).1, .int .i64 (rfT T k).2.1, .int .i64 (rfT T k).2.2]) ∧ Fr [] w w') := by
 have hF := Fr.refl [] w
 obtain ⟨hsd, hpa, hla, hlb, hmv, hmz, hnn, hcn, hks⟩ := hok
 obtain ⟨hB, hRA, hRB, hlA, hlB, hK, hne, hne2, hne3, hpt, hpg, hph⟩ := hT
 have hltg2 := hRB.lt
 have hltt := hB.lt
 have hltg := hRA.lt
 refine V.en 57 Try.func71 fun a h1 => ?_
 refine V.sr h1 [] 4 6 [] fun a h4 => ?_
 refine V.sg fun K5 k6 => ?_
 refine V.run h4 [(4, .b hB 1)] 7 10 13 [(9, .pointer (some ⟨t, 0, none⟩)), (14, .int .i64 ((T.a.length : Nat) : Int)), (15, .string k)] fun a h7 => ?_
 refine V.cl h7 (Go.Proofs.enters_of Try.func72 (by kernel_rfl) rfl) (rbucket_blk w t T.seed (.slice (some ⟨gA, 0, none⟩) T.a.length T.a.length) (.slice (some ⟨gB, 0, none⟩) T.b.length T.b.length) (.int .i64 (T.moved : Int)) (.int .i64 (T.n : Int)) hB T.a.length k  (by omega) (by omega) (by omega) (by omega)) ?_
 rintro _ w9 ⟨rfl, hF8⟩
 refine ⟨_, rfl, fun a h10 => ?_⟩
 have hsw9 := hF8.size
 have hF_11 := hF.new hF8
 have hB_12 := hB.fr0 hF8
 have hRA_13 := hRA.fr0 hF8
 have hRB_14 := hRB.fr0 hF8
 have hK_15 := hK.fr0 hF8
 have hbl8 := bkt_lt T.seed k (n := T.a.length) (by omega)
 refine V.re h10 [] 1 0 [(7, .int .i64 ((bkt T.seed T.a.length k : Nat) : Int))] fun a h16 => k6 _ _ ?_
 obtain ⟨A19, c20, hv21⟩ := hK_15.getA hlA (i := (bkt T.seed T.a.length k)) (by omega) nilS
 have hS22 := hK_15.slA hlA (i := (bkt T.seed T.a.length k)) (by omega) hv21
 refine V.sg fun K17 k18 => ?_
 refine V.run h16 [(3, .b hB_12 1), (1, .ix gA 0 T.a.length T.a.length .i64 ((bkt T.seed T.a.length k : Nat) : Int) 1 rfl), (0, .l ⟨gA, 0 + ((bkt T.seed T.a.length k : Nat) : Int).toNat * 1, none⟩ (.slice A19 ((T.a.getD (bkt T.seed T.a.length k) []).length) c20) ((hRA_13.at (bkt T.seed T.a.length k) nilS (by omega)).trans (congrArg some hv21)))] 8 17 22 [(23, .slice A19 ((T.a.getD (bkt T.seed T.a.length k) []).length) c20), (24, .string k)] fun a h23 => ?_
 refine V.cl h23 (Go.Proofs.enters_of Try.func80 (by kernel_rfl) rfl) (rin_any w9 _ A19 c20 (T.a.getD (bkt T.seed T.a.length k) []) k hS22) ?_
 rintro _ w25 ⟨rfl, hF24⟩
 refine ⟨_, rfl, fun a h26 => ?_⟩
 have hsw25 := hF24.size
 have hF_27 := hF_11.new hF24
 have hB_28 := hB_12.fr0 hF24
 have hRA_29 := hRA_13.fr0 hF24
 have hRB_30 := hRB_14.fr0 hF24
 have hK_31 := hK_15.fr0 hF24
 have hS22_32 := hS22.fr0 hF24
 have hix24 := ixI_lt (T.a.getD (bkt T.seed T.a.length k) []) k
 refine V.re h26 [] 1 0 [(8, .int .i64 (ixI (T.a.getD (bkt T.seed T.a.length k) []) k))] fun a h33 => k18 _ _ ?_
 refine V.seq fun K34 k35 => ?_
 refine V.sr h33 [] 26 26 [(27, .bool (decide ((ixI (T.a.getD (bkt T.seed T.a.length k) []) k) ≥ 0)))] fun a h38 => ?_
 refine V.cp h38 ((ixI (T.a.getD (bkt T.seed T.a.length k) []) k) ≥ 0) (fun ht39 => ?_) (fun ht39 => ?_)
 ·
  refine V.sr h38 [] 28 29 [(4, .int .i64 0), (5, .int .i64 ((bkt T.seed T.a.length k : Nat) : Int)), (6, .int .i64 (ixI (T.a.getD (bkt T.seed T.a.length k) []) k))] fun a h42 => ?_
  refine V.ret ?_
  refine V.then_r ?_
  refine V.r3 h42 (.int .i64 0) (.int .i64 ((bkt T.seed T.a.length k : Nat) : Int)) (.int .i64 (ixI (T.a.getD (bkt T.seed T.a.length k) []) k)) ?_
  refine ⟨?_, hF_27⟩
  have hr : rfT T k = (0, ((bkt T.seed T.a.length k : Nat) : Int), ixI (T.a.getD (bkt T.seed T.a.length k) []) k) := rfT_yes (by unfold findT; rw [if_pos (by omega)])
  rw [hr]
 ·
  refine V.skip ?_
  refine V.then_n (k35 _ _ ?_)
  refine V.seq fun K43 k44 => ?_
  refine V.sr h38 [(3, .b hB_28 2)] 30 34 [(35, .bool (decide (((T.b.length : Nat) : Int) > 0)))] fun a h47 => ?_
  refine V.cp h47 (((T.b.length : Nat) : Int) > 0) (fun ht48 => ?_) (fun ht48 => ?_)
  ·
   refine V.sg fun K49 k50 => ?_
   refine V.run h47 [(4, .b hB_28 2)] 7 37 40 [(36, .pointer (some ⟨t, 0, none⟩)), (41, .int .i64 ((T.b.length : Nat) : Int)), (42, .string k)] fun a h51 => ?_
   refine V.cl h51 (Go.Proofs.enters_of Try.func72 (by kernel_rfl) rfl) (rbucket_blk w25 t T.seed (.slice (some ⟨gA, 0, none⟩) T.a.length T.a.length) (.slice (some ⟨gB, 0, none⟩) T.b.length T.b.length) (.int .i64 (T.moved : Int)) (.int .i64 (T.n : Int)) hB_28 T.b.length k  (by omega) (by omega) (by omega) (by omega)) ?_
   rintro _ w53 ⟨rfl, hF52⟩
   refine ⟨_, rfl, fun a h54 => ?_⟩
   have hsw53 := hF52.size
   have hF_55 := hF_27.new hF52
   have hB_56 := hB_28.fr0 hF52
   have hRA_57 := hRA_29.fr0 hF52
   have hRB_58 := hRB_30.fr0 hF52
   have hK_59 := hK_31.fr0 hF52
   have hS22_60 := hS22_32.fr0 hF52
   have hbl52 := bkt_lt T.seed k (n := T.b.length) (by omega)
   refine V.re h54 [] 1 0 [(7, .int .i64 ((bkt T.seed T.b.length k : Nat) : Int))] fun a h61 => k50 _ _ ?_
   obtain ⟨A64, c65, hv66⟩ := hK_59.getB hlA (i := (bkt T.seed T.b.length k)) (by omega) nilS
   have hS67 := hK_59.slB hlA (i := (bkt T.seed T.b.length k)) (by omega) hv66
   refine V.sg fun K62 k63 => ?_
   refine V.run h61 [(3, .b hB_56 2), (1, .ix gB 0 T.b.length T.b.length .i64 ((bkt T.seed T.b.length k : Nat) : Int) 1 rfl), (0, .l ⟨gB, 0 + ((bkt T.seed T.b.length k : Nat) : Int).toNat * 1, none⟩ (.slice A64 ((T.b.getD (bkt T.seed T.b.length k) []).length) c65) ((hRB_58.at (bkt T.seed T.b.length k) nilS (by omega)).trans (congrArg some hv66)))] 8 44 49 [(50, .slice A64 ((T.b.getD (bkt T.seed T.b.length k) []).length) c65), (51, .string k)] fun a h68 => ?_
   refine V.cl h68 (Go.Proofs.enters_of Try.func80 (by kernel_rfl) rfl) (rin_any w53 _ A64 c65 (T.b.getD (bkt T.seed T.b.length k) []) k hS67) ?_
   rintro _ w70 ⟨rfl, hF69⟩
   refine ⟨_, rfl, fun a h71 => ?_⟩
   have hsw70 := hF69.size
   have hF_72 := hF_55.new hF69
   have hB_73 := hB_56.fr0 hF69
   have hRA_74 := hRA_57.fr0 hF69
   have hRB_75 := hRB_58.fr0 hF69
   have hK_76 := hK_59.fr0 hF69
   have hS22_77 := hS22_60.fr0 hF69
   have hS67_78 := hS67.fr0 hF69
   have hix69 := ixI_lt (T.b.getD (bkt T.seed T.b.length k) []) k
   refine V.re h71 [] 1 0 [(8, .int .i64 (ixI (T.b.getD (bkt T.seed T.b.length k) []) k))] fun a h79 => k63 _ _ ?_
   have h80 := h79.only [(7, .int .i64 ((bkt T.seed T.b.length k : Nat) : Int)), (8, .int .i64 (ixI (T.b.getD (bkt T.seed T.b.length k) []) k))]
   refine V.sr h80 [] 53 53 [(54, .bool (decide ((ixI (T.b.getD (bkt T.seed T.b.length k) []) k) ≥ 0)))] fun a h83 => ?_
   refine V.cp h83 ((ixI (T.b.getD (bkt T.seed T.b.length k) []) k) ≥ 0) (fun ht84 => ?_) (fun ht84 => ?_)
   ·
    refine V.sr h83 [] 55 56 [(4, .int .i64 1), (5, .int .i64 ((bkt T.seed T.b.length k : Nat) : Int)), (6, .int .i64 (ixI (T.b.getD (bkt T.seed T.b.length k) []) k))] fun a h87 => ?_
    refine V.ret ?_
    refine V.then_r ?_
    refine V.r3 h87 (.int .i64 1) (.int .i64 ((bkt T.seed T.b.length k : Nat) : Int)) (.int .i64 (ixI (T.b.getD (bkt T.seed T.b.length k) []) k)) ?_
    refine ⟨?_, hF_72⟩
    have hr : rfT T k = (1, ((bkt T.seed T.b.length k : Nat) : Int), ixI (T.b.getD (bkt T.seed T.b.length k) []) k) := rfT_yes (by unfold findT; rw [if_neg (by omega), if_pos ⟨by omega, by omega⟩])
    rw [hr]
   ·
    refine V.skip ?_
    refine V.then_n (k44 _ _ ?_)
    refine V.sr h83 [] 1 0 [(4, .int .i64 (-1)), (5, .int .i64 0), (6, .int .i64 0)] fun a h90 => ?_
    refine V.ret ?_
    refine V.r3 h90 (.int .i64 (-1)) (.int .i64 0) (.int .i64 0) ?_
    refine ⟨?_, hF_72⟩
    have hr : rfT T k = ((-1), 0, 0) := rfT_no (by unfold findT; rw [if_neg (by omega), if_neg (by omega)])
    rw [hr]
  ·
   refine V.skip ?_
   refine V.then_n (k44 _ _ ?_)
   refine V.sr h47 [] 1 0 [(4, .int .i64 (-1)), (5, .int .i64 0), (6, .int .i64 0)] fun a h93 => ?_
   refine V.ret ?_
   refine V.r3 h93 (.int .i64 (-1)) (.int .i64 0) (.int .i64 0) ?_
   refine ⟨?_, hF_27⟩
   have hr : rfT T k = ((-1), 0, 0) := rfT_no (by unfold findT; rw [if_neg (by omega), if_neg (by omega)])
   rw [hr]
end Go.Proofs.Ytalhmegjomfbaaa
