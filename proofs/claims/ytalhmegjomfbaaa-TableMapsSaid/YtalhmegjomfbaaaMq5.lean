/- Joined texts: STb, STc, STd, STe, STf, STi, STj, TabK, La, Cat. -/
import Derived.Test.YtalhmegjomfbaaaProg
import Derived.Test.YtalhmegjomfbaaaMq4
section
namespace Go.Proofs.Ytalhmegjomfbaaa.S
open Go.V Go.Base
open Go.RowKit (Below)
attribute [local irreducible] Act.put Act.eval
set_option linter.unusedVariables false
set_option linter.unusedSimpArgs false
theorem info93 : (Try.prog.info? 93).map (fun i => (i.zero, i.size, i.bytes)) = some (some (.agg #[.string ⟨#[]⟩, .string ⟨#[]⟩]), 2, 32) := by kernel_rfl
theorem info94 : (Try.prog.info? 94).map (fun i => (i.zero, i.size, i.bytes)) = some (some (.slice none 0 0), 1, 24) := by kernel_rfl
def itI : Rp (ByteArray × ByteArray) := Rp.flat (⟨#[]⟩, ⟨#[]⟩) 2 (fun x => [.string x.1, .string x.2]) (fun _ => rfl) (fun x u hu => by simp at hu; rcases hu with rfl | rfl <;> rfl)
set_option maxHeartbeats 4000000 in
set_option maxRecDepth 20000 in
theorem made_N (w : World) (t : Nat) (seed n0 n1 c1 gA gB : Nat) (m1 m2 : Value) (hB : Blk w t [.int .u64 (seed : Int), .slice (some ⟨gA, 0, none⟩) n0 n0, .slice none 0 0, m1, m2] 91) : Calls Try.prog 54 #[.pointer (some ⟨t, 0, none⟩)] w (fun e w' => e = .returned (.bool true) ∧ Fr [] w w') := by
 have hF := Fr.refl [] w
 refine V.en 13 Try.func54 fun a h1 => ?_
 refine V.sr h1 [] 2 2 [] fun a h4 => ?_
 refine V.sr h4 [(7, .b hB 1)] 3 12 [(2, .bool true)] fun a h7 => ?_
 refine V.ret ?_
 refine V.r1 h7 (.bool true) ?_
 exact ⟨rfl, hF⟩
set_option maxHeartbeats 4000000 in
set_option maxRecDepth 20000 in
theorem made_M (w : World) (t : Nat) (seed n0 n1 c1 gA gB : Nat) (m1 m2 : Value) (hB : Blk w t [.int .u64 (seed : Int), .slice (some ⟨gA, 0, none⟩) n0 n0, .slice (some ⟨gB, 0, none⟩) n1 n1, m1, m2] 91) : Calls Try.prog 54 #[.pointer (some ⟨t, 0, none⟩)] w (fun e w' => e = .returned (.bool true) ∧ Fr [] w w') := by
 have hF := Fr.refl [] w
 refine V.en 13 Try.func54 fun a h1 => ?_
 refine V.sr h1 [] 2 2 [] fun a h4 => ?_
 refine V.sr h4 [(7, .b hB 1)] 3 12 [(2, .bool true)] fun a h7 => ?_
 refine V.ret ?_
 refine V.r1 h7 (.bool true) ?_
 exact ⟨rfl, hF⟩
set_option maxHeartbeats 4000000 in
set_option maxRecDepth 20000 in
theorem moves_N (w : World) (t : Nat) (seed n0 n1 c1 gA gB : Nat) (m1 m2 : Value) (hB : Blk w t [.int .u64 (seed : Int), .slice (some ⟨gA, 0, none⟩) n0 n0, .slice none 0 0, m1, m2] 91) : Calls Try.prog 57 #[.pointer (some ⟨t, 0, none⟩)] w (fun e w' => e = .returned (.bool false) ∧ Fr [] w w') := by
 have hF := Fr.refl [] w
 refine V.en 9 Try.func57 fun a h1 => ?_
 refine V.sr h1 [] 2 2 [] fun a h4 => ?_
 refine V.sr h4 [(4, .b hB 2)] 3 8 [(2, .bool false)] fun a h7 => ?_
 refine V.ret ?_
 refine V.r1 h7 (.bool false) ?_
 exact ⟨rfl, hF⟩
set_option maxHeartbeats 4000000 in
set_option maxRecDepth 20000 in
theorem moves_M (w : World) (t : Nat) (seed n0 n1 c1 gA gB : Nat) (m1 m2 : Value) (hB : Blk w t [.int .u64 (seed : Int), .slice (some ⟨gA, 0, none⟩) n0 n0, .slice (some ⟨gB, 0, none⟩) n1 n1, m1, m2] 91) : Calls Try.prog 57 #[.pointer (some ⟨t, 0, none⟩)] w (fun e w' => e = .returned (.bool true) ∧ Fr [] w w') := by
 have hF := Fr.refl [] w
 refine V.en 9 Try.func57 fun a h1 => ?_
 refine V.sr h1 [] 2 2 [] fun a h4 => ?_
 refine V.sr h4 [(4, .b hB 2)] 3 8 [(2, .bool true)] fun a h7 => ?_
 refine V.ret ?_
 refine V.r1 h7 (.bool true) ?_
 exact ⟨rfl, hF⟩
set_option maxHeartbeats 4000000 in
set_option maxRecDepth 20000 in
theorem bucket_N0 (w : World) (t : Nat) (seed n0 n1 c1 gA gB : Nat) (m1 m2 : Value) (hB : Blk w t [.int .u64 (seed : Int), .slice (some ⟨gA, 0, none⟩) n0 n0, .slice none 0 0, m1, m2] 91) (k : ByteArray) (hsd : seed < 18446744073709551616) (hk : k.size ≤ 9223372036854775807) (hn : 0 < n0) (hn2 : n0 ≤ 4398046511104) : Calls Try.prog 58 #[.pointer (some ⟨t, 0, none⟩), .int .i64 0, .string k] w (fun e w' => e = .returned (.int .i64 ((bkt seed n0 k : Nat) : Int)) ∧ Fr [] w w') := by
 have hF := Fr.refl [] w
 have hbk := bkt_lt seed k hn
 refine V.en 23 Try.func58 fun a h1 => ?_
 refine V.sr h1 [] 6 6 [] fun a h4 => ?_
 refine V.seq fun K5 k6 => ?_
 refine V.pl [([0,1,2,3,4,6,7,8,9,10,11,12,13],some (5,[11])),([14,15,16],none)] fun w7 hF8 hsw7 => ?_
 have hF_9 := hF.new hF8
 have hB_10 := hB.fr0 hF8
 refine V.pe h4 [(3, .b hB_10 0), (6, .b hB_10 1), (1, .q (.int .u64 ((n0 : Nat) : Int)) (V.w_u64 (by omega) (by omega)))] 7 19 [(10, .int .u64 (seed : Int)), (11, .string k), (17, .pointer (some ⟨t, 1, none⟩)), (20, .int .u64 ((n0 : Nat) : Int))] fun a h11 => ?_
 refine V.cl h11 (Go.Proofs.enters_of Try.func11 (by kernel_rfl) rfl) (hash_any w7 seed k (by omega) (by omega)) ?_
 rintro _ w13 ⟨rfl, hF12⟩
 refine ⟨_, rfl, fun a h14 => ?_⟩
 have hsw13 := hF12.size
 have hF_15 := hF_9.new hF12
 have hB_16 := hB_10.fr0 hF12
 have hhl12 := hashN_lt (seed := seed) (by omega) k
 refine V.eh (fun _ => held_blk (n := 1) (hx := (h11.e (v := (.pointer (some ⟨t, 1, none⟩))))) hB_10 hB_16 (by kernel_rfl) rfl (by simp only [List.length]; omega)) ?_
 refine V.pz h14 [(0, .remN .u64 (hashN seed k) n0), (0, .q (.int .i64 ((bkt seed n0 k : Nat) : Int)) (V.w_i64 (by omega) (by omega)))] 21 22 [(6, .int .i64 ((bkt seed n0 k : Nat) : Int))] fun a h17 => k6 _ _ ?_
 refine V.ret ?_
 refine V.r1 h17 (.int .i64 ((bkt seed n0 k : Nat) : Int)) ?_
 exact ⟨rfl, hF_15⟩
set_option maxHeartbeats 4000000 in
set_option maxRecDepth 20000 in
theorem bucket_M0 (w : World) (t : Nat) (seed n0 n1 c1 gA gB : Nat) (m1 m2 : Value) (hB : Blk w t [.int .u64 (seed : Int), .slice (some ⟨gA, 0, none⟩) n0 n0, .slice (some ⟨gB, 0, none⟩) n1 n1, m1, m2] 91) (k : ByteArray) (hsd : seed < 18446744073709551616) (hk : k.size ≤ 9223372036854775807) (hn : 0 < n0) (hn2 : n0 ≤ 4398046511104) : Calls Try.prog 58 #[.pointer (some ⟨t, 0, none⟩), .int .i64 0, .string k] w (fun e w' => e = .returned (.int .i64 ((bkt seed n0 k : Nat) : Int)) ∧ Fr [] w w') := by
 have hF := Fr.refl [] w
 have hbk := bkt_lt seed k hn
 refine V.en 23 Try.func58 fun a h1 => ?_
 refine V.sr h1 [] 6 6 [] fun a h4 => ?_
 refine V.seq fun K5 k6 => ?_
 refine V.pl [([0,1,2,3,4,6,7,8,9,10,11,12,13],some (5,[11])),([14,15,16],none)] fun w7 hF8 hsw7 => ?_
 have hF_9 := hF.new hF8
 have hB_10 := hB.fr0 hF8
 refine V.pe h4 [(3, .b hB_10 0), (6, .b hB_10 1), (1, .q (.int .u64 ((n0 : Nat) : Int)) (V.w_u64 (by omega) (by omega)))] 7 19 [(10, .int .u64 (seed : Int)), (11, .string k), (17, .pointer (some ⟨t, 1, none⟩)), (20, .int .u64 ((n0 : Nat) : Int))] fun a h11 => ?_
 refine V.cl h11 (Go.Proofs.enters_of Try.func11 (by kernel_rfl) rfl) (hash_any w7 seed k (by omega) (by omega)) ?_
 rintro _ w13 ⟨rfl, hF12⟩
 refine ⟨_, rfl, fun a h14 => ?_⟩
 have hsw13 := hF12.size
 have hF_15 := hF_9.new hF12
 have hB_16 := hB_10.fr0 hF12
 have hhl12 := hashN_lt (seed := seed) (by omega) k
 refine V.eh (fun _ => held_blk (n := 1) (hx := (h11.e (v := (.pointer (some ⟨t, 1, none⟩))))) hB_10 hB_16 (by kernel_rfl) rfl (by simp only [List.length]; omega)) ?_
 refine V.pz h14 [(0, .remN .u64 (hashN seed k) n0), (0, .q (.int .i64 ((bkt seed n0 k : Nat) : Int)) (V.w_i64 (by omega) (by omega)))] 21 22 [(6, .int .i64 ((bkt seed n0 k : Nat) : Int))] fun a h17 => k6 _ _ ?_
 refine V.ret ?_
 refine V.r1 h17 (.int .i64 ((bkt seed n0 k : Nat) : Int)) ?_
 exact ⟨rfl, hF_15⟩
set_option maxHeartbeats 4000000 in
set_option maxRecDepth 20000 in
theorem bucket_M1 (w : World) (t : Nat) (seed n0 n1 c1 gA gB : Nat) (m1 m2 : Value) (hB : Blk w t [.int .u64 (seed : Int), .slice (some ⟨gA, 0, none⟩) n0 n0, .slice (some ⟨gB, 0, none⟩) n1 n1, m1, m2] 91) (k : ByteArray) (hsd : seed < 18446744073709551616) (hk : k.size ≤ 9223372036854775807) (hn : 0 < n1) (hn2 : n1 ≤ 4398046511104) : Calls Try.prog 58 #[.pointer (some ⟨t, 0, none⟩), .int .i64 1, .string k] w (fun e w' => e = .returned (.int .i64 ((bkt seed n1 k : Nat) : Int)) ∧ Fr [] w w') := by
 have hF := Fr.refl [] w
 have hbk := bkt_lt seed k hn
 refine V.en 23 Try.func58 fun a h1 => ?_
 refine V.sr h1 [] 6 6 [] fun a h4 => ?_
 refine V.seq fun K5 k6 => ?_
 refine V.pl [([0,1,2,3,4,6,7,8,9,10,11,12,13],some (5,[11])),([14,15,16],none)] fun w7 hF8 hsw7 => ?_
 have hF_9 := hF.new hF8
 have hB_10 := hB.fr0 hF8
 refine V.pe h4 [(3, .b hB_10 0), (6, .b hB_10 2), (1, .q (.int .u64 ((n1 : Nat) : Int)) (V.w_u64 (by omega) (by omega)))] 7 19 [(10, .int .u64 (seed : Int)), (11, .string k), (17, .pointer (some ⟨t, 2, none⟩)), (20, .int .u64 ((n1 : Nat) : Int))] fun a h11 => ?_
 refine V.cl h11 (Go.Proofs.enters_of Try.func11 (by kernel_rfl) rfl) (hash_any w7 seed k (by omega) (by omega)) ?_
 rintro _ w13 ⟨rfl, hF12⟩
 refine ⟨_, rfl, fun a h14 => ?_⟩
 have hsw13 := hF12.size
 have hF_15 := hF_9.new hF12
 have hB_16 := hB_10.fr0 hF12
 have hhl12 := hashN_lt (seed := seed) (by omega) k
 refine V.eh (fun _ => held_blk (n := 1) (hx := (h11.e (v := (.pointer (some ⟨t, 2, none⟩))))) hB_10 hB_16 (by kernel_rfl) rfl (by simp only [List.length]; omega)) ?_
 refine V.pz h14 [(0, .remN .u64 (hashN seed k) n1), (0, .q (.int .i64 ((bkt seed n1 k : Nat) : Int)) (V.w_i64 (by omega) (by omega)))] 21 22 [(6, .int .i64 ((bkt seed n1 k : Nat) : Int))] fun a h17 => k6 _ _ ?_
 refine V.ret ?_
 refine V.r1 h17 (.int .i64 ((bkt seed n1 k : Nat) : Int)) ?_
 exact ⟨rfl, hF_15⟩
set_option maxHeartbeats 4000000 in
set_option maxRecDepth 20000 in
theorem find1_any (w : World) (kb : Nat) (x : ByteArray) (v : ByteArray) (k : ByteArray) (hB : Blk w kb [.string k] 9) : Calls Try.prog 77 #[.agg #[.string x, .string v], .pointer (some ⟨kb, 0, none⟩)] w (fun e w' => e = .returned (.bool (decide (x = k))) ∧ Fr [] w w') := by
 have hF := Fr.refl [] w
 refine V.en 8 Try.func77 fun a h1 => ?_
 refine V.sg fun K2 k3 => ?_
 refine V.go (V.mk [(0, .agg #[.string x, .string v])] ⟨h1.e, trivial⟩ (by kernel_rfl) [.string x, .string v] 93 (fun b => .pointer (some ⟨b, 0, none⟩)) (by kernel_rfl) ?_)
 intro w5 b4 heb4 hB6 hF7 hsb4
 have hF_8 := hF.new hF7
 have hB_9 := hB.fr0 hF7
 refine V.pt h1 fun a h10 => ?_
 refine V.re h10 [] 3 3 [] fun a h11 => k3 _ _ ?_
 refine V.sr h11 [(1, .b hB6 0), (0, .b hB_9 0), (0, .seq x k)] 4 7 [(3, .bool (decide (x = k)))] fun a h14 => ?_
 refine V.ret ?_
 refine V.r1 h14 (.bool (decide (x = k))) ?_
 exact ⟨congrArg Ending.returned (congrArg Value.bool rfl), hF_8⟩
set_option maxHeartbeats 4000000 in
set_option maxRecDepth 20000 in
theorem ixf_any (w : World) (Z : Nat → Prop) (A0 : Option Addr) (c0 kb : Nat) (l : List (ByteArray × ByteArray)) (k : ByteArray) (hS : SlR itI Z w (.slice A0 l.length c0) l) (hB : Blk w kb [.string k] 9) : Calls Try.prog 76 #[.slice A0 l.length c0, .func (.func 77) #[] #[.pointer (some ⟨kb, 0, none⟩)]] w (fun e w' => e = .returned (.int .i64 (ixI l k)) ∧ Fr [] w w') := by
 have hF := Fr.refl [] w
 have hlen0 := hS.len_le
 refine V.en 19 Try.func76 fun a h1 => ?_
 refine V.sr h1 [] 4 4 [] fun a h4 => ?_
 refine V.seq fun K5 k6 => ?_
 refine V.sr h4 [] 6 6 [(7, .int .i64 ((l.length : Nat) : Int)), (8, .int .i64 0)] fun a h9 => ?_
 refine V.block ?_
 refine V.loop1 (fun (i : Nat) a_ w_ => En 19 [] a_ [(0, .slice A0 l.length c0), (1, .func (.func 77) #[] #[.pointer (some ⟨kb, 0, none⟩)]), (7, .int .i64 ((l.length : Nat) : Int)), (8, .int .i64 (i : Int))] ∧ Fr [] w w_ ∧ SlR itI Z w_ (.slice A0 l.length c0) l ∧ Blk w_ kb [.string k] 9 ∧ (i ≤ l.length) ∧ (∀ (j : Nat) (x : ByteArray × ByteArray), j < i → l[j]? = some x → x.1 ≠ k)) (fun (i : Nat) => l.length - i) 0 ?_ ?_
 ·
  refine ⟨(h9.eq 8 (v := (.int .i64 0)) (u := (.int .i64 (0 : Int))) (V.int_eq (by omega))).only _, hF, hS, hB, (by omega), (fun j x hj => by omega)⟩
 ·
  rintro i a10 w11 ⟨h12, hF_13, hS_14, hB_15, hi, hmiss⟩
  have hfs16 := hF_13.size
  have hlt17 := hB_15.lt
  refine V.sr h12 [] 1 0 [(9, .bool (decide ((i : Int) < ((l.length : Nat) : Int))))] fun a h20 => ?_
  refine V.seq fun K21 k22 => ?_
  refine V.cp h20 ((i : Int) < ((l.length : Nat) : Int)) (fun ht23 => ?_) (fun ht23 => ?_)
  ·
   refine V.skip ?_
   refine V.then_n (k22 _ _ ?_)
   refine V.seq fun K24 k25 => ?_
   refine V.block ?_
   refine V.sr h20 [] 10 10 [(5, .int .i64 (i : Int))] fun a h28 => ?_
   obtain ⟨g31, o32, hA33, hA33l, hA33z⟩ := hS_14.addr (by omega)
   obtain ⟨cs34, hok35, hE36⟩ := hS_14.els hA33 (i : Int) (by omega) (by omega)
   refine V.sg fun K29 k30 => ?_
   refine V.run h28 [(3, .ix g31 o32 l.length c0 .i64 (i : Int) 2 hA33)] 4 12 13 [(11, .func (.func 77) #[] #[.pointer (some ⟨kb, 0, none⟩)]), (14, .pointer (some ⟨g31, o32 + (i : Int).toNat * 2, none⟩))] fun a h37 => ?_
   obtain rfl : cs34 = [.string (at_ itI l (i : Int)).1, .string (at_ itI l (i : Int)).2] := hok35
   refine V.run h37 [(0, .ls ⟨g31, o32 + (i : Int).toNat * 2, none⟩ [.string ((at_ itI l (i : Int)).1), .string ((at_ itI l (i : Int)).2)] (hE36.cells 0 _ rfl))] 1 1 0 [(15, .agg #[.string ((at_ itI l (i : Int)).1), .string ((at_ itI l (i : Int)).2)])] fun a h38 => ?_
   refine V.cl h38 (Go.Proofs.enters_of Try.func77 (by kernel_rfl) rfl) (find1_any w11 kb ((at_ itI l (i : Int)).1) ((at_ itI l (i : Int)).2) k hB_15) ?_
   rintro _ w40 ⟨rfl, hF39⟩
   refine ⟨_, rfl, fun a h41 => ?_⟩
   have hsw40 := hF39.size
   have hF_42 := hF_13.new hF39
   have hS_43 := hS_14.fr0 hF39
   have hB_44 := hB_15.fr0 hF39
   refine V.nt (k30 _ _ ?_)
   refine V.cp h41 (((at_ itI l (i : Int)).1) = k) (fun ht46 => ?_) (fun ht46 => ?_)
   ·
    refine V.sr h41 [] 17 17 [(4, .int .i64 (i : Int))] fun a h49 => ?_
    refine V.ret ?_
    refine V.blk_r ?_
    refine V.then_r ?_
    refine V.then_r ?_
    refine V.blk_r ?_
    refine V.then_r ?_
    refine V.r1 h49 (.int .i64 (i : Int)) ?_
    exact ⟨congrArg Ending.returned (int_eq (hit_end itI hmiss (by omega) ht46).symm), hF_42⟩
   ·
    refine V.skip ?_
    refine V.blk_n ?_
    refine V.then_n (k25 _ _ ?_)
    refine V.rr h41 [(0, .i ((i : Int) + 1))] 18 18 [(8, .int .i64 ((i : Int) + 1))] fun a h50 => ?_
    refine V.then_n ?_
    refine ⟨i + 1, by omega, ?_⟩
    refine ⟨(h50.eq 8 (v := (.int .i64 ((i : Int) + 1))) (u := (.int .i64 ((i + 1) : Int))) (V.int_eq (by omega))).only _, hF_42, hS_43, hB_44, (by omega), (miss_step itI hmiss (by omega) ht46)⟩
  ·
   refine V.exit ?_
   refine V.then_e ?_
   refine V.then_e ?_
   refine V.blk_hit ?_
   refine V.then_n (k6 _ _ ?_)
   refine V.sr h20 [] 1 0 [(4, .int .i64 (-1))] fun a h53 => ?_
   refine V.ret ?_
   refine V.r1 h53 (.int .i64 (-1)) ?_
   exact ⟨congrArg Ending.returned (int_eq (miss_end hmiss (by omega)).symm), hF_13⟩
set_option maxHeartbeats 4000000 in
set_option maxRecDepth 20000 in
theorem find_N (w : World) (H : Nat → Prop) (av : List Nat) (t gA : Nat) (vsA : List Value) (T : Tb ByteArray) (hok : T.Ok) (hT : TabN 91 94 93 itI w H av t gA vsA T) (k : ByteArray) (hk : k.size ≤ 9223372036854775807) (hb : T.b.length = 0) : Calls Try.prog 56 #[.pointer (some ⟨t, 0, none⟩), .string k] w (fun e w' => e = .returned (.tuple #[.agg #[.int .i64 (findT T k).1.1, .int .i64 (findT T k).1.2.1, .int .i64 (findT T k).1.2.2], .bool (findT T k).2]) ∧ Fr [] w w') := by
 have hF := Fr.refl [] w
 obtain ⟨hsd, hpa, hla, hlb, hmv, hmz, hnn, hcn, hks⟩ := hok
 obtain ⟨hB, hRA, hlA, hK, hne, hpt, hpg⟩ := hT
 have hltt := hB.lt
 have hltg := hRA.lt
 refine V.en 42 Try.func56 fun a h1 => ?_
 refine V.sg fun K2 k3 => ?_
 refine V.go (V.mk [(1, .string k)] ⟨h1.e, trivial⟩ (by kernel_rfl) [.string k] 9 (fun b => .pointer (some ⟨b, 0, none⟩)) (by kernel_rfl) ?_)
 intro w5 b4 heb4 hB6 hF7 hsb4
 have hF_8 := hF.new hF7
 have hB_9 := hB.fr0 hF7
 have hRA_10 := hRA.fr0 hF7
 have hK_11 := hK.alloc hF7 heb4 (by omega)
 refine V.pt h1 fun a h12 => ?_
 refine V.go (V.mk [] trivial (by kernel_rfl) [.int .i64 0, .int .i64 0, .int .i64 0] 82 (fun b => .pointer (some ⟨b, 0, none⟩)) (by kernel_rfl) ?_)
 intro w14 b13 heb13 hB15 hF16 hsb13
 have hF_17 := hF_8.new hF16
 have hB_18 := hB_9.fr0 hF16
 have hRA_19 := hRA_10.fr0 hF16
 have hK_20 := hK_11.alloc hF16 heb13 (by omega)
 have hB6_21 := hB6.fr0 hF16
 refine V.pt h12 fun a h22 => ?_
 refine V.re h22 [] 5 5 [] fun a h23 => k3 _ _ ?_
 refine V.seq fun K24 k25 => ?_
 refine V.sr h23 [] 1 0 [(9, .int .i64 0)] fun a h28 => ?_
 refine V.block ?_
 refine V.loopR 3 ?_
 refine V.rnd ?_
 refine V.sr h28 [] 1 0 [(10, .bool true)] fun a h31 => ?_
 refine V.seq fun K32 k33 => ?_
 refine V.ct h31 ?_
 refine V.skip ?_
 refine V.then_n (k33 _ _ ?_)
 refine V.seq fun K34 k35 => ?_
 refine V.block ?_
 refine V.sr h31 [] 11 11 [(6, .int .i64 0)] fun a h38 => ?_
 refine V.seq fun K39 k40 => ?_
 refine V.sr h38 [(5, .b hB_18 1)] 12 17 [(18, .bool false)] fun a h43 => ?_
 refine V.cf h43 ?_
 refine V.skip ?_
 refine V.then_n (k40 _ _ ?_)
 refine V.sg fun K44 k45 => ?_
 refine V.run h43 [(2, .b hB6_21 0)] 3 1 0 [(19, .pointer (some ⟨t, 0, none⟩)), (20, .int .i64 0), (21, .string k)] fun a h46 => ?_
 refine V.cl h46 (Go.Proofs.enters_of Try.func58 (by kernel_rfl) rfl) (bucket_N0 w14 t T.seed T.a.length 0 0 gA 0 (.int .i64 (T.moved : Int)) (.int .i64 (T.n : Int)) hB_18 k (by omega) (by omega) (by omega) (by omega)) ?_
 rintro _ w48 ⟨rfl, hF47⟩
 refine ⟨_, rfl, fun a h49 => ?_⟩
 have hsw48 := hF47.size
 have hF_50 := hF_17.new hF47
 have hB_51 := hB_18.fr0 hF47
 have hRA_52 := hRA_19.fr0 hF47
 have hK_53 := hK_20.fr0 hF47
 have hB6_54 := hB6_21.fr0 hF47
 have hB15_55 := hB15.fr0 hF47
 have hbl47 := bkt_lt T.seed k (n := T.a.length) (by omega)
 refine V.re h49 [] 1 0 [(7, .int .i64 ((bkt T.seed T.a.length k : Nat) : Int))] fun a h56 => k45 _ _ ?_
 obtain ⟨A59, c60, hv61⟩ := hK_53.getA hlA (i := (bkt T.seed T.a.length k)) (by omega) nilS
 have hS62 := hK_53.slA hlA (i := (bkt T.seed T.a.length k)) (by omega) hv61
 refine V.sg fun K57 k58 => ?_
 refine V.run h56 [(5, .b hB_51 1), (1, .ix gA 0 T.a.length T.a.length .i64 ((bkt T.seed T.a.length k : Nat) : Int) 1 rfl), (0, .l ⟨gA, 0 + ((bkt T.seed T.a.length k : Nat) : Int).toNat * 1, none⟩ (.slice A59 ((T.a.getD (bkt T.seed T.a.length k) []).length) c60) ((hRA_52.at (bkt T.seed T.a.length k) nilS (by omega)).trans (congrArg some hv61)))] 10 23 30 [(31, .slice A59 ((T.a.getD (bkt T.seed T.a.length k) []).length) c60), (32, .func (.func 77) #[] #[.pointer (some ⟨b4, 0, none⟩)])] fun a h63 => ?_
 refine V.cl h63 (Go.Proofs.enters_of Try.func76 (by kernel_rfl) rfl) (ixf_any w48 _ A59 c60 b4 (T.a.getD (bkt T.seed T.a.length k) []) k hS62 hB6_54) ?_
 rintro _ w65 ⟨rfl, hF64⟩
 refine ⟨_, rfl, fun a h66 => ?_⟩
 have hsw65 := hF64.size
 have hF_67 := hF_50.new hF64
 have hB_68 := hB_51.fr0 hF64
 have hB15_72 := hB15_55.fr0 hF64
 have hix64 := ixI_lt (T.a.getD (bkt T.seed T.a.length k) []) k
 refine V.re h66 [] 1 0 [(8, .int .i64 (ixI (T.a.getD (bkt T.seed T.a.length k) []) k))] fun a h74 => k58 _ _ ?_
 refine V.sr h74 [] 34 34 [(35, .bool (decide ((ixI (T.a.getD (bkt T.seed T.a.length k) []) k) ≥ 0)))] fun a h77 => ?_
 refine V.cp h77 ((ixI (T.a.getD (bkt T.seed T.a.length k) []) k) ≥ 0) (fun ht78 => ?_) (fun ht78 => ?_)
 ·
  refine V.sg fun K79 k80 => ?_
  refine V.run h77 [] 4 36 38 [(39, .agg #[.int .i64 0, .int .i64 ((bkt T.seed T.a.length k : Nat) : Int), .int .i64 (ixI (T.a.getD (bkt T.seed T.a.length k) []) k)])] fun a h84 => ?_
  refine V.go (V.stn b13 0 (.agg #[.int .i64 0, .int .i64 ((bkt T.seed T.a.length k : Nat) : Int), .int .i64 (ixI (T.a.getD (bkt T.seed T.a.length k) []) k)]) [.int .i64 0, .int .i64 ((bkt T.seed T.a.length k : Nat) : Int), .int .i64 (ixI (T.a.getD (bkt T.seed T.a.length k) []) k)] h84.e h84.e rfl rfl (by kernel_rfl) hB15_72 (by simp) [.int .i64 0, .int .i64 ((bkt T.seed T.a.length k : Nat) : Int), .int .i64 (ixI (T.a.getD (bkt T.seed T.a.length k) []) k)] rfl ?_)
  intro w81 hB82 hF83 hsw81
  have hF_85 := hF_67.own hF83 (by simp <;> omega)
  refine V.re h84 [] 1 0 [(5, .bool true)] fun a h90 => k80 _ _ ?_
  refine V.ret ?_
  refine V.blk_r ?_
  refine V.then_r ?_
  refine V.then_r ?_
  refine V.blk_r ?_
  refine V.then_r ?_
  refine V.retCT h90.sd rfl _ (h90.e (v := (.pointer (some ⟨b13, 0, none⟩)))) (V.run_loadVar_agg (cs := [.int .i64 0, .int .i64 ((bkt T.seed T.a.length k : Nat) : Int), .int .i64 (ixI (T.a.getD (bkt T.seed T.a.length k) []) k)]) (by kernel_rfl) (blk_cells hB82 0 _ rfl)) (h90.e (v := (.bool true))) ?_
  refine ⟨?_, hF_85⟩
  unfold findT
  rw [if_pos (by omega)]
 ·
  refine V.skip ?_
  refine V.blk_n ?_
  refine V.then_n (k35 _ _ ?_)
  refine V.rr h77 [] 40 40 [(9, .int .i64 1)] fun a h91 => ?_
  refine V.then_n ?_
  refine V.rnd ?_
  have h92 := h91.only [(0, .pointer (some ⟨t, 0, none⟩)), (3, .pointer (some ⟨b4, 0, none⟩)), (4, .pointer (some ⟨b13, 0, none⟩)), (9, .int .i64 1)]
  refine V.sr h92 [] 1 0 [(10, .bool true)] fun a h95 => ?_
  refine V.seq fun K96 k97 => ?_
  refine V.ct h95 ?_
  refine V.skip ?_
  refine V.then_n (k97 _ _ ?_)
  refine V.seq fun K98 k99 => ?_
  refine V.block ?_
  refine V.sr h95 [] 11 11 [(6, .int .i64 1)] fun a h102 => ?_
  refine V.seq fun K103 k104 => ?_
  refine V.sr h102 [(5, .b hB_68 2)] 12 17 [(18, .bool true)] fun a h107 => ?_
  refine V.ct h107 ?_
  refine V.exit ?_
  refine V.then_e ?_
  refine V.blk_hit ?_
  refine V.then_n (k99 _ _ ?_)
  refine V.rr h107 [] 40 40 [(9, .int .i64 2)] fun a h108 => ?_
  refine V.then_n ?_
  refine V.rnd ?_
  refine V.sr h108 [] 1 0 [(10, .bool false)] fun a h111 => ?_
  refine V.seq fun K112 k113 => ?_
  refine V.cf h111 ?_
  refine V.exit ?_
  refine V.then_e ?_
  refine V.then_e ?_
  refine V.blk_hit ?_
  refine V.then_n (k25 _ _ ?_)
  refine V.sg fun K114 k115 => ?_
  refine V.run h111 [] 1 1 0 [(41, .agg #[.int .i64 0, .int .i64 0, .int .i64 0])] fun a h119 => ?_
  refine V.go (V.stn b13 0 (.agg #[.int .i64 0, .int .i64 0, .int .i64 0]) [.int .i64 0, .int .i64 0, .int .i64 0] h119.e h119.e rfl rfl (by kernel_rfl) hB15_72 (by simp) [.int .i64 0, .int .i64 0, .int .i64 0] rfl ?_)
  intro w116 hB117 hF118 hsw116
  have hF_120 := hF_67.own hF118 (by simp <;> omega)
  refine V.re h119 [] 1 0 [(5, .bool false)] fun a h125 => k115 _ _ ?_
  refine V.ret ?_
  refine V.retCT h125.sd rfl _ (h125.e (v := (.pointer (some ⟨b13, 0, none⟩)))) (V.run_loadVar_agg (cs := [.int .i64 0, .int .i64 0, .int .i64 0]) (by kernel_rfl) (blk_cells hB117 0 _ rfl)) (h125.e (v := (.bool false))) ?_
  refine ⟨?_, hF_120⟩
  unfold findT
  rw [if_neg (by omega), if_neg (by omega)]
set_option maxHeartbeats 4000000 in
set_option maxRecDepth 20000 in
theorem find_M (w : World) (H : Nat → Prop) (av : List Nat) (t gA gB : Nat) (vsA vsB : List Value) (T : Tb ByteArray) (hok : T.Ok) (hT : TabM 91 94 93 itI w H av t gA gB vsA vsB T) (k : ByteArray) (hk : k.size ≤ 9223372036854775807) (hb : T.b.length ≠ 0) : Calls Try.prog 56 #[.pointer (some ⟨t, 0, none⟩), .string k] w (fun e w' => e = .returned (.tuple #[.agg #[.int .i64 (findT T k).1.1, .int .i64 (findT T k).1.2.1, .int .i64 (findT T k).1.2.2], .bool (findT T k).2]) ∧ Fr [] w w') := by
 have hF := Fr.refl [] w
 obtain ⟨hsd, hpa, hla, hlb, hmv, hmz, hnn, hcn, hks⟩ := hok
 obtain ⟨hB, hRA, hRB, hlA, hlB, hK, hne, hne2, hne3, hpt, hpg, hph⟩ := hT
 have hltg2 := hRB.lt
 have hltt := hB.lt
 have hltg := hRA.lt
 refine V.en 42 Try.func56 fun a h1 => ?_
 refine V.sg fun K2 k3 => ?_
 refine V.go (V.mk [(1, .string k)] ⟨h1.e, trivial⟩ (by kernel_rfl) [.string k] 9 (fun b => .pointer (some ⟨b, 0, none⟩)) (by kernel_rfl) ?_)
 intro w5 b4 heb4 hB6 hF7 hsb4
 have hF_8 := hF.new hF7
 have hB_9 := hB.fr0 hF7
 have hRA_10 := hRA.fr0 hF7
 have hRB_11 := hRB.fr0 hF7
 have hK_12 := hK.alloc hF7 heb4 (by omega)
 refine V.pt h1 fun a h13 => ?_
 refine V.go (V.mk [] trivial (by kernel_rfl) [.int .i64 0, .int .i64 0, .int .i64 0] 82 (fun b => .pointer (some ⟨b, 0, none⟩)) (by kernel_rfl) ?_)
 intro w15 b14 heb14 hB16 hF17 hsb14
 have hF_18 := hF_8.new hF17
 have hB_19 := hB_9.fr0 hF17
 have hRA_20 := hRA_10.fr0 hF17
 have hRB_21 := hRB_11.fr0 hF17
 have hK_22 := hK_12.alloc hF17 heb14 (by omega)
 have hB6_23 := hB6.fr0 hF17
 refine V.pt h13 fun a h24 => ?_
 refine V.re h24 [] 5 5 [] fun a h25 => k3 _ _ ?_
 refine V.seq fun K26 k27 => ?_
 refine V.sr h25 [] 1 0 [(9, .int .i64 0)] fun a h30 => ?_
 refine V.block ?_
 refine V.loopR 3 ?_
 refine V.rnd ?_
 refine V.sr h30 [] 1 0 [(10, .bool true)] fun a h33 => ?_
 refine V.seq fun K34 k35 => ?_
 refine V.ct h33 ?_
 refine V.skip ?_
 refine V.then_n (k35 _ _ ?_)
 refine V.seq fun K36 k37 => ?_
 refine V.block ?_
 refine V.sr h33 [] 11 11 [(6, .int .i64 0)] fun a h40 => ?_
 refine V.seq fun K41 k42 => ?_
 refine V.sr h40 [(5, .b hB_19 1)] 12 17 [(18, .bool false)] fun a h45 => ?_
 refine V.cf h45 ?_
 refine V.skip ?_
 refine V.then_n (k42 _ _ ?_)
 refine V.sg fun K46 k47 => ?_
 refine V.run h45 [(2, .b hB6_23 0)] 3 1 0 [(19, .pointer (some ⟨t, 0, none⟩)), (20, .int .i64 0), (21, .string k)] fun a h48 => ?_
 refine V.cl h48 (Go.Proofs.enters_of Try.func58 (by kernel_rfl) rfl) (bucket_M0 w15 t T.seed T.a.length T.b.length 0 gA gB (.int .i64 (T.moved : Int)) (.int .i64 (T.n : Int)) hB_19 k (by omega) (by omega) (by omega) (by omega)) ?_
 rintro _ w50 ⟨rfl, hF49⟩
 refine ⟨_, rfl, fun a h51 => ?_⟩
 have hsw50 := hF49.size
 have hF_52 := hF_18.new hF49
 have hB_53 := hB_19.fr0 hF49
 have hRA_54 := hRA_20.fr0 hF49
 have hRB_55 := hRB_21.fr0 hF49
 have hK_56 := hK_22.fr0 hF49
 have hB6_57 := hB6_23.fr0 hF49
 have hB16_58 := hB16.fr0 hF49
 have hbl49 := bkt_lt T.seed k (n := T.a.length) (by omega)
 refine V.re h51 [] 1 0 [(7, .int .i64 ((bkt T.seed T.a.length k : Nat) : Int))] fun a h59 => k47 _ _ ?_
 obtain ⟨A62, c63, hv64⟩ := hK_56.getA hlA (i := (bkt T.seed T.a.length k)) (by omega) nilS
 have hS65 := hK_56.slA hlA (i := (bkt T.seed T.a.length k)) (by omega) hv64
 refine V.sg fun K60 k61 => ?_
 refine V.run h59 [(5, .b hB_53 1), (1, .ix gA 0 T.a.length T.a.length .i64 ((bkt T.seed T.a.length k : Nat) : Int) 1 rfl), (0, .l ⟨gA, 0 + ((bkt T.seed T.a.length k : Nat) : Int).toNat * 1, none⟩ (.slice A62 ((T.a.getD (bkt T.seed T.a.length k) []).length) c63) ((hRA_54.at (bkt T.seed T.a.length k) nilS (by omega)).trans (congrArg some hv64)))] 10 23 30 [(31, .slice A62 ((T.a.getD (bkt T.seed T.a.length k) []).length) c63), (32, .func (.func 77) #[] #[.pointer (some ⟨b4, 0, none⟩)])] fun a h66 => ?_
 refine V.cl h66 (Go.Proofs.enters_of Try.func76 (by kernel_rfl) rfl) (ixf_any w50 _ A62 c63 b4 (T.a.getD (bkt T.seed T.a.length k) []) k hS65 hB6_57) ?_
 rintro _ w68 ⟨rfl, hF67⟩
 refine ⟨_, rfl, fun a h69 => ?_⟩
 have hsw68 := hF67.size
 have hF_70 := hF_52.new hF67
 have hB_71 := hB_53.fr0 hF67
 have hRB_73 := hRB_55.fr0 hF67
 have hK_74 := hK_56.fr0 hF67
 have hB6_75 := hB6_57.fr0 hF67
 have hB16_76 := hB16_58.fr0 hF67
 have hix67 := ixI_lt (T.a.getD (bkt T.seed T.a.length k) []) k
 refine V.re h69 [] 1 0 [(8, .int .i64 (ixI (T.a.getD (bkt T.seed T.a.length k) []) k))] fun a h78 => k61 _ _ ?_
 refine V.sr h78 [] 34 34 [(35, .bool (decide ((ixI (T.a.getD (bkt T.seed T.a.length k) []) k) ≥ 0)))] fun a h81 => ?_
 refine V.cp h81 ((ixI (T.a.getD (bkt T.seed T.a.length k) []) k) ≥ 0) (fun ht82 => ?_) (fun ht82 => ?_)
 ·
  refine V.sg fun K83 k84 => ?_
  refine V.run h81 [] 4 36 38 [(39, .agg #[.int .i64 0, .int .i64 ((bkt T.seed T.a.length k : Nat) : Int), .int .i64 (ixI (T.a.getD (bkt T.seed T.a.length k) []) k)])] fun a h88 => ?_
  refine V.go (V.stn b14 0 (.agg #[.int .i64 0, .int .i64 ((bkt T.seed T.a.length k : Nat) : Int), .int .i64 (ixI (T.a.getD (bkt T.seed T.a.length k) []) k)]) [.int .i64 0, .int .i64 ((bkt T.seed T.a.length k : Nat) : Int), .int .i64 (ixI (T.a.getD (bkt T.seed T.a.length k) []) k)] h88.e h88.e rfl rfl (by kernel_rfl) hB16_76 (by simp) [.int .i64 0, .int .i64 ((bkt T.seed T.a.length k : Nat) : Int), .int .i64 (ixI (T.a.getD (bkt T.seed T.a.length k) []) k)] rfl ?_)
  intro w85 hB86 hF87 hsw85
  have hF_89 := hF_70.own hF87 (by simp <;> omega)
  refine V.re h88 [] 1 0 [(5, .bool true)] fun a h95 => k84 _ _ ?_
  refine V.ret ?_
  refine V.blk_r ?_
  refine V.then_r ?_
  refine V.then_r ?_
  refine V.blk_r ?_
  refine V.then_r ?_
  refine V.retCT h95.sd rfl _ (h95.e (v := (.pointer (some ⟨b14, 0, none⟩)))) (V.run_loadVar_agg (cs := [.int .i64 0, .int .i64 ((bkt T.seed T.a.length k : Nat) : Int), .int .i64 (ixI (T.a.getD (bkt T.seed T.a.length k) []) k)]) (by kernel_rfl) (blk_cells hB86 0 _ rfl)) (h95.e (v := (.bool true))) ?_
  refine ⟨?_, hF_89⟩
  unfold findT
  rw [if_pos (by omega)]
 ·
  refine V.skip ?_
  refine V.blk_n ?_
  refine V.then_n (k37 _ _ ?_)
  refine V.rr h81 [] 40 40 [(9, .int .i64 1)] fun a h96 => ?_
  refine V.then_n ?_
  refine V.rnd ?_
  have h97 := h96.only [(0, .pointer (some ⟨t, 0, none⟩)), (3, .pointer (some ⟨b4, 0, none⟩)), (4, .pointer (some ⟨b14, 0, none⟩)), (9, .int .i64 1)]
  refine V.sr h97 [] 1 0 [(10, .bool true)] fun a h100 => ?_
  refine V.seq fun K101 k102 => ?_
  refine V.ct h100 ?_
  refine V.skip ?_
  refine V.then_n (k102 _ _ ?_)
  refine V.seq fun K103 k104 => ?_
  refine V.block ?_
  refine V.sr h100 [] 11 11 [(6, .int .i64 1)] fun a h107 => ?_
  refine V.seq fun K108 k109 => ?_
  refine V.sr h107 [(5, .b hB_71 2)] 12 17 [(18, .bool false)] fun a h112 => ?_
  refine V.cf h112 ?_
  refine V.skip ?_
  refine V.then_n (k109 _ _ ?_)
  refine V.sg fun K113 k114 => ?_
  refine V.run h112 [(2, .b hB6_75 0)] 3 1 0 [(19, .pointer (some ⟨t, 0, none⟩)), (20, .int .i64 1), (21, .string k)] fun a h115 => ?_
  refine V.cl h115 (Go.Proofs.enters_of Try.func58 (by kernel_rfl) rfl) (bucket_M1 w68 t T.seed T.a.length T.b.length 0 gA gB (.int .i64 (T.moved : Int)) (.int .i64 (T.n : Int)) hB_71 k (by omega) (by omega) (by omega) (by omega)) ?_
  rintro _ w117 ⟨rfl, hF116⟩
  refine ⟨_, rfl, fun a h118 => ?_⟩
  have hsw117 := hF116.size
  have hF_119 := hF_70.new hF116
  have hB_120 := hB_71.fr0 hF116
  have hRB_122 := hRB_73.fr0 hF116
  have hK_123 := hK_74.fr0 hF116
  have hB6_124 := hB6_75.fr0 hF116
  have hB16_125 := hB16_76.fr0 hF116
  have hbl116 := bkt_lt T.seed k (n := T.b.length) (by omega)
  refine V.re h118 [] 1 0 [(7, .int .i64 ((bkt T.seed T.b.length k : Nat) : Int))] fun a h127 => k114 _ _ ?_
  obtain ⟨A130, c131, hv132⟩ := hK_123.getB hlA (i := (bkt T.seed T.b.length k)) (by omega) nilS
  have hS133 := hK_123.slB hlA (i := (bkt T.seed T.b.length k)) (by omega) hv132
  refine V.sg fun K128 k129 => ?_
  refine V.run h127 [(5, .b hB_120 2), (1, .ix gB 0 T.b.length T.b.length .i64 ((bkt T.seed T.b.length k : Nat) : Int) 1 rfl), (0, .l ⟨gB, 0 + ((bkt T.seed T.b.length k : Nat) : Int).toNat * 1, none⟩ (.slice A130 ((T.b.getD (bkt T.seed T.b.length k) []).length) c131) ((hRB_122.at (bkt T.seed T.b.length k) nilS (by omega)).trans (congrArg some hv132)))] 10 23 30 [(31, .slice A130 ((T.b.getD (bkt T.seed T.b.length k) []).length) c131), (32, .func (.func 77) #[] #[.pointer (some ⟨b4, 0, none⟩)])] fun a h134 => ?_
  refine V.cl h134 (Go.Proofs.enters_of Try.func76 (by kernel_rfl) rfl) (ixf_any w117 _ A130 c131 b4 (T.b.getD (bkt T.seed T.b.length k) []) k hS133 hB6_124) ?_
  rintro _ w136 ⟨rfl, hF135⟩
  refine ⟨_, rfl, fun a h137 => ?_⟩
  have hsw136 := hF135.size
  have hF_138 := hF_119.new hF135
  have hB16_144 := hB16_125.fr0 hF135
  have hix135 := ixI_lt (T.b.getD (bkt T.seed T.b.length k) []) k
  refine V.re h137 [] 1 0 [(8, .int .i64 (ixI (T.b.getD (bkt T.seed T.b.length k) []) k))] fun a h147 => k129 _ _ ?_
  refine V.sr h147 [] 34 34 [(35, .bool (decide ((ixI (T.b.getD (bkt T.seed T.b.length k) []) k) ≥ 0)))] fun a h150 => ?_
  refine V.cp h150 ((ixI (T.b.getD (bkt T.seed T.b.length k) []) k) ≥ 0) (fun ht151 => ?_) (fun ht151 => ?_)
  ·
   refine V.sg fun K152 k153 => ?_
   refine V.run h150 [] 4 36 38 [(39, .agg #[.int .i64 1, .int .i64 ((bkt T.seed T.b.length k : Nat) : Int), .int .i64 (ixI (T.b.getD (bkt T.seed T.b.length k) []) k)])] fun a h157 => ?_
   refine V.go (V.stn b14 0 (.agg #[.int .i64 1, .int .i64 ((bkt T.seed T.b.length k : Nat) : Int), .int .i64 (ixI (T.b.getD (bkt T.seed T.b.length k) []) k)]) [.int .i64 1, .int .i64 ((bkt T.seed T.b.length k : Nat) : Int), .int .i64 (ixI (T.b.getD (bkt T.seed T.b.length k) []) k)] h157.e h157.e rfl rfl (by kernel_rfl) hB16_144 (by simp) [.int .i64 1, .int .i64 ((bkt T.seed T.b.length k : Nat) : Int), .int .i64 (ixI (T.b.getD (bkt T.seed T.b.length k) []) k)] rfl ?_)
   intro w154 hB155 hF156 hsw154
   have hF_158 := hF_138.own hF156 (by simp <;> omega)
   refine V.re h157 [] 1 0 [(5, .bool true)] fun a h164 => k153 _ _ ?_
   refine V.ret ?_
   refine V.blk_r ?_
   refine V.then_r ?_
   refine V.then_r ?_
   refine V.blk_r ?_
   refine V.then_r ?_
   refine V.retCT h164.sd rfl _ (h164.e (v := (.pointer (some ⟨b14, 0, none⟩)))) (V.run_loadVar_agg (cs := [.int .i64 1, .int .i64 ((bkt T.seed T.b.length k : Nat) : Int), .int .i64 (ixI (T.b.getD (bkt T.seed T.b.length k) []) k)]) (by kernel_rfl) (blk_cells hB155 0 _ rfl)) (h164.e (v := (.bool true))) ?_
   refine ⟨?_, hF_158⟩
   unfold findT
   rw [if_neg (by omega), if_pos ⟨by omega, by omega⟩]
  ·
   refine V.skip ?_
   refine V.blk_n ?_
   refine V.then_n (k104 _ _ ?_)
   refine V.rr h150 [] 40 40 [(9, .int .i64 2)] fun a h165 => ?_
   refine V.then_n ?_
   refine V.rnd ?_
   have h166 := h165.only [(0, .pointer (some ⟨t, 0, none⟩)), (3, .pointer (some ⟨b4, 0, none⟩)), (4, .pointer (some ⟨b14, 0, none⟩)), (9, .int .i64 2)]
   refine V.sr h166 [] 1 0 [(10, .bool false)] fun a h169 => ?_
   refine V.seq fun K170 k171 => ?_
   refine V.cf h169 ?_
   refine V.exit ?_
   refine V.then_e ?_
   refine V.then_e ?_
   refine V.blk_hit ?_
   refine V.then_n (k27 _ _ ?_)
   refine V.sg fun K172 k173 => ?_
   refine V.run h169 [] 1 1 0 [(41, .agg #[.int .i64 0, .int .i64 0, .int .i64 0])] fun a h177 => ?_
   refine V.go (V.stn b14 0 (.agg #[.int .i64 0, .int .i64 0, .int .i64 0]) [.int .i64 0, .int .i64 0, .int .i64 0] h177.e h177.e rfl rfl (by kernel_rfl) hB16_144 (by simp) [.int .i64 0, .int .i64 0, .int .i64 0] rfl ?_)
   intro w174 hB175 hF176 hsw174
   have hF_178 := hF_138.own hF176 (by simp <;> omega)
   refine V.re h177 [] 1 0 [(5, .bool false)] fun a h184 => k173 _ _ ?_
   refine V.ret ?_
   refine V.retCT h184.sd rfl _ (h184.e (v := (.pointer (some ⟨b14, 0, none⟩)))) (V.run_loadVar_agg (cs := [.int .i64 0, .int .i64 0, .int .i64 0]) (by kernel_rfl) (blk_cells hB175 0 _ rfl)) (h184.e (v := (.bool false))) ?_
   refine ⟨?_, hF_178⟩
   unfold findT
   rw [if_neg (by omega), if_neg (by omega)]
end Go.Proofs.Ytalhmegjomfbaaa.S
end
section
namespace Go.Proofs.Ytalhmegjomfbaaa.S
open Go.V Go.Base
open Go.RowKit (Below)
attribute [local irreducible] Act.put Act.eval
set_option linter.unusedVariables false
set_option linter.unusedSimpArgs false
set_option maxHeartbeats 4000000 in
set_option maxRecDepth 20000 in
theorem start_N (w : World) (H : Nat → Prop) (av : List Nat) (t gA : Nat) (vsA : List Value) (T : Tb ByteArray) (hok : T.Ok) (hT : TabN 91 94 93 itI w H av t gA vsA T) (n : Nat) (hb0 : T.b = []) (hn : 0 < n) (hn2 : n ≤ 4398046511104) : Calls Try.prog 59 #[.pointer (some ⟨t, 0, none⟩), .int .i64 (n : Int)] w (fun e w' => e = .returned (.tuple #[]) ∧ TabX 91 94 93 itI w' (gr H w w') av t (startT T n) ∧ FrP (gp H av) w w') := by
 have hK0 : ∀ k ∈ av, k < w.heap.size := fun k hk => hT.bk.avl k (by simp [hk])
 have hok0 := hok
 obtain ⟨hsd, hpa, hla, hlb, hmv, hmz, hnn, hcn, hks⟩ := hok0
 obtain ⟨hB, hRA, hlA, hK, hne, hpt, hpg⟩ := hT
 have hltt := hB.lt
 have hltg := hRA.lt
 have hFP := FrP.refl (gp H av) w
 replace hK := hK.toH
 refine V.en 13 Try.func59 fun a h1 => ?_
 refine V.seq fun K2 k3 => ?_
 refine V.pl [([0,1,3,4],some (2,[])),([5],some (6,[])),([],none)] fun w4 hF5 hsw4 => ?_
 have hB_6 := hB.fr0 hF5
 have hRA_7 := hRA.fr0 hF5
 have hK_8 := hK.fr0 hF5
 have hFP_9 := hFP.tr0 hF5
 refine V.pe h1 [] 4 7 [(5, .int .i64 (n : Int)), (8, .pointer (some ⟨t, 1, none⟩))] fun a h10 => ?_
 refine V.go (V.mks (enc := idV) (n) (.slice none 0 0) nilS 24 ((h10.e (v := (.int .i64 (n : Int)))).trans (V.int_eq (by omega))) ((h10.e (v := (.int .i64 (n : Int)))).trans (V.int_eq (by omega))) (by kernel_rfl) info94 rfl rfl (by omega) (by omega) ?_)
 intro w12 b11 heb11 hR13 hF14
 have hsb11 := hR13.lt
 have hB_15 := hB_6.fr0 hF14
 have hRA_16 := hRA_7.fr0 hF14
 have hK_17 := hK_8.alloc hF14 heb11 (by omega)
 have hFP_18 := hFP_9.tr0 hF14
 refine V.pt h10 fun a h19 => ?_
 refine V.eh trivial ?_
 refine V.pe h19 [] 1 0 [(9, .pointer (some ⟨t, 2, none⟩))] fun a h20 => ?_
 refine V.go (V.stn t 2 (.slice (some ⟨b11, 0, none⟩) n n) [.slice (some ⟨b11, 0, none⟩) n n] h20.e h20.e rfl rfl (by kernel_rfl) hB_15 (by simp) [.int .u64 (T.seed : Int), .slice (some ⟨gA, 0, none⟩) T.a.length T.a.length, .slice (some ⟨b11, 0, none⟩) n n, .int .i64 (T.moved : Int), .int .i64 (T.n : Int)] rfl ?_)
 intro w21 hB22 hF23 hsw21
 have hRA_24 := hRA_16.fr1 hF23 (by omega)
 have hK_25 := hK_17.fr hF23 (by simp)
 have hFP_26 := hFP_18.tr1 hF23 (by first | exact .inl (by assumption) | exact .inr (by omega) | exact .inl (.inl rfl))
 have hR13_27 := hR13.fr1 hF23 (by omega)
 refine V.eh trivial ?_
 refine V.pz h20 [] 1 0 [] fun a h28 => k3 _ _ ?_
 refine V.rg ?_
 refine V.run h28 [] 3 10 11 [(12, .pointer (some ⟨t, 3, none⟩))] fun a h32 => ?_
 refine V.go (V.stn t 3 (.int .i64 0) [.int .i64 0] h32.e evc rfl rfl (by kernel_rfl) hB22 (by simp) [.int .u64 (T.seed : Int), .slice (some ⟨gA, 0, none⟩) T.a.length T.a.length, .slice (some ⟨b11, 0, none⟩) n n, .int .i64 0, .int .i64 (T.n : Int)] rfl ?_)
 intro w29 hB30 hF31 hsw29
 have hRA_33 := hRA_24.fr1 hF31 (by omega)
 have hK_34 := hK_25.fr hF31 (by simp)
 have hFP_35 := hFP_26.tr1 hF31 (by first | exact .inl (by assumption) | exact .inr (by omega) | exact .inl (.inl rfl))
 have hR13_36 := hR13_27.fr1 hF31 (by omega)
 refine V.nil ?_
 refine V.e0 h32 ?_
 have hK37 := hK_34.addNil n
 simp only [List.append_nil] at hK37
 have hgB : gh H w b11 ∧ b11 ∉ av := ⟨.inr (by omega), fun hm => by have := hK0 _ hm; omega⟩
 exact ⟨rfl, TabM.fin (T := (startT T n)) (startT_ok hok hb0 hn hn2) (by simp only [startT]; intro h; have := congrArg List.length h; simp at this; omega) hB30 hRA_33 hR13_36 (by first | exact hlA | (simp only [List.length_set]; exact hlA)) hK37 (mem4 (l := (b11 :: t :: gA :: av)) (by simp) (by simp) (by simp) (by intro k hk; simp [hk])) (by first | assumption | omega) (by first | assumption | omega) (by first | assumption | omega) hpt ⟨.inl hpg.1, hpg.2⟩ hgB rfl rfl rfl rfl rfl rfl (by simp [startT]), hFP_35⟩
set_option maxHeartbeats 4000000 in
set_option maxRecDepth 20000 in
theorem step_M (w : World) (H : Nat → Prop) (av : List Nat) (t gA gB : Nat) (vsA vsB : List Value) (T : Tb ByteArray) (hok : T.Ok) (hT : TabM 91 94 93 itI w H av t gA gB vsA vsB T) (hb : T.b.length ≠ 0) (hm : T.Mv) : Calls Try.prog 55 #[.pointer (some ⟨t, 0, none⟩)] w (fun e w' => e = .returned (.tuple #[]) ∧ TabX 91 94 93 itI w' (gr H w w') av t (tbStep T) ∧ FrP (gp H av) w w') := by
 have hok0 := hok
 have hK0 : ∀ k ∈ av, k < w.heap.size := fun k hk => hT.bk.avl k (by simp [hk])
 obtain ⟨hsd, hpa, hla, hlb, hmv, hmz, hnn, hcn, hks⟩ := hok0
 obtain ⟨hB, hRA, hRB, hlA, hlB, hK, hne, hne2, hne3, hpt, hpg, hph⟩ := hT
 have hltg2 := hRB.lt
 have hltt := hB.lt
 have hltg := hRA.lt
 have hFP := FrP.refl (gp H av) w
 replace hK := hK.toH
 refine V.en 111 Try.func55 fun a h1 => ?_
 refine V.seq fun K2 k3 => ?_
 refine V.sg fun K4 k5 => ?_
 refine V.run h1 [] 1 1 0 [(5, .pointer (some ⟨t, 0, none⟩))] fun a h6 => ?_
 refine V.cl h6 (Go.Proofs.enters_of Try.func57 (by kernel_rfl) rfl) (moves_M w t T.seed T.a.length T.b.length 0 gA gB (.int .i64 (T.moved : Int)) (.int .i64 (T.n : Int)) hB) ?_
 rintro _ w8 ⟨rfl, hF7⟩
 refine ⟨_, rfl, fun a h9 => ?_⟩
 have hsw8 := hF7.size
 have hB_10 := hB.fr0 hF7
 have hRA_11 := hRA.fr0 hF7
 have hRB_12 := hRB.fr0 hF7
 have hK_13 := hK.fr0 hF7
 have hFP_14 := hFP.tr0 hF7
 refine V.re h9 [] 1 0 [(7, .bool false)] fun a h15 => k5 _ _ ?_
 refine V.cf h15 ?_
 refine V.skip ?_
 refine V.then_n (k3 _ _ ?_)
 refine V.seq fun K16 k17 => ?_
 refine V.seq fun K18 k19 => ?_
 refine V.pl [([0,1,2,3,4,5,6,7,8,9,10,11,12],none)] fun w20 hF21 hsw20 => ?_
 have hB_22 := hB_10.fr0 hF21
 have hRA_23 := hRA_11.fr0 hF21
 have hRB_24 := hRB_12.fr0 hF21
 have hK_25 := hK_13.fr0 hF21
 have hFP_26 := hFP_14.tr0 hF21
 obtain ⟨A27, c28, hv29⟩ := hK_25.getA hlA (i := T.moved) (by omega) nilS
 have hS30 := hK_25.slA hlA (i := T.moved) (by omega) hv29
 refine V.pz h15 [(4, .b hB_22 1), (3, .b hB_22 3), (0, .ix gA 0 T.a.length T.a.length .i64 (T.moved : Int) 1 rfl), (0, .l ⟨gA, 0 + (T.moved : Int).toNat * 1, none⟩ (.slice A27 ((T.a.getD T.moved []).length) c28) ((hRA_23.at T.moved nilS (by omega)).trans (congrArg some hv29)))] 8 17 [(18, .slice A27 ((T.a.getD T.moved []).length) c28), (19, .int .i64 (((T.a.getD T.moved []).length : Nat) : Int)), (20, .int .i64 0)] fun a h31 => k19 _ _ ?_
 refine V.block ?_
 obtain ⟨hK9, hS9, hoh⟩ := hK_25.takeA hlA (i := T.moved) (by omega) hv29
 have hlA2 : (vsA.set T.moved nilS).length = (T.a.set T.moved []).length := by simp [hlA]
 refine V.loop3 (fun (i : Nat) (vb : List Value) (xb : List (List (ByteArray × ByteArray))) a_ w_ => En 111 [] a_ [(0, .pointer (some ⟨t, 0, none⟩)), (18, .slice A27 ((T.a.getD T.moved []).length) c28), (19, .int .i64 (((T.a.getD T.moved []).length : Nat) : Int)), (20, .int .i64 (i : Int))] ∧ Row idV w_ gB vb 94 ∧ Bks itI w_ 93 (gh H w) (((Value.slice A27 ((T.a.getD T.moved []).length) c28).ownBlock.toList ++ (t :: gA :: gB :: av))) (vsA.set T.moved nilS ++ vb) (T.a.set T.moved [] ++ xb) ∧ FrP (fun _ => True) w20 w_ ∧ Blk w_ t [.int .u64 (T.seed : Int), .slice (some ⟨gA, 0, none⟩) T.a.length T.a.length, .slice (some ⟨gB, 0, none⟩) T.b.length T.b.length, .int .i64 (T.moved : Int), .int .i64 (T.n : Int)] 91 ∧ Row idV w_ gA vsA 94 ∧ FrP (gp H av) w w_ ∧ SlR itI (fun k => k ∈ (Value.slice A27 ((T.a.getD T.moved []).length) c28).ownBlock.toList) w_ (.slice A27 ((T.a.getD T.moved []).length) c28) (T.a.getD T.moved []) ∧ (i ≤ (T.a.getD T.moved []).length) ∧ (vb.length = xb.length) ∧ (((T.a.getD T.moved []).take i).foldl (putB T.seed) T.b = xb)) (fun (i : Nat) (vb : List Value) (xb : List (List (ByteArray × ByteArray))) => (T.a.getD T.moved []).length - i) 0 vsB T.b ?_ ?_
 ·
  refine ⟨(h31.eq 20 (v := (.int .i64 0)) (u := (.int .i64 (0 : Int))) (V.int_eq (by omega))).only _, hRB_24, hK9, (FrP.refl _ _), hB_22, hRA_23, hFP_26, hS9, (by omega), hlB, (by simp)⟩
 ·
  rintro i vb xb a32 w33 ⟨h34, hRB_35, hK_36, hF0_37, hB_38, hRA_39, hFP_40, hS9_41, hi, hlb, hxb⟩
  have hlt42 := hRB_35.lt
  have hfs43 := hF0_37.size
  have hlt44 := hB_38.lt
  have hlt45 := hRA_39.lt
  have hfs46 := hFP_40.size
  have hxl : xb.length = T.b.length := by rw [← hxb, putBs_length]
  have hfl : xb.flatten.length = T.b.flatten.length + i := by (rw [← hxb, putBs_flat _ _ (by omega), List.length_take]; omega)
  have hsum := hok.sum
  have hfa := flat_getD T.a T.moved
  refine V.sr h34 [] 1 0 [(21, .bool (decide ((i : Int) < (((T.a.getD T.moved []).length : Nat) : Int))))] fun a h49 => ?_
  refine V.seq fun K50 k51 => ?_
  refine V.cp h49 ((i : Int) < (((T.a.getD T.moved []).length : Nat) : Int)) (fun ht52 => ?_) (fun ht52 => ?_)
  ·
   refine V.skip ?_
   refine V.then_n (k51 _ _ ?_)
   refine V.seq fun K53 k54 => ?_
   refine V.block ?_
   obtain ⟨g57, o58, hA59, hA59l, hA59z⟩ := hS9_41.addr (by omega)
   obtain ⟨cs60, hok61, hE62⟩ := hS9_41.els hA59 (i : Int) (by omega) (by omega)
   refine V.sg fun K55 k56 => ?_
   refine V.run h49 [(0, .ix g57 o58 ((T.a.getD T.moved []).length) c28 .i64 (i : Int) 2 hA59)] 1 1 0 [(22, .pointer (some ⟨g57, o58 + (i : Int).toNat * 2, none⟩))] fun a h63 => ?_
   obtain rfl : cs60 = [.string (at_ itI (T.a.getD T.moved []) (i : Int)).1, .string (at_ itI (T.a.getD T.moved []) (i : Int)).2] := hok61
   refine V.run h63 [(0, .ls ⟨g57, o58 + (i : Int).toNat * 2, none⟩ [.string ((at_ itI (T.a.getD T.moved []) (i : Int)).1), .string ((at_ itI (T.a.getD T.moved []) (i : Int)).2)] (hE62.cells 0 _ rfl))] 1 1 0 [(23, .agg #[.string ((at_ itI (T.a.getD T.moved []) (i : Int)).1), .string ((at_ itI (T.a.getD T.moved []) (i : Int)).2)])] fun a h68 => ?_
   refine V.go (V.mk [] trivial (by kernel_rfl) [.string ⟨#[]⟩, .string ⟨#[]⟩] 93 (fun b => .pointer (some ⟨b, 0, none⟩)) (by kernel_rfl) ?_)
   intro w65 b64 heb64 hB66 hF67 hsb64
   have hRB_69 := hRB_35.fr0 hF67
   have hK_70 := hK_36.alloc hF67 heb64 (by omega)
   have hF0_71 := hF0_37.tr hF67 (fun _ _ => .inl trivial)
   have hB_72 := hB_38.fr0 hF67
   have hRA_73 := hRA_39.fr0 hF67
   have hFP_74 := hFP_40.tr0 hF67
   have hS9_75 := hS9_41.fr0 hF67
   refine V.pt h68 fun a h77 => ?_
   refine V.go (V.stn b64 0 (.agg #[.string ((at_ itI (T.a.getD T.moved []) (i : Int)).1), .string ((at_ itI (T.a.getD T.moved []) (i : Int)).2)]) [.string ((at_ itI (T.a.getD T.moved []) (i : Int)).1), .string ((at_ itI (T.a.getD T.moved []) (i : Int)).2)] h77.e h77.e rfl rfl (by kernel_rfl) hB66 (by simp) [.string ((at_ itI (T.a.getD T.moved []) (i : Int)).1), .string ((at_ itI (T.a.getD T.moved []) (i : Int)).2)] rfl ?_)
   intro w78 hB79 hF80 hsw78
   have hRB_81 := hRB_69.fr1 hF80 (by omega)
   have hK_82 := hK_70.fr hF80 (by simp)
   have hF0_83 := hF0_71.tr hF80 (fun _ _ => .inl trivial)
   have hB_84 := hB_72.fr1 hF80 (by omega)
   have hRA_85 := hRA_73.fr1 hF80 (by omega)
   have hFP_86 := hFP_74.tr1 hF80 (by first | exact .inl (by assumption) | exact .inr (by omega) | exact .inl (.inl rfl))
   have hS9_87 := hS9_75.fr hF80 (by intro x hx hz; simp only [List.mem_singleton] at hx; subst hx; first | (have := (hoh _ hz).2; omega) | exact (hoh _ hz).1 (by simp))
   refine V.nt (k56 _ _ ?_)
   refine V.seq fun K89 k90 => ?_
   have hkz := ks_at (R := itI) (hks.1 T.moved) (i := (i : Int)) (by omega) (by omega)
   refine V.rg ?_
   refine V.run h77 [(2, .b hB79 0)] 3 25 25 [(24, .pointer (some ⟨t, 0, none⟩)), (26, .string ((at_ itI (T.a.getD T.moved []) (i : Int)).1))] fun a h91 => ?_
   refine V.cl h91 (Go.Proofs.enters_of Try.func58 (by kernel_rfl) rfl) (bucket_M1 w78 t T.seed T.a.length T.b.length 0 gA gB (.int .i64 (T.moved : Int)) (.int .i64 (T.n : Int)) hB_84 ((at_ itI (T.a.getD T.moved []) (i : Int)).1) (by omega) (by omega) (by omega) (by omega)) ?_
   rintro _ w93 ⟨rfl, hF92⟩
   refine ⟨_, rfl, fun a h94 => ?_⟩
   have hsw93 := hF92.size
   have hRB_95 := hRB_81.fr0 hF92
   have hK_96 := hK_82.fr0 hF92
   have hF0_97 := hF0_83.tr hF92 (fun _ _ => .inl trivial)
   have hB_98 := hB_84.fr0 hF92
   have hRA_99 := hRA_85.fr0 hF92
   have hFP_100 := hFP_86.tr0 hF92
   have hS9_101 := hS9_87.fr0 hF92
   have hB79_103 := hB79.fr0 hF92
   have hbl92 := bkt_lt T.seed ((at_ itI (T.a.getD T.moved []) (i : Int)).1) (n := T.b.length) (by omega)
   refine V.re h94 [] 1 0 [(4, .int .i64 ((bkt T.seed T.b.length ((at_ itI (T.a.getD T.moved []) (i : Int)).1) : Nat) : Int))] fun a h104 => k90 _ _ ?_
   have hfg := flat_getD xb (bkt T.seed T.b.length ((at_ itI (T.a.getD T.moved []) (i : Int)).1))
   refine V.pl [([0,1,2,3,4,5,6,7,8,9,10,11,12,13,14],some (15,[4,10,13])),([],some (16,[4])),([17],some (18,[])),([],none)] fun w105 hF106 hsw105 => ?_
   have hRB_107 := hRB_95.fr0 hF106
   have hK_108 := hK_96.fr0 hF106
   have hF0_109 := hF0_97.tr hF106 (fun _ _ => .inl trivial)
   have hB_110 := hB_98.fr0 hF106
   have hRA_111 := hRA_99.fr0 hF106
   have hFP_112 := hFP_100.tr0 hF106
   have hS9_113 := hS9_101.fr0 hF106
   have hB79_115 := hB79_103.fr0 hF106
   obtain ⟨A116, c117, hv118⟩ := hK_108.getB hlA2 (i := (bkt T.seed T.b.length ((at_ itI (T.a.getD T.moved []) (i : Int)).1))) (by omega) nilS
   have hS119 := hK_108.slB hlA2 (i := (bkt T.seed T.b.length ((at_ itI (T.a.getD T.moved []) (i : Int)).1))) (by omega) hv118
   refine V.pe h104 [(4, .b hB_110 2), (5, .b hB_110 2), (1, .ix gB 0 T.b.length T.b.length .i64 ((bkt T.seed T.b.length ((at_ itI (T.a.getD T.moved []) (i : Int)).1) : Nat) : Int) 1 rfl), (0, .l ⟨gB, 0 + ((bkt T.seed T.b.length ((at_ itI (T.a.getD T.moved []) (i : Int)).1) : Nat) : Int).toNat * 1, none⟩ (.slice A116 ((xb.getD (bkt T.seed T.b.length ((at_ itI (T.a.getD T.moved []) (i : Int)).1)) []).length) c117) ((hRB_107.at (bkt T.seed T.b.length ((at_ itI (T.a.getD T.moved []) (i : Int)).1)) nilS (by omega)).trans (congrArg some hv118))), (0, .bs hB79_115 0 [.string ((at_ itI (T.a.getD T.moved []) (i : Int)).1), .string ((at_ itI (T.a.getD T.moved []) (i : Int)).2)])] 28 39 [(31, .pointer (some ⟨t, 2, none⟩)), (32, .slice (some ⟨gB, 0, none⟩) T.b.length T.b.length), (33, .int .i64 ((bkt T.seed T.b.length ((at_ itI (T.a.getD T.moved []) (i : Int)).1) : Nat) : Int)), (37, .pointer (some ⟨t, 2, none⟩)), (40, .pointer (some ⟨gB, 0 + ((bkt T.seed T.b.length ((at_ itI (T.a.getD T.moved []) (i : Int)).1) : Nat) : Int).toNat * 1, none⟩)), (41, .slice A116 ((xb.getD (bkt T.seed T.b.length ((at_ itI (T.a.getD T.moved []) (i : Int)).1)) []).length) c117), (42, .agg #[.string ((at_ itI (T.a.getD T.moved []) (i : Int)).1), .string ((at_ itI (T.a.getD T.moved []) (i : Int)).2)])] fun a h120 => ?_
   refine V.go (V.mk [(42, .agg #[.string ((at_ itI (T.a.getD T.moved []) (i : Int)).1), .string ((at_ itI (T.a.getD T.moved []) (i : Int)).2)])] ⟨h120.e, trivial⟩ (by kernel_rfl) [.string ((at_ itI (T.a.getD T.moved []) (i : Int)).1), .string ((at_ itI (T.a.getD T.moved []) (i : Int)).2)] 93 (fun b => .slice (some ⟨b, 0, none⟩) 1 1) (by kernel_rfl) ?_)
   intro w122 b121 heb121 hB123 hF124 hsb121
   have hRB_125 := hRB_107.fr0 hF124
   have hK_126 := hK_108.alloc hF124 heb121 (by omega)
   have hF0_127 := hF0_109.tr hF124 (fun _ _ => .inl trivial)
   have hB_128 := hB_110.fr0 hF124
   have hRA_129 := hRA_111.fr0 hF124
   have hFP_130 := hFP_112.tr0 hF124
   have hS9_131 := hS9_113.fr0 hF124
   refine V.pt h120 fun a h135 => ?_
   refine V.eh ⟨(fun _ => held_blk (n := 1) (hx := (h120.e (v := (.pointer (some ⟨t, 2, none⟩))))) hB_110 hB_128 (by kernel_rfl) rfl (by simp only [List.length]; omega)), (fun _ => held_blk (n := 1) (hx := (h120.e (v := (.pointer (some ⟨t, 2, none⟩))))) hB_110 hB_128 (by kernel_rfl) rfl (by simp only [List.length]; omega)), (fun _ => held_row (hx := (h120.e (v := (.pointer (some ⟨gB, 0 + ((bkt T.seed T.b.length ((at_ itI (T.a.getD T.moved []) (i : Int)).1) : Nat) : Int).toNat * 1, none⟩))))) hRB_107 hRB_125 (by kernel_rfl) (by omega))⟩ ?_
   refine V.pe h135 [] 1 0 [] fun a h136 => ?_
   refine V.go (V.appRB (R := itI) (ys := ([((at_ itI (T.a.getD T.moved []) (i : Int)).1, (at_ itI (T.a.getD T.moved []) (i : Int)).2)])) (news := [.string ((at_ itI (T.a.getD T.moved []) (i : Int)).1), .string ((at_ itI (T.a.getD T.moved []) (i : Int)).2)]) hK_126 hlA2 (i := (bkt T.seed T.b.length ((at_ itI (T.a.getD T.moved []) (i : Int)).1))) (by omega) hv118 (h136.e (v := (.slice A116 ((xb.getD (bkt T.seed T.b.length ((at_ itI (T.a.getD T.moved []) (i : Int)).1)) []).length) c117))) ⟨b121, 0, none⟩ 1 1 (h136.e (v := (.slice (some ⟨b121, 0, none⟩) 1 1))) (by kernel_rfl) (info93) (by kernel_rfl) (by decide) rfl ⟨[.string ((at_ itI (T.a.getD T.moved []) (i : Int)).1), .string ((at_ itI (T.a.getD T.moved []) (i : Int)).2)], [], rfl, rfl, rfl⟩ (blk_cells hB123 0 _ rfl) (by omega) (by decide) (.inr (by omega)) ?_)
   intro A137 c138 w139 hK140 hF141 ho142
   have hsw139 := hF141.size
   have hRB_143 := hRB_125.fr hF141 (fun hm => (ho142 _ hm).1 (by simp))
   have hF0_144 := hF0_127.tr hF141 (fun _ _ => .inl trivial)
   have hB_145 := hB_128.fr hF141 (fun hm => (ho142 _ hm).1 (by simp))
   have hRA_146 := hRA_129.fr hF141 (fun hm => (ho142 _ hm).1 (by simp))
   have hFP_147 := hFP_130.tr hF141 (fun k hk => ((ho142 k hk).2).imp (fun h => ⟨h, fun hm => (ho142 k hk).1 (by simp [hm])⟩) id)
   have hS9_148 := hS9_131.fr hF141 (fun k hk hz => (ho142 k hk).1 (by simp at hz; simp [hz]))
   refine V.pt h136 fun a h150 => ?_
   refine V.eh (fun _ => held_blk (n := 1) (hx := (h136.e (v := (.pointer (some ⟨t, 2, none⟩))))) hB_128 hB_145 (by kernel_rfl) rfl (by simp only [List.length]; omega)) ?_
   refine V.pe h150 [(0, .ix gB 0 T.b.length T.b.length .i64 ((bkt T.seed T.b.length ((at_ itI (T.a.getD T.moved []) (i : Int)).1) : Nat) : Int) 1 rfl)] 1 0 [(45, .pointer (some ⟨gB, 0 + ((bkt T.seed T.b.length ((at_ itI (T.a.getD T.moved []) (i : Int)).1) : Nat) : Int).toNat * 1, none⟩))] fun a h151 => ?_
   refine V.go (V.strow (enc := idV) gB (((bkt T.seed T.b.length ((at_ itI (T.a.getD T.moved []) (i : Int)).1) : Nat) : Int).toNat) (.slice A137 ((xb.getD (bkt T.seed T.b.length ((at_ itI (T.a.getD T.moved []) (i : Int)).1)) []).length + 1) c138) h151.e h151.e rfl rfl (by kernel_rfl) hRB_143 (by first | omega | (simp only [List.length_set, List.length_replicate]; omega)) ?_)
   intro w152 hR153 hF154 hsw152
   have hF0_155 := hF0_144.tr hF154 (fun _ _ => .inl trivial)
   have hB_156 := hB_145.fr1 hF154 (by omega)
   have hRA_157 := hRA_146.fr1 hF154 (by omega)
   have hFP_158 := hFP_147.tr1 hF154 (by first | exact .inl (by assumption) | exact .inr (by omega) | exact .inl (.inl rfl))
   have hS9_159 := hS9_148.fr hF154 (by intro x hx hz; simp only [List.mem_singleton] at hx; subst hx; first | (have := (hoh _ hz).2; omega) | exact (hoh _ hz).1 (by simp))
   have hK140_161 := hK140.fr hF154 (by simp)
   refine V.eh trivial ?_
   refine V.pz h151 [] 1 0 [] fun a h162 => ?_
   refine V.blk_n ?_
   refine V.then_n (k54 _ _ ?_)
   refine V.rr h162 [(0, .i ((i : Int) + 1))] 46 46 [(20, .int .i64 ((i : Int) + 1))] fun a h163 => ?_
   refine V.then_n ?_
   refine ⟨i + 1, vb.set (((bkt T.seed T.b.length ((at_ itI (T.a.getD T.moved []) (i : Int)).1) : Nat) : Int).toNat) (.slice A137 ((xb.getD (bkt T.seed T.b.length ((at_ itI (T.a.getD T.moved []) (i : Int)).1)) []).length + 1) c138), (xb.set (bkt T.seed T.b.length ((at_ itI (T.a.getD T.moved []) (i : Int)).1)) (xb.getD (bkt T.seed T.b.length ((at_ itI (T.a.getD T.moved []) (i : Int)).1)) [] ++ [((at_ itI (T.a.getD T.moved []) (i : Int)).1, (at_ itI (T.a.getD T.moved []) (i : Int)).2)])), by omega, ?_⟩
   refine ⟨(h163.eq 20 (v := (.int .i64 ((i : Int) + 1))) (u := (.int .i64 ((i + 1) : Int))) (V.int_eq (by omega))).only _, hR153, (hK140_161.sub (fun k hk => List.mem_cons_of_mem _ (List.mem_cons_of_mem _ (hk))) (fun k _ _ q => q)), hF0_155, hB_156, hRA_157, hFP_158, hS9_159, (by omega), (by simp [hlb]), (by rw [take_at itI (by omega), List.foldl_append, hxb, List.foldl_cons, List.foldl_nil]; unfold putB; rw [hxl])⟩
  ·
   refine V.exit ?_
   refine V.then_e ?_
   refine V.then_e ?_
   refine V.blk_hit ?_
   refine V.then_n (k17 _ _ ?_)
   refine V.seq fun K164 k165 => ?_
   have hxe : xb = (movedT T).b := by (rw [← hxb, List.take_of_length_le (by omega)]; rfl)
   refine V.pl [([0,1,2,3,4,5,6,7,8,9],some (10,[])),([],none)] fun w166 hF167 hsw166 => ?_
   have hRB_168 := hRB_35.fr0 hF167
   have hK_169 := hK_36.fr0 hF167
   have hB_171 := hB_38.fr0 hF167
   have hRA_172 := hRA_39.fr0 hF167
   have hFP_173 := hFP_40.tr0 hF167
   refine V.pe h49 [(4, .b hB_171 1), (3, .b hB_171 3), (0, .ix gA 0 T.a.length T.a.length .i64 (T.moved : Int) 1 rfl)] 47 55 [(56, .pointer (some ⟨gA, 0 + (T.moved : Int).toNat * 1, none⟩))] fun a h175 => ?_
   refine V.go (V.strow (enc := idV) gA ((T.moved : Int).toNat) (.slice none 0 0) h175.e evc rfl rfl (by kernel_rfl) hRA_172 (by first | omega | (simp only [List.length_set, List.length_replicate]; omega)) ?_)
   intro w176 hR177 hF178 hsw176
   have hRB_179 := hRB_168.fr1 hF178 (by omega)
   have hK_180 := hK_169.fr hF178 (by simp)
   have hB_182 := hB_171.fr1 hF178 (by omega)
   have hFP_183 := hFP_173.tr1 hF178 (by first | exact .inl (by assumption) | exact .inr (by omega) | exact .inl (.inl rfl))
   refine V.eh trivial ?_
   refine V.pz h175 [] 1 0 [] fun a h185 => k165 _ _ ?_
   refine V.sg fun K186 k187 => ?_
   refine V.run h185 [(3, .b hB_182 3), (0, .i ((T.moved : Int) + 1))] 7 57 62 [(61, .int .i64 ((T.moved : Int) + 1)), (63, .pointer (some ⟨t, 3, none⟩))] fun a h191 => ?_
   refine V.go (V.stn t 3 (.int .i64 ((T.moved : Int) + 1)) [.int .i64 ((T.moved : Int) + 1)] h191.e h191.e rfl rfl (by kernel_rfl) hB_182 (by simp) [.int .u64 (T.seed : Int), .slice (some ⟨gA, 0, none⟩) T.a.length T.a.length, .slice (some ⟨gB, 0, none⟩) T.b.length T.b.length, .int .i64 ((T.moved : Int) + 1), .int .i64 (T.n : Int)] rfl ?_)
   intro w188 hB189 hF190 hsw188
   have hRB_192 := hRB_179.fr1 hF190 (by omega)
   have hK_193 := hK_180.fr hF190 (by simp)
   have hFP_195 := hFP_183.tr1 hF190 (by first | exact .inl (by assumption) | exact .inr (by omega) | exact .inl (.inl rfl))
   have hR177_197 := hR177.fr1 hF190 (by omega)
   refine V.nt (k187 _ _ ?_)
   refine V.seq fun K198 k199 => ?_
   refine V.seq fun K200 k201 => ?_
   refine V.pl [([0,1,2,3,4,5,6,7,8,9,10],none)] fun w202 hF203 hsw202 => ?_
   have hRB_204 := hRB_192.fr0 hF203
   have hK_205 := hK_193.fr0 hF203
   have hFP_207 := hFP_195.tr0 hF203
   have hR177_209 := hR177_197.fr0 hF203
   have hB189_210 := hB189.fr0 hF203
   refine V.pz h191 [(3, .b hB189_210 3), (4, .b hB189_210 1)] 64 73 [(74, .bool (decide (((T.moved : Int) + 1) < ((T.a.length : Nat) : Int))))] fun a h211 => k201 _ _ ?_
   refine V.cp h211 (((T.moved : Int) + 1) < ((T.a.length : Nat) : Int)) (fun ht212 => ?_) (fun ht212 => ?_)
   ·
    refine V.ret ?_
    refine V.then_r ?_
    refine V.r0 h211 ?_
    have hst : tbStep T = movedT T := by (unfold tbStep; rw [if_neg hb, if_pos (by omega)])
    have hsok := (tbStep_ok hok hm).1
    rw [hst] at hsok ⊢
    exact ⟨rfl, TabM.fin (T := (movedT T)) hsok (fun h => hb (by rw [← movedT_b, h]; rfl)) hB189_210 hR177_209 hRB_204 hlA2 hK_205 (mem4 (l := (((Value.slice A27 ((T.a.getD T.moved []).length) c28).ownBlock.toList ++ (t :: gA :: gB :: av)))) (by simp) (by simp) (by simp) (by intro k hk; simp [hk])) (by first | assumption | omega) (by first | assumption | omega) (by first | assumption | omega) hpt ⟨.inl hpg.1, hpg.2⟩ ⟨.inl hph.1, hph.2⟩ rfl (movedT_a T).symm (by simp [movedT]) rfl rfl hxe (movedT_b T).symm, hFP_207⟩
   ·
    refine V.skip ?_
    refine V.then_n (k199 _ _ ?_)
    refine V.seq fun K213 k214 => ?_
    refine V.pl [([0,1,2,3,4,5,6,7,8,9,10,12,13],some (11,[])),([14],some (15,[])),([16,17],some (18,[])),([],none)] fun w215 hF216 hsw215 => ?_
    have hRB_217 := hRB_204.fr0 hF216
    have hK_218 := hK_205.fr0 hF216
    have hFP_220 := hFP_207.tr0 hF216
    have hB189_223 := hB189_210.fr0 hF216
    refine V.pe h211 [(7, .b hB189_223 2)] 75 86 [(77, .pointer (some ⟨t, 0, none⟩)), (82, .slice (some ⟨gB, 0, none⟩) T.b.length T.b.length), (85, .pointer (some ⟨t, 1, none⟩)), (87, .pointer (some ⟨t, 1, none⟩))] fun a h224 => ?_
    refine V.go (V.stn t 1 (.slice (some ⟨gB, 0, none⟩) T.b.length T.b.length) [.slice (some ⟨gB, 0, none⟩) T.b.length T.b.length] h224.e h224.e rfl rfl (by kernel_rfl) hB189_223 (by simp) [.int .u64 (T.seed : Int), .slice (some ⟨gB, 0, none⟩) T.b.length T.b.length, .slice (some ⟨gB, 0, none⟩) T.b.length T.b.length, .int .i64 ((T.moved : Int) + 1), .int .i64 (T.n : Int)] rfl ?_)
    intro w225 hB226 hF227 hsw225
    have hRB_228 := hRB_217.fr1 hF227 (by omega)
    have hK_229 := hK_218.fr hF227 (by simp)
    have hFP_231 := hFP_220.tr1 hF227 (by first | exact .inl (by assumption) | exact .inr (by omega) | exact .inl (.inl rfl))
    refine V.eh trivial ?_
    refine V.pe h224 [] 1 0 [(88, .pointer (some ⟨t, 2, none⟩))] fun a h234 => ?_
    refine V.go (V.stn t 2 (.slice none 0 0) [.slice none 0 0] h234.e evc rfl rfl (by kernel_rfl) hB226 (by simp) [.int .u64 (T.seed : Int), .slice (some ⟨gB, 0, none⟩) T.b.length T.b.length, .slice none 0 0, .int .i64 ((T.moved : Int) + 1), .int .i64 (T.n : Int)] rfl ?_)
    intro w235 hB236 hF237 hsw235
    have hRB_238 := hRB_228.fr1 hF237 (by omega)
    have hK_239 := hK_229.fr hF237 (by simp)
    have hFP_241 := hFP_231.tr1 hF237 (by first | exact .inl (by assumption) | exact .inr (by omega) | exact .inl (.inl rfl))
    refine V.eh trivial ?_
    refine V.pe h234 [] 89 89 [(90, .pointer (some ⟨t, 3, none⟩))] fun a h244 => ?_
    refine V.go (V.stn t 3 (.int .i64 0) [.int .i64 0] h244.e evc rfl rfl (by kernel_rfl) hB236 (by simp) [.int .u64 (T.seed : Int), .slice (some ⟨gB, 0, none⟩) T.b.length T.b.length, .slice none 0 0, .int .i64 0, .int .i64 (T.n : Int)] rfl ?_)
    intro w245 hB246 hF247 hsw245
    have hRB_248 := hRB_238.fr1 hF247 (by omega)
    have hK_249 := hK_239.fr hF247 (by simp)
    have hFP_251 := hFP_241.tr1 hF247 (by first | exact .inl (by assumption) | exact .inr (by omega) | exact .inl (.inl rfl))
    refine V.eh trivial ?_
    refine V.pz h244 [] 1 0 [] fun a h254 => k214 _ _ ?_
    have h255 := h254.only [(0, .pointer (some ⟨t, 0, none⟩))]
    refine V.seq fun K256 k257 => ?_
    refine V.pl [([0,1,2,3,4,5,6,7,8,9,10],none)] fun w258 hF259 hsw258 => ?_
    have hRB_260 := hRB_248.fr0 hF259
    have hK_261 := hK_249.fr0 hF259
    have hFP_263 := hFP_251.tr0 hF259
    have hB246_266 := hB246.fr0 hF259
    refine V.pz h255 [(3, .b hB246_266 4), (4, .b hB246_266 1)] 91 100 [(101, .bool (decide ((T.n : Int) > ((T.b.length : Nat) : Int))))] fun a h267 => k257 _ _ ?_
    refine V.cp h267 ((T.n : Int) > ((T.b.length : Nat) : Int)) (fun ht268 => ?_) (fun ht268 => ?_)
    ·
     refine V.rg ?_
     refine V.run h267 [(5, .b hB246_266 1), (1, .q (.int .i64 ((2 * T.b.length : Nat) : Int)) (w_mulN (by omega)))] 8 103 108 [(102, .pointer (some ⟨t, 0, none⟩)), (109, .int .i64 ((2 * T.b.length : Nat) : Int))] fun a h269 => ?_
     have hKd270 := hK_261.dropNil hlA2
     have hsok2 : (swapT (movedT T)).Ok := swapT_ok hok hm hb (by omega)
     have hN271 : TabN 91 94 93 itI w258 (gh H w) av t gB vb (swapT (movedT T)) := TabN.mk2 hB246_266 hRB_260 hKd270 (mem3 (by simp) (by simp) (by intro k hk; simp [hk])) hne2 ⟨.inl hpt.1, hpt.2⟩ ⟨.inl hph.1, hph.2⟩ rfl (movedT_b T).symm rfl rfl hxe
     have hmb := movedT_b T
     refine V.cl h269 (Go.Proofs.enters_of Try.func59 (by kernel_rfl) rfl) (start_N w258 (gh H w) av t gB vb (swapT (movedT T)) hsok2 hN271 (2 * T.b.length) rfl (by omega) (by omega)) ?_
     rintro _ w274 ⟨rfl, hT272, hfp273⟩
     refine ⟨_, rfl, fun a h275 => ?_⟩
     have hsw274 := hfp273.size
     have hFP_276 := hFP_263.trP hfp273 (fun k hk => hk.1.imp (fun h => ⟨h, hk.2⟩) id)
     have hT272q := hT272
     rw [show 2 * T.b.length = 2 * (movedT T).b.length by rw [movedT_b]] at hT272q
     refine V.nil ?_
     refine V.e0 h275 ?_
     have hst : tbStep T = startT (swapT (movedT T)) (2 * (movedT T).b.length) := by (unfold tbStep; rw [if_neg hb, if_neg (by omega), if_pos (by rw [movedT_b]; omega)])
     have hsok := (tbStep_ok hok hm).1
     rw [hst] at hsok ⊢
     exact ⟨rfl, hT272q.gr2 (by omega), hFP_276⟩
    ·
     refine V.skip ?_
     refine V.e0 h267 ?_
     have hst : tbStep T = swapT (movedT T) := by (unfold tbStep; rw [if_neg hb, if_neg (by omega), if_neg (by rw [movedT_b]; omega)])
     have hsok := (tbStep_ok hok hm).1
     rw [hst] at hsok ⊢
     have hKd277 := hK_261.dropNil hlA2
     exact ⟨rfl, TabN.fin (T := (swapT (movedT T))) hsok rfl hB246_266 hRB_260 hKd277 (mem3 (l := (((Value.slice A27 ((T.a.getD T.moved []).length) c28).ownBlock.toList ++ (t :: gA :: gB :: av)))) (by simp) (by simp) (by intro k hk; simp [hk])) (by first | assumption | exact Ne.symm (by assumption) | omega) hpt ⟨.inl hph.1, hph.2⟩ rfl (movedT_b T).symm rfl rfl hxe, hFP_263⟩
end Go.Proofs.Ytalhmegjomfbaaa.S
end
section
namespace Go.Proofs.Ytalhmegjomfbaaa.S
open Go.V Go.Base
open Go.RowKit (Below)
attribute [local irreducible] Act.put Act.eval
set_option linter.unusedVariables false
set_option linter.unusedSimpArgs false
set_option maxHeartbeats 4000000 in
set_option maxRecDepth 20000 in
theorem step_N (w : World) (H : Nat → Prop) (av : List Nat) (t gA : Nat) (vsA : List Value) (T : Tb ByteArray) (hok : T.Ok) (hT : TabN 91 94 93 itI w H av t gA vsA T) : Calls Try.prog 55 #[.pointer (some ⟨t, 0, none⟩)] w (fun e w' => e = .returned (.tuple #[]) ∧ Fr [] w w') := by
 have hF := Fr.refl [] w
 obtain ⟨hsd, hpa, hla, hlb, hmv, hmz, hnn, hcn, hks⟩ := hok
 obtain ⟨hB, hRA, hlA, hK, hne, hpt, hpg⟩ := hT
 have hltt := hB.lt
 have hltg := hRA.lt
 refine V.en 111 Try.func55 fun a h1 => ?_
 refine V.seq fun K2 k3 => ?_
 refine V.sg fun K4 k5 => ?_
 refine V.run h1 [] 1 1 0 [(5, .pointer (some ⟨t, 0, none⟩))] fun a h6 => ?_
 refine V.cl h6 (Go.Proofs.enters_of Try.func57 (by kernel_rfl) rfl) (moves_N w t T.seed T.a.length 0 0 gA 0 (.int .i64 (T.moved : Int)) (.int .i64 (T.n : Int)) hB) ?_
 rintro _ w8 ⟨rfl, hF7⟩
 refine ⟨_, rfl, fun a h9 => ?_⟩
 have hsw8 := hF7.size
 have hF_10 := hF.new hF7
 refine V.re h9 [] 1 0 [(7, .bool true)] fun a h14 => k5 _ _ ?_
 refine V.ct h14 ?_
 refine V.ret ?_
 refine V.then_r ?_
 refine V.r0 h14 ?_
 exact ⟨rfl, hF_10⟩
section
variable {w : World} {H : Nat → Prop} {av : List Nat} {t : Nat} {T : Tb ByteArray}
theorem made_any (w : World) (H : Nat → Prop) (av : List Nat) (t : Nat) (T : Tb ByteArray) (hT : TabX 91 94 93 itI w H av t T) : Calls Try.prog 54 #[.pointer (some ⟨t, 0, none⟩)] w (fun e w' => e = .returned (.bool true) ∧ Fr [] w w') := by
  rcases hT.2 with ⟨_, gA, vsA, h⟩ | ⟨_, gA, gB, vsA, vsB, h⟩
  · exact made_N w t T.seed T.a.length 0 0 gA 0 _ _ h.blk
  · exact made_M w t T.seed T.a.length T.b.length 0 gA gB _ _ h.blk
theorem moves_any (w : World) (H : Nat → Prop) (av : List Nat) (t : Nat) (T : Tb ByteArray) (hT : TabX 91 94 93 itI w H av t T) : Calls Try.prog 57 #[.pointer (some ⟨t, 0, none⟩)] w (fun e w' => e = .returned (.bool (decide (T.b.length ≠ 0))) ∧ Fr [] w w') := by
  rcases hT.2 with ⟨hb, gA, vsA, h⟩ | ⟨hb, gA, gB, vsA, vsB, h⟩
  · rw [hb]; exact moves_N w t T.seed T.a.length 0 0 gA 0 _ _ h.blk
  · rw [decide_eq_true (show T.b.length ≠ 0 from fun h => hb (List.eq_nil_of_length_eq_zero h))]; exact moves_M w t T.seed T.a.length T.b.length 0 gA gB _ _ h.blk
theorem find_any (w : World) (H : Nat → Prop) (av : List Nat) (t : Nat) (T : Tb ByteArray) (hT : TabX 91 94 93 itI w H av t T) (k : ByteArray) (hk : k.size ≤ 9223372036854775807) :
    Calls Try.prog 56 #[.pointer (some ⟨t, 0, none⟩), .string k] w (fun e w' => e = .returned (.tuple #[.agg #[.int .i64 (findT T k).1.1, .int .i64 (findT T k).1.2.1, .int .i64 (findT T k).1.2.2], .bool (findT T k).2]) ∧ Fr [] w w') := by
  rcases hT.2 with ⟨hb, gA, vsA, h⟩ | ⟨hb, gA, gB, vsA, vsB, h⟩
  · exact find_N w H av t gA vsA T hT.1 h k hk (by rw [hb]; rfl)
  · exact find_M w H av t gA gB vsA vsB T hT.1 h k hk (fun h => hb (List.eq_nil_of_length_eq_zero h))
theorem step_any (w : World) (H : Nat → Prop) (av : List Nat) (t : Nat) (T : Tb ByteArray) (hT : TabX 91 94 93 itI w H av t T) (hm : T.Mv) :
    Calls Try.prog 55 #[.pointer (some ⟨t, 0, none⟩)] w (fun e w' => e = .returned (.tuple #[]) ∧ TabX 91 94 93 itI w' (gr H w w') av t (tbStep T) ∧ FrP (gp H av) w w') := by
  rcases hT.2 with ⟨hb, gA, vsA, h⟩ | ⟨hb, gA, gB, vsA, vsB, h⟩
  · refine (step_N w H av t gA vsA T hT.1 h).mono fun e w' q => ⟨q.1, ?_, (FrP.refl _ _).tr0 q.2⟩
    rw [show tbStep T = T from by unfold tbStep; rw [if_pos (by rw [hb]; rfl)]]
    exact (hT.fr0 q.2).gr1
  · exact step_M w H av t gA gB vsA vsB T hT.1 h (fun h => hb (List.eq_nil_of_length_eq_zero h)) hm
end
set_option maxHeartbeats 4000000 in
set_option maxRecDepth 20000 in
theorem put_any (w : World) (H : Nat → Prop) (av : List Nat) (t : Nat) (T : Tb ByteArray) (hT : TabX 91 94 93 itI w H av t T) (hm : T.Mv) (k : ByteArray) (hkz : k.size ≤ 9223372036854775807) (v : ByteArray) (hn : T.n < 1099511627776) : Calls Try.prog 25 #[.pointer (some ⟨t, 0, none⟩), .string k, .string v] w (fun e w' => e = .returned (.bool (findT (tbStep T) k).2) ∧ TabX 91 94 93 itI w' (gr H w w') av t (putT T k v) ∧ FrP (gp H av) w w') := by
 have hFP := FrP.refl (gp H av) w
 obtain ⟨hok0, hm1⟩ := tbStep_ok hT.1 hm
 obtain ⟨T1, hT1⟩ : ∃ T1, T1 = tbStep T := ⟨_, rfl⟩
 rw [← hT1] at hok0 hm1 ⊢
 have hn1 : T1.n < 1099511627776 := by rw [hT1, tbStep_n]; exact hn
 refine V.en 99 Try.func25 fun a h1 => ?_
 refine V.sr h1 [] 6 6 [] fun a h4 => ?_
 refine V.seq fun K5 k6 => ?_
 refine V.sg fun K7 k8 => ?_
 refine V.run h4 [] 1 1 0 [(11, .pointer (some ⟨t, 0, none⟩))] fun a h9 => ?_
 refine V.cl h9 (Go.Proofs.enters_of Try.func54 (by kernel_rfl) rfl) (made_any w (H) (av) t (T) hT) ?_
 rintro _ w11 ⟨rfl, hF10⟩
 refine ⟨_, rfl, fun a h12 => ?_⟩
 have hsw11 := hF10.size
 have hT_13 := hT.fr0 hF10
 have hFP_14 := hFP.tr0 hF10
 refine V.re h12 [] 1 0 [(13, .bool false)] fun a h15 => k8 _ _ ?_
 refine V.cf h15 ?_
 refine V.skip ?_
 refine V.then_n (k6 _ _ ?_)
 refine V.sg fun K16 k17 => ?_
 refine V.run h15 [] 1 1 0 [(14, .pointer (some ⟨t, 0, none⟩))] fun a h18 => ?_
 refine V.cl h18 (Go.Proofs.enters_of Try.func55 (by kernel_rfl) rfl) (step_any w11 (H) (av) t (T) hT_13 hm) ?_
 rintro _ w21 ⟨rfl, hT19, hfp20⟩
 refine ⟨_, rfl, fun a h22 => ?_⟩
 have hsw21 := hfp20.size
 have hFP_23 := hFP_14.trP hfp20 (fun k hk => .inl hk)
 have hT19q := hT19.grm (w := w) (by omega)
 rw [← hT1] at hT19q
 refine V.nt (k17 _ _ ?_)
 refine V.seq fun K24 k25 => ?_
 refine V.sg fun K26 k27 => ?_
 refine V.run h22 [] 2 1 0 [(17, .pointer (some ⟨t, 0, none⟩)), (18, .string k)] fun a h28 => ?_
 have hok1 := hT19q.1
 rcases findT_cases hok1 k with hf | ⟨j, hf, hj⟩ | ⟨hbn, j, hf, hj⟩
 ·
  rcases hT19q.2 with ⟨hb0, gA, vsA, hN⟩ | ⟨hb0, gA, gB, vsA, vsB, hN⟩
  ·
   have hb1 : T1.b.length = 0 := by rw [hb0]; rfl
   obtain ⟨hB, hRA, hlA, hK, hne, hpt, hpg⟩ := hN
   replace hK := hK.toH
   have hltt := hB.lt
   have hltg := hRA.lt
   have hE : FrP (gp (gr H w w21) av) w21 w21 := FrP.refl _ _
   have hK0 : ∀ k ∈ av, k < w21.heap.size := fun k hk => hK.avl k (by simp [hk])
   obtain ⟨hsd, hpa, hla, hlb, hmv, hmz, hnn, hcn, hks⟩ := (show T1.Ok from hok1)
   have hbl := hok1.bl
   have hFPE := hFP_23
   refine V.cl (av := #[.pointer (some ⟨t, 0, none⟩), .string k]) h28 (Go.Proofs.enters_of Try.func56 (by kernel_rfl) rfl) (by have h := find_any w21 (gr H w w21) (av) t T1 hT19q k hkz; rw [hf] at h; exact h) ?_
   rintro _ w30 ⟨rfl, hF29⟩
   refine ⟨_, rfl, fun a h31 => ?_⟩
   have hsw30 := hF29.size
   have hB_32 := hB.fr0 hF29
   have hRA_33 := hRA.fr0 hF29
   have hK_34 := hK.fr0 hF29
   have hE_35 := hE.tr0 hF29
   refine V.run h31 [] 3 16 16 [(20, .agg #[.int .i64 0, .int .i64 0, .int .i64 0]), (21, .bool false)] fun a h40 => ?_
   refine V.go (V.mk [] trivial (by kernel_rfl) [.int .i64 0, .int .i64 0, .int .i64 0] 82 (fun b => .pointer (some ⟨b, 0, none⟩)) (by kernel_rfl) ?_)
   intro w37 b36 heb36 hB38 hF39 hsb36
   have hB_41 := hB_32.fr0 hF39
   have hRA_42 := hRA_33.fr0 hF39
   have hK_43 := hK_34.alloc hF39 heb36 (by omega)
   have hE_44 := hE_35.tr0 hF39
   refine V.pt h40 fun a h45 => ?_
   refine V.go (V.stn b36 0 (.agg #[.int .i64 0, .int .i64 0, .int .i64 0]) [.int .i64 0, .int .i64 0, .int .i64 0] h45.e h45.e rfl rfl (by kernel_rfl) hB38 (by simp) [.int .i64 0, .int .i64 0, .int .i64 0] rfl ?_)
   intro w46 hB47 hF48 hsw46
   have hB_49 := hB_41.fr1 hF48 (by omega)
   have hRA_50 := hRA_42.fr1 hF48 (by omega)
   have hK_51 := hK_43.fr hF48 (by simp)
   have hE_52 := hE_44.tr1 hF48 (by first | exact .inl (by assumption) | exact .inr (by omega) | exact .inl (.inl rfl))
   refine V.re h45 [] 1 0 [(8, .bool false)] fun a h53 => k27 _ _ ?_
   refine V.sr h53 [] 1 0 [(22, .bool false)] fun a h56 => ?_
   refine V.cf h56 ?_
   refine V.skip ?_
   refine V.then_n (k25 _ _ ?_)
   refine V.sr h56 [] 1 0 [(9, .int .i64 0)] fun a h59 => ?_
   refine V.seq fun K60 k61 => ?_
   refine V.sg fun K62 k63 => ?_
   refine V.run h59 [] 1 1 0 [(39, .pointer (some ⟨t, 0, none⟩))] fun a h64 => ?_
   refine V.cl h64 (Go.Proofs.enters_of Try.func57 (by kernel_rfl) rfl) (moves_N w46 t T1.seed T1.a.length 0 0 gA 0 (.int .i64 (T1.moved : Int)) (.int .i64 (T1.n : Int)) hB_49) ?_
   rintro _ w66 ⟨rfl, hF65⟩
   refine ⟨_, rfl, fun a h67 => ?_⟩
   have hsw66 := hF65.size
   have hB_68 := hB_49.fr0 hF65
   have hRA_69 := hRA_50.fr0 hF65
   have hK_70 := hK_51.fr0 hF65
   have hE_71 := hE_52.tr0 hF65
   refine V.nt (k63 _ _ ?_)
   refine V.cf h67 ?_
   refine V.skip ?_
   refine V.then_n (k61 _ _ ?_)
   refine V.sg fun K73 k74 => ?_
   refine V.run h67 [] 3 1 0 [(41, .pointer (some ⟨t, 0, none⟩)), (42, .int .i64 0), (43, .string k)] fun a h75 => ?_
   refine V.cl h75 (Go.Proofs.enters_of Try.func58 (by kernel_rfl) rfl) (bucket_N0 w66 t T1.seed T1.a.length 0 0 gA 0 (.int .i64 (T1.moved : Int)) (.int .i64 (T1.n : Int)) hB_68 k (by omega) (by omega) (by omega) (by omega)) ?_
   rintro _ w77 ⟨rfl, hF76⟩
   refine ⟨_, rfl, fun a h78 => ?_⟩
   have hsw77 := hF76.size
   have hB_79 := hB_68.fr0 hF76
   have hRA_80 := hRA_69.fr0 hF76
   have hK_81 := hK_70.fr0 hF76
   have hE_82 := hE_71.tr0 hF76
   have hbl76 := bkt_lt T1.seed k (n := T1.a.length) (by omega)
   refine V.re h78 [] 1 0 [(10, .int .i64 ((bkt T1.seed T1.a.length k : Nat) : Int))] fun a h84 => k74 _ _ ?_
   refine V.seq fun K85 k86 => ?_
   have hbq := hbl (bkt T1.seed T1.a.length k)
   refine V.pl [([0,1,2,3,4,5,6,7,8,9,10,11,12,13,14,15,16,17,18],some (19,[5,12,15])),([],some (20,[5])),([21],some (22,[])),([],none)] fun w87 hF88 hsw87 => ?_
   have hB_89 := hB_79.fr0 hF88
   have hRA_90 := hRA_80.fr0 hF88
   have hK_91 := hK_81.fr0 hF88
   have hE_92 := hE_82.tr0 hF88
   obtain ⟨A94, c95, hv96⟩ := hK_91.getA hlA (i := (bkt T1.seed T1.a.length k)) (by omega) nilS
   have hS97 := hK_91.slA hlA (i := (bkt T1.seed T1.a.length k)) (by omega) hv96
   refine V.pe h84 [(5, .b hB_89 1), (6, .b hB_89 1), (1, .ix gA 0 T1.a.length T1.a.length .i64 ((bkt T1.seed T1.a.length k : Nat) : Int) 1 rfl), (0, .l ⟨gA, 0 + ((bkt T1.seed T1.a.length k : Nat) : Int).toNat * 1, none⟩ (.slice A94 ((T1.a.getD (bkt T1.seed T1.a.length k) []).length) c95) ((hRA_90.at (bkt T1.seed T1.a.length k) nilS (by omega)).trans (congrArg some hv96)))] 45 62 [(49, .pointer (some ⟨t, 1, none⟩)), (50, .slice (some ⟨gA, 0, none⟩) T1.a.length T1.a.length), (51, .int .i64 ((bkt T1.seed T1.a.length k : Nat) : Int)), (56, .pointer (some ⟨t, 1, none⟩)), (59, .pointer (some ⟨gA, 0 + ((bkt T1.seed T1.a.length k : Nat) : Int).toNat * 1, none⟩)), (60, .slice A94 ((T1.a.getD (bkt T1.seed T1.a.length k) []).length) c95), (63, .agg #[.string k, .string v])] fun a h98 => ?_
   refine V.go (V.mk [(63, .agg #[.string k, .string v])] ⟨h98.e, trivial⟩ (by kernel_rfl) [.string k, .string v] 93 (fun b => .slice (some ⟨b, 0, none⟩) 1 1) (by kernel_rfl) ?_)
   intro w100 b99 heb99 hB101 hF102 hsb99
   have hB_103 := hB_89.fr0 hF102
   have hRA_104 := hRA_90.fr0 hF102
   have hK_105 := hK_91.alloc hF102 heb99 (by omega)
   have hE_106 := hE_92.tr0 hF102
   refine V.pt h98 fun a h109 => ?_
   refine V.eh ⟨(fun _ => held_blk (n := 1) (hx := (h98.e (v := (.pointer (some ⟨t, 1, none⟩))))) hB_89 hB_103 (by kernel_rfl) rfl (by simp only [List.length]; omega)), (fun _ => held_blk (n := 1) (hx := (h98.e (v := (.pointer (some ⟨t, 1, none⟩))))) hB_89 hB_103 (by kernel_rfl) rfl (by simp only [List.length]; omega)), (fun _ => held_row (hx := (h98.e (v := (.pointer (some ⟨gA, 0 + ((bkt T1.seed T1.a.length k : Nat) : Int).toNat * 1, none⟩))))) hRA_90 hRA_104 (by kernel_rfl) (by omega))⟩ ?_
   refine V.pe h109 [] 1 0 [] fun a h110 => ?_
   refine V.go (V.appRA (R := itI) (ys := ([(k, v)])) (news := [.string k, .string v]) hK_105 hlA (i := (bkt T1.seed T1.a.length k)) (by omega) hv96 (h110.e (v := (.slice A94 ((T1.a.getD (bkt T1.seed T1.a.length k) []).length) c95))) ⟨b99, 0, none⟩ 1 1 (h110.e (v := (.slice (some ⟨b99, 0, none⟩) 1 1))) (by kernel_rfl) (info93) (by kernel_rfl) (by decide) rfl ⟨[.string k, .string v], [], rfl, rfl, rfl⟩ (blk_cells hB101 0 _ rfl) (by omega) (by decide) (.inr (by omega)) ?_)
   intro A111 c112 w113 hK114 hF115 ho116
   have hsw113 := hF115.size
   have hB_117 := hB_103.fr hF115 (fun hm => (ho116 _ hm).1 (by simp))
   have hRA_118 := hRA_104.fr hF115 (fun hm => (ho116 _ hm).1 (by simp))
   have hE_119 := hE_106.tr hF115 (fun k hk => ((ho116 k hk).2).imp (fun h => ⟨h, fun hm => (ho116 k hk).1 (by simp [hm])⟩) id)
   refine V.pt h110 fun a h121 => ?_
   refine V.eh (fun _ => held_blk (n := 1) (hx := (h110.e (v := (.pointer (some ⟨t, 1, none⟩))))) hB_103 hB_117 (by kernel_rfl) rfl (by simp only [List.length]; omega)) ?_
   refine V.pe h121 [(0, .ix gA 0 T1.a.length T1.a.length .i64 ((bkt T1.seed T1.a.length k : Nat) : Int) 1 rfl)] 1 0 [(66, .pointer (some ⟨gA, 0 + ((bkt T1.seed T1.a.length k : Nat) : Int).toNat * 1, none⟩))] fun a h122 => ?_
   refine V.go (V.strow (enc := idV) gA (((bkt T1.seed T1.a.length k : Nat) : Int).toNat) (.slice A111 ((T1.a.getD (bkt T1.seed T1.a.length k) []).length + 1) c112) h122.e h122.e rfl rfl (by kernel_rfl) hRA_118 (by first | omega | (simp only [List.length_set, List.length_replicate]; omega)) ?_)
   intro w123 hR124 hF125 hsw123
   have hB_126 := hB_117.fr1 hF125 (by omega)
   have hE_127 := hE_119.tr1 hF125 (by first | exact .inl (by assumption) | exact .inr (by omega) | exact .inl (.inl rfl))
   have hK114_129 := hK114.fr hF125 (by simp)
   refine V.eh trivial ?_
   refine V.pz h122 [] 1 0 [] fun a h130 => k86 _ _ ?_
   have h131 := h130.only [(0, .pointer (some ⟨t, 0, none⟩))]
   refine V.sg fun K132 k133 => ?_
   refine V.run h131 [(3, .b hB_126 4), (0, .i ((T1.n : Int) + 1))] 7 67 72 [(71, .int .i64 ((T1.n : Int) + 1)), (73, .pointer (some ⟨t, 4, none⟩))] fun a h137 => ?_
   refine V.go (V.stn t 4 (.int .i64 ((T1.n : Int) + 1)) [.int .i64 ((T1.n : Int) + 1)] h137.e h137.e rfl rfl (by kernel_rfl) hB_126 (by simp) [.int .u64 (T1.seed : Int), .slice (some ⟨gA, 0, none⟩) T1.a.length T1.a.length, .slice none 0 0, .int .i64 (T1.moved : Int), .int .i64 ((T1.n : Int) + 1)] rfl ?_)
   intro w134 hB135 hF136 hsw134
   have hE_138 := hE_127.tr1 hF136 (by first | exact .inl (by assumption) | exact .inr (by omega) | exact .inl (.inl rfl))
   have hK114_140 := hK114_129.fr hF136 (by simp)
   have hR124_141 := hR124.fr1 hF136 (by omega)
   refine V.nt (k133 _ _ ?_)
   refine V.seq fun K142 k143 => ?_
   refine V.seq fun K144 k145 => ?_
   refine V.pl [([0],some (1,[])),([2,3,4,5,6,7,8,9,10,11,12,13,14,15],none)] fun w146 hF147 hsw146 => ?_
   have hE_148 := hE_138.tr0 hF147
   have hK114_150 := hK114_140.fr0 hF147
   have hR124_151 := hR124_141.fr0 hF147
   have hB135_152 := hB135.fr0 hF147
   refine V.pe h137 [] 1 0 [(74, .pointer (some ⟨t, 0, none⟩))] fun a h153 => ?_
   refine V.cl h153 (Go.Proofs.enters_of Try.func57 (by kernel_rfl) rfl) (moves_N w146 t T1.seed T1.a.length 0 0 gA 0 (.int .i64 (T1.moved : Int)) (.int .i64 ((T1.n : Int) + 1)) hB135_152) ?_
   rintro _ w155 ⟨rfl, hF154⟩
   refine ⟨_, rfl, fun a h156 => ?_⟩
   have hsw155 := hF154.size
   have hE_157 := hE_148.tr0 hF154
   have hK114_159 := hK114_150.fr0 hF154
   have hR124_160 := hR124_151.fr0 hF154
   have hB135_161 := hB135_152.fr0 hF154
   refine V.eh trivial ?_
   refine V.pz h156 [(5, .b hB135_161 4), (4, .b hB135_161 1)] 76 88 [(89, .bool (decide (((T1.n : Int) + 1) > ((T1.a.length : Nat) : Int))))] fun a h162 => k145 _ _ ?_
   refine V.cp h162 (((T1.n : Int) + 1) > ((T1.a.length : Nat) : Int)) (fun ht163 => ?_) (fun ht163 => ?_)
   ·
    refine V.rg ?_
    refine V.run h162 [(5, .b hB135_161 1), (1, .q (.int .i64 ((2 * T1.a.length : Nat) : Int)) (w_mulN (by omega)))] 8 91 96 [(90, .pointer (some ⟨t, 0, none⟩)), (97, .int .i64 ((2 * T1.a.length : Nat) : Int))] fun a h164 => ?_
    have hins := insT_ok0 hok1 hb1 (by omega) k hkz v
    have hlp : (putB T1.seed T1.a (k, v)).length = T1.a.length := putB_length _ _ _
    have hN165 : TabN 91 94 93 itI w155 (gh (gr H w w21) w21) av t gA (vsA.set (((bkt T1.seed T1.a.length k : Nat) : Int).toNat) (.slice A111 ((T1.a.getD (bkt T1.seed T1.a.length k) []).length + 1) c112)) ({ T1 with a := putB T1.seed T1.a (k, v), n := T1.n + 1 } : Tb ByteArray) := TabN.mk2 hB135_161 hR124_160 (by simpa [putB] using hK114_159) (mem3 (by simp) (by simp) (by intro k hk; simp [hk])) hne ⟨.inl hpt.1, hpt.2⟩ ⟨.inl hpg.1, hpg.2⟩ rfl hlp.symm rfl (by simp) rfl
    refine V.cl h164 (Go.Proofs.enters_of Try.func59 (by kernel_rfl) rfl) (start_N w155 (gh (gr H w w21) w21) av t gA _ ({ T1 with a := putB T1.seed T1.a (k, v), n := T1.n + 1 } : Tb ByteArray) hins hN165 (2 * T1.a.length) hb0 (by omega) (by omega)) ?_
    rintro _ w168 ⟨rfl, hT166, hfp167⟩
    refine ⟨_, rfl, fun a h169 => ?_⟩
    have hsw168 := hfp167.size
    have hE_170 := hE_157.trP hfp167 (fun k hk => hk.1.imp (fun h => ⟨h, hk.2⟩) id)
    refine V.nt (k143 _ _ ?_)
    refine V.sr h169 [] 1 0 [(6, .bool false)] fun a h173 => ?_
    refine V.ret ?_
    refine V.r1 h173 (.bool false) ?_
    have hst : putT T k v = insT T1 k v := by (unfold putT; rw [← hT1]; unfold put1T; rw [hf, if_neg (by simp)])
    have hup := (insT_ok hok1 hm1 (by omega) k hkz v).1
    rw [hst]
    have hu2 : insT T1 k v = startT ({ T1 with a := putB T1.seed T1.a (k, v), n := T1.n + 1 } : Tb ByteArray) (2 * T1.a.length) := by (unfold insT; rw [if_pos hb1, if_pos (by omega)])
    rw [hu2]
    exact ⟨by rw [hf], (hT166.gr2 (by omega)).gr3 (by omega), (hFPE.gr hE_170)⟩
   ·
    refine V.skip ?_
    refine V.then_n (k143 _ _ ?_)
    refine V.sr h162 [] 1 0 [(6, .bool false)] fun a h176 => ?_
    refine V.ret ?_
    refine V.r1 h176 (.bool false) ?_
    have hst : putT T k v = insT T1 k v := by (unfold putT; rw [← hT1]; unfold put1T; rw [hf, if_neg (by simp)])
    have hup := (insT_ok hok1 hm1 (by omega) k hkz v).1
    rw [hst]
    have hu2 : insT T1 k v = ({ T1 with a := putB T1.seed T1.a (k, v), n := T1.n + 1 } : Tb ByteArray) := by (unfold insT; rw [if_pos hb1, if_neg (by omega)])
    rw [hu2] at hup ⊢
    exact ⟨by rw [hf], (TabN.fin (T := ({ T1 with a := putB T1.seed T1.a (k, v), n := T1.n + 1 })) hup hb0 hB135_161 hR124_160 (by have h := hK114_159; rw [List.append_nil, List.append_nil] at h; exact h) (mem3 (l := (b99 :: b36 :: t :: gA :: av)) (by simp) (by simp) (by intro k hk; simp [hk])) (by first | assumption | exact Ne.symm (by assumption) | omega) hpt ⟨.inl hpg.1, hpg.2⟩ rfl (putB_length _ _ _).symm rfl (by simp) rfl).gr3 (by omega), (hFPE.gr hE_157)⟩
  ·
   have hb1 : T1.b.length ≠ 0 := fun h => hb0 (List.eq_nil_of_length_eq_zero h)
   obtain ⟨hB, hRA, hRB, hlA, hlB, hK, hne, hne2, hne3, hpt, hpg, hph⟩ := hN
   replace hK := hK.toH
   have hltt := hB.lt
   have hltg := hRA.lt
   have hltg2 := hRB.lt
   have hE : FrP (gp (gr H w w21) av) w21 w21 := FrP.refl _ _
   have hK0 : ∀ k ∈ av, k < w21.heap.size := fun k hk => hK.avl k (by simp [hk])
   obtain ⟨hsd, hpa, hla, hlb, hmv, hmz, hnn, hcn, hks⟩ := (show T1.Ok from hok1)
   have hbl := hok1.bl
   have hFPE := hFP_23
   refine V.cl (av := #[.pointer (some ⟨t, 0, none⟩), .string k]) h28 (Go.Proofs.enters_of Try.func56 (by kernel_rfl) rfl) (by have h := find_any w21 (gr H w w21) (av) t T1 hT19q k hkz; rw [hf] at h; exact h) ?_
   rintro _ w178 ⟨rfl, hF177⟩
   refine ⟨_, rfl, fun a h179 => ?_⟩
   have hsw178 := hF177.size
   have hB_180 := hB.fr0 hF177
   have hRA_181 := hRA.fr0 hF177
   have hRB_182 := hRB.fr0 hF177
   have hK_183 := hK.fr0 hF177
   have hE_184 := hE.tr0 hF177
   refine V.run h179 [] 3 16 16 [(20, .agg #[.int .i64 0, .int .i64 0, .int .i64 0]), (21, .bool false)] fun a h189 => ?_
   refine V.go (V.mk [] trivial (by kernel_rfl) [.int .i64 0, .int .i64 0, .int .i64 0] 82 (fun b => .pointer (some ⟨b, 0, none⟩)) (by kernel_rfl) ?_)
   intro w186 b185 heb185 hB187 hF188 hsb185
   have hB_190 := hB_180.fr0 hF188
   have hRA_191 := hRA_181.fr0 hF188
   have hRB_192 := hRB_182.fr0 hF188
   have hK_193 := hK_183.alloc hF188 heb185 (by omega)
   have hE_194 := hE_184.tr0 hF188
   refine V.pt h189 fun a h195 => ?_
   refine V.go (V.stn b185 0 (.agg #[.int .i64 0, .int .i64 0, .int .i64 0]) [.int .i64 0, .int .i64 0, .int .i64 0] h195.e h195.e rfl rfl (by kernel_rfl) hB187 (by simp) [.int .i64 0, .int .i64 0, .int .i64 0] rfl ?_)
   intro w196 hB197 hF198 hsw196
   have hB_199 := hB_190.fr1 hF198 (by omega)
   have hRA_200 := hRA_191.fr1 hF198 (by omega)
   have hRB_201 := hRB_192.fr1 hF198 (by omega)
   have hK_202 := hK_193.fr hF198 (by simp)
   have hE_203 := hE_194.tr1 hF198 (by first | exact .inl (by assumption) | exact .inr (by omega) | exact .inl (.inl rfl))
   refine V.re h195 [] 1 0 [(8, .bool false)] fun a h204 => k27 _ _ ?_
   refine V.sr h204 [] 1 0 [(22, .bool false)] fun a h207 => ?_
   refine V.cf h207 ?_
   refine V.skip ?_
   refine V.then_n (k25 _ _ ?_)
   refine V.sr h207 [] 1 0 [(9, .int .i64 0)] fun a h210 => ?_
   refine V.seq fun K211 k212 => ?_
   refine V.sg fun K213 k214 => ?_
   refine V.run h210 [] 1 1 0 [(39, .pointer (some ⟨t, 0, none⟩))] fun a h215 => ?_
   refine V.cl h215 (Go.Proofs.enters_of Try.func57 (by kernel_rfl) rfl) (moves_M w196 t T1.seed T1.a.length T1.b.length 0 gA gB (.int .i64 (T1.moved : Int)) (.int .i64 (T1.n : Int)) hB_199) ?_
   rintro _ w217 ⟨rfl, hF216⟩
   refine ⟨_, rfl, fun a h218 => ?_⟩
   have hsw217 := hF216.size
   have hB_219 := hB_199.fr0 hF216
   have hRA_220 := hRA_200.fr0 hF216
   have hRB_221 := hRB_201.fr0 hF216
   have hK_222 := hK_202.fr0 hF216
   have hE_223 := hE_203.tr0 hF216
   refine V.nt (k214 _ _ ?_)
   refine V.ct h218 ?_
   refine V.rr h218 [] 1 0 [(9, .int .i64 1)] fun a h225 => ?_
   refine V.then_n (k212 _ _ ?_)
   refine V.sg fun K226 k227 => ?_
   refine V.run h225 [] 3 1 0 [(41, .pointer (some ⟨t, 0, none⟩)), (42, .int .i64 1), (43, .string k)] fun a h228 => ?_
   refine V.cl h228 (Go.Proofs.enters_of Try.func58 (by kernel_rfl) rfl) (bucket_M1 w217 t T1.seed T1.a.length T1.b.length 0 gA gB (.int .i64 (T1.moved : Int)) (.int .i64 (T1.n : Int)) hB_219 k (by omega) (by omega) (by omega) (by omega)) ?_
   rintro _ w230 ⟨rfl, hF229⟩
   refine ⟨_, rfl, fun a h231 => ?_⟩
   have hsw230 := hF229.size
   have hB_232 := hB_219.fr0 hF229
   have hRA_233 := hRA_220.fr0 hF229
   have hRB_234 := hRB_221.fr0 hF229
   have hK_235 := hK_222.fr0 hF229
   have hE_236 := hE_223.tr0 hF229
   have hbl229 := bkt_lt T1.seed k (n := T1.b.length) (by omega)
   refine V.re h231 [] 1 0 [(10, .int .i64 ((bkt T1.seed T1.b.length k : Nat) : Int))] fun a h238 => k227 _ _ ?_
   refine V.seq fun K239 k240 => ?_
   have hbq := hbl (bkt T1.seed T1.b.length k)
   refine V.pl [([0,1,2,3,4,5,6,7,8,9,10,11,12,13,14,15,16,17,18],some (19,[5,12,15])),([],some (20,[5])),([21],some (22,[])),([],none)] fun w241 hF242 hsw241 => ?_
   have hB_243 := hB_232.fr0 hF242
   have hRA_244 := hRA_233.fr0 hF242
   have hRB_245 := hRB_234.fr0 hF242
   have hK_246 := hK_235.fr0 hF242
   have hE_247 := hE_236.tr0 hF242
   obtain ⟨A249, c250, hv251⟩ := hK_246.getB hlA (i := (bkt T1.seed T1.b.length k)) (by omega) nilS
   have hS252 := hK_246.slB hlA (i := (bkt T1.seed T1.b.length k)) (by omega) hv251
   refine V.pe h238 [(5, .b hB_243 2), (6, .b hB_243 2), (1, .ix gB 0 T1.b.length T1.b.length .i64 ((bkt T1.seed T1.b.length k : Nat) : Int) 1 rfl), (0, .l ⟨gB, 0 + ((bkt T1.seed T1.b.length k : Nat) : Int).toNat * 1, none⟩ (.slice A249 ((T1.b.getD (bkt T1.seed T1.b.length k) []).length) c250) ((hRB_245.at (bkt T1.seed T1.b.length k) nilS (by omega)).trans (congrArg some hv251)))] 45 62 [(49, .pointer (some ⟨t, 2, none⟩)), (50, .slice (some ⟨gB, 0, none⟩) T1.b.length T1.b.length), (51, .int .i64 ((bkt T1.seed T1.b.length k : Nat) : Int)), (56, .pointer (some ⟨t, 2, none⟩)), (59, .pointer (some ⟨gB, 0 + ((bkt T1.seed T1.b.length k : Nat) : Int).toNat * 1, none⟩)), (60, .slice A249 ((T1.b.getD (bkt T1.seed T1.b.length k) []).length) c250), (63, .agg #[.string k, .string v])] fun a h253 => ?_
   refine V.go (V.mk [(63, .agg #[.string k, .string v])] ⟨h253.e, trivial⟩ (by kernel_rfl) [.string k, .string v] 93 (fun b => .slice (some ⟨b, 0, none⟩) 1 1) (by kernel_rfl) ?_)
   intro w255 b254 heb254 hB256 hF257 hsb254
   have hB_258 := hB_243.fr0 hF257
   have hRA_259 := hRA_244.fr0 hF257
   have hRB_260 := hRB_245.fr0 hF257
   have hK_261 := hK_246.alloc hF257 heb254 (by omega)
   have hE_262 := hE_247.tr0 hF257
   refine V.pt h253 fun a h265 => ?_
   refine V.eh ⟨(fun _ => held_blk (n := 1) (hx := (h253.e (v := (.pointer (some ⟨t, 2, none⟩))))) hB_243 hB_258 (by kernel_rfl) rfl (by simp only [List.length]; omega)), (fun _ => held_blk (n := 1) (hx := (h253.e (v := (.pointer (some ⟨t, 2, none⟩))))) hB_243 hB_258 (by kernel_rfl) rfl (by simp only [List.length]; omega)), (fun _ => held_row (hx := (h253.e (v := (.pointer (some ⟨gB, 0 + ((bkt T1.seed T1.b.length k : Nat) : Int).toNat * 1, none⟩))))) hRB_245 hRB_260 (by kernel_rfl) (by omega))⟩ ?_
   refine V.pe h265 [] 1 0 [] fun a h266 => ?_
   refine V.go (V.appRB (R := itI) (ys := ([(k, v)])) (news := [.string k, .string v]) hK_261 hlA (i := (bkt T1.seed T1.b.length k)) (by omega) hv251 (h266.e (v := (.slice A249 ((T1.b.getD (bkt T1.seed T1.b.length k) []).length) c250))) ⟨b254, 0, none⟩ 1 1 (h266.e (v := (.slice (some ⟨b254, 0, none⟩) 1 1))) (by kernel_rfl) (info93) (by kernel_rfl) (by decide) rfl ⟨[.string k, .string v], [], rfl, rfl, rfl⟩ (blk_cells hB256 0 _ rfl) (by omega) (by decide) (.inr (by omega)) ?_)
   intro A267 c268 w269 hK270 hF271 ho272
   have hsw269 := hF271.size
   have hB_273 := hB_258.fr hF271 (fun hm => (ho272 _ hm).1 (by simp))
   have hRA_274 := hRA_259.fr hF271 (fun hm => (ho272 _ hm).1 (by simp))
   have hRB_275 := hRB_260.fr hF271 (fun hm => (ho272 _ hm).1 (by simp))
   have hE_276 := hE_262.tr hF271 (fun k hk => ((ho272 k hk).2).imp (fun h => ⟨h, fun hm => (ho272 k hk).1 (by simp [hm])⟩) id)
   refine V.pt h266 fun a h278 => ?_
   refine V.eh (fun _ => held_blk (n := 1) (hx := (h266.e (v := (.pointer (some ⟨t, 2, none⟩))))) hB_258 hB_273 (by kernel_rfl) rfl (by simp only [List.length]; omega)) ?_
   refine V.pe h278 [(0, .ix gB 0 T1.b.length T1.b.length .i64 ((bkt T1.seed T1.b.length k : Nat) : Int) 1 rfl)] 1 0 [(66, .pointer (some ⟨gB, 0 + ((bkt T1.seed T1.b.length k : Nat) : Int).toNat * 1, none⟩))] fun a h279 => ?_
   refine V.go (V.strow (enc := idV) gB (((bkt T1.seed T1.b.length k : Nat) : Int).toNat) (.slice A267 ((T1.b.getD (bkt T1.seed T1.b.length k) []).length + 1) c268) h279.e h279.e rfl rfl (by kernel_rfl) hRB_275 (by first | omega | (simp only [List.length_set, List.length_replicate]; omega)) ?_)
   intro w280 hR281 hF282 hsw280
   have hB_283 := hB_273.fr1 hF282 (by omega)
   have hRA_284 := hRA_274.fr1 hF282 (by omega)
   have hE_285 := hE_276.tr1 hF282 (by first | exact .inl (by assumption) | exact .inr (by omega) | exact .inl (.inl rfl))
   have hK270_287 := hK270.fr hF282 (by simp)
   refine V.eh trivial ?_
   refine V.pz h279 [] 1 0 [] fun a h288 => k240 _ _ ?_
   have h289 := h288.only [(0, .pointer (some ⟨t, 0, none⟩))]
   refine V.sg fun K290 k291 => ?_
   refine V.run h289 [(3, .b hB_283 4), (0, .i ((T1.n : Int) + 1))] 7 67 72 [(71, .int .i64 ((T1.n : Int) + 1)), (73, .pointer (some ⟨t, 4, none⟩))] fun a h295 => ?_
   refine V.go (V.stn t 4 (.int .i64 ((T1.n : Int) + 1)) [.int .i64 ((T1.n : Int) + 1)] h295.e h295.e rfl rfl (by kernel_rfl) hB_283 (by simp) [.int .u64 (T1.seed : Int), .slice (some ⟨gA, 0, none⟩) T1.a.length T1.a.length, .slice (some ⟨gB, 0, none⟩) T1.b.length T1.b.length, .int .i64 (T1.moved : Int), .int .i64 ((T1.n : Int) + 1)] rfl ?_)
   intro w292 hB293 hF294 hsw292
   have hRA_296 := hRA_284.fr1 hF294 (by omega)
   have hE_297 := hE_285.tr1 hF294 (by first | exact .inl (by assumption) | exact .inr (by omega) | exact .inl (.inl rfl))
   have hK270_299 := hK270_287.fr hF294 (by simp)
   have hR281_300 := hR281.fr1 hF294 (by omega)
   refine V.nt (k291 _ _ ?_)
   refine V.seq fun K301 k302 => ?_
   refine V.seq fun K303 k304 => ?_
   refine V.pl [([0],some (1,[])),([2,3,4,5,6,7,8,9,10,11,12,13,14,15],none)] fun w305 hF306 hsw305 => ?_
   have hRA_307 := hRA_296.fr0 hF306
   have hE_308 := hE_297.tr0 hF306
   have hK270_310 := hK270_299.fr0 hF306
   have hR281_311 := hR281_300.fr0 hF306
   have hB293_312 := hB293.fr0 hF306
   refine V.pe h295 [] 1 0 [(74, .pointer (some ⟨t, 0, none⟩))] fun a h313 => ?_
   refine V.cl h313 (Go.Proofs.enters_of Try.func57 (by kernel_rfl) rfl) (moves_M w305 t T1.seed T1.a.length T1.b.length 0 gA gB (.int .i64 (T1.moved : Int)) (.int .i64 ((T1.n : Int) + 1)) hB293_312) ?_
   rintro _ w315 ⟨rfl, hF314⟩
   refine ⟨_, rfl, fun a h316 => ?_⟩
   have hsw315 := hF314.size
   have hRA_317 := hRA_307.fr0 hF314
   have hE_318 := hE_308.tr0 hF314
   have hK270_320 := hK270_310.fr0 hF314
   have hR281_321 := hR281_311.fr0 hF314
   have hB293_322 := hB293_312.fr0 hF314
   refine V.eh trivial ?_
   refine V.pz h316 [] 76 88 [(89, .bool false)] fun a h323 => k304 _ _ ?_
   refine V.cf h323 ?_
   refine V.skip ?_
   refine V.then_n (k302 _ _ ?_)
   refine V.sr h323 [] 1 0 [(6, .bool false)] fun a h326 => ?_
   refine V.ret ?_
   refine V.r1 h326 (.bool false) ?_
   have hst : putT T k v = insT T1 k v := by (unfold putT; rw [← hT1]; unfold put1T; rw [hf, if_neg (by simp)])
   have hup := (insT_ok hok1 hm1 (by omega) k hkz v).1
   rw [hst]
   have hu2 : insT T1 k v = ({ T1 with b := putB T1.seed T1.b (k, v), n := T1.n + 1 } : Tb ByteArray) := by (unfold insT; rw [if_neg hb1])
   rw [hu2] at hup ⊢
   exact ⟨by rw [hf], (TabM.fin (T := ({ T1 with b := putB T1.seed T1.b (k, v), n := T1.n + 1 })) hup (fun h => hb1 (by have := congrArg List.length h; rwa [putB_length] at this)) hB293_322 hRA_317 hR281_321 (by first | exact hlA | (simp only [List.length_set]; exact hlA)) hK270_320 (mem4 (l := (b254 :: b185 :: t :: gA :: gB :: av)) (by simp) (by simp) (by simp) (by intro k hk; simp [hk])) (by first | assumption | omega) (by first | assumption | omega) (by first | assumption | omega) hpt ⟨.inl hpg.1, hpg.2⟩ ⟨.inl hph.1, hph.2⟩ rfl rfl rfl (by simp) rfl rfl (putB_length _ _ _).symm).gr3 (by omega), (hFPE.gr hE_318)⟩
 ·
  rcases hT19q.2 with ⟨hb0, gA, vsA, hN⟩ | ⟨hb0, gA, gB, vsA, vsB, hN⟩
  ·
   have hb1 : T1.b.length = 0 := by rw [hb0]; rfl
   obtain ⟨hB, hRA, hlA, hK, hne, hpt, hpg⟩ := hN
   replace hK := hK.toH
   have hltt := hB.lt
   have hltg := hRA.lt
   have hE : FrP (gp (gr H w w21) av) w21 w21 := FrP.refl _ _
   have hK0 : ∀ k ∈ av, k < w21.heap.size := fun k hk => hK.avl k (by simp [hk])
   obtain ⟨hsd, hpa, hla, hlb, hmv, hmz, hnn, hcn, hks⟩ := (show T1.Ok from hok1)
   have hbl := hok1.bl
   have hFPE := hFP_23
   refine V.cl (av := #[.pointer (some ⟨t, 0, none⟩), .string k]) h28 (Go.Proofs.enters_of Try.func56 (by kernel_rfl) rfl) (by have h := find_any w21 (gr H w w21) (av) t T1 hT19q k hkz; rw [hf] at h; exact h) ?_
   rintro _ w328 ⟨rfl, hF327⟩
   refine ⟨_, rfl, fun a h329 => ?_⟩
   have hsw328 := hF327.size
   have hB_330 := hB.fr0 hF327
   have hRA_331 := hRA.fr0 hF327
   have hK_332 := hK.fr0 hF327
   have hE_333 := hE.tr0 hF327
   have hbkl := bkt_lt T1.seed k (n := T1.a.length) (by omega)
   refine V.run h329 [] 3 16 16 [(20, .agg #[.int .i64 0, .int .i64 ((bkt T1.seed T1.a.length k : Nat) : Int), .int .i64 (j : Int)]), (21, .bool true)] fun a h338 => ?_
   refine V.go (V.mk [] trivial (by kernel_rfl) [.int .i64 0, .int .i64 0, .int .i64 0] 82 (fun b => .pointer (some ⟨b, 0, none⟩)) (by kernel_rfl) ?_)
   intro w335 b334 heb334 hB336 hF337 hsb334
   have hB_339 := hB_330.fr0 hF337
   have hRA_340 := hRA_331.fr0 hF337
   have hK_341 := hK_332.alloc hF337 heb334 (by omega)
   have hE_342 := hE_333.tr0 hF337
   refine V.pt h338 fun a h343 => ?_
   refine V.go (V.stn b334 0 (.agg #[.int .i64 0, .int .i64 ((bkt T1.seed T1.a.length k : Nat) : Int), .int .i64 (j : Int)]) [.int .i64 0, .int .i64 ((bkt T1.seed T1.a.length k : Nat) : Int), .int .i64 (j : Int)] h343.e h343.e rfl rfl (by kernel_rfl) hB336 (by simp) [.int .i64 0, .int .i64 ((bkt T1.seed T1.a.length k : Nat) : Int), .int .i64 (j : Int)] rfl ?_)
   intro w344 hB345 hF346 hsw344
   have hB_347 := hB_339.fr1 hF346 (by omega)
   have hRA_348 := hRA_340.fr1 hF346 (by omega)
   have hK_349 := hK_341.fr hF346 (by simp)
   have hE_350 := hE_342.tr1 hF346 (by first | exact .inl (by assumption) | exact .inr (by omega) | exact .inl (.inl rfl))
   refine V.re h343 [] 1 0 [(8, .bool true)] fun a h351 => k27 _ _ ?_
   refine V.sr h351 [] 1 0 [(22, .bool true)] fun a h354 => ?_
   refine V.ct h354 ?_
   refine V.seq fun K355 k356 => ?_
   refine V.pl [([0,1,2,3,4,5,6,7,8,9,10,11,12,13,14,15],some (16,[])),([],none)] fun w357 hF358 hsw357 => ?_
   have hB_359 := hB_347.fr0 hF358
   have hRA_360 := hRA_348.fr0 hF358
   have hK_361 := hK_349.fr0 hF358
   have hE_362 := hE_350.tr0 hF358
   have hB345_363 := hB345.fr0 hF358
   obtain ⟨A364, c365, hv366⟩ := hK_361.getA hlA (i := (bkt T1.seed T1.a.length k)) (by omega) nilS
   have hS367 := hK_361.slA hlA (i := (bkt T1.seed T1.a.length k)) (by omega) hv366
   obtain ⟨g368, o369, hA370, hA370l, hA370z⟩ := hS367.addr (by omega)
   refine V.pe h354 [(2, .b hB345_363 0), (3, .b hB_359 1), (1, .b hB345_363 1), (0, .ix gA 0 T1.a.length T1.a.length .i64 ((bkt T1.seed T1.a.length k : Nat) : Int) 1 rfl), (0, .l ⟨gA, 0 + ((bkt T1.seed T1.a.length k : Nat) : Int).toNat * 1, none⟩ (.slice A364 ((T1.a.getD (bkt T1.seed T1.a.length k) []).length) c365) ((hRA_360.at (bkt T1.seed T1.a.length k) nilS (by omega)).trans (congrArg some hv366))), (1, .b hB345_363 2), (1, .ix g368 o369 ((T1.a.getD (bkt T1.seed T1.a.length k) []).length) c365 .i64 (j : Int) 2 hA370)] 23 37 [(36, .string v), (38, .pointer (some ⟨g368, (o369 + (j : Int).toNat * 2) + 1, none⟩))] fun a h371 => ?_
   refine V.go (V.stRA (R := itI) (j := j) (f := 1) hK_361 hlA (i := (bkt T1.seed T1.a.length k)) (by omega) hv366 hA370 (by omega) (by decide) (.string v) (fun x => (x.1, v)) (h371.e (v := (.pointer (some ⟨g368, (o369 + (j : Int).toNat * 2) + 1, none⟩)))) (h371.e (v := (.string v))) rfl rfl (by kernel_rfl) (fun w1 x c hc => by (have hc' : c = [.string x.1, .string x.2] := hc; subst hc'; rfl)) ?_)
   intro w372 hK373 hF374 hsw372 ho375
   have hB_376 := hB_359.fr hF374 (fun hm => (ho375 _ hm).1 (by simp))
   have hRA_377 := hRA_360.fr hF374 (fun hm => (ho375 _ hm).1 (by simp))
   have hE_378 := hE_362.tr hF374 (fun k hk => ((ho375 k hk).2).imp (fun h => ⟨h, fun hm => (ho375 k hk).1 (by simp [hm])⟩) id)
   refine V.eh trivial ?_
   refine V.pz h371 [] 1 0 [] fun a h380 => k356 _ _ ?_
   refine V.sr h380 [] 1 0 [(6, .bool true)] fun a h383 => ?_
   refine V.ret ?_
   refine V.then_r ?_
   refine V.r1 h383 (.bool true) ?_
   have hst : putT T k v = ({ T1 with a := setV T1.a (bkt T1.seed T1.a.length k) j v } : Tb ByteArray) := by (unfold putT; rw [← hT1]; unfold put1T; rw [hf, if_pos rfl]; unfold updT; rw [hf]; simp)
   have hup := (updT_ok hok1 hm1 k v).1
   have hu2 : updT T1 k v = ({ T1 with a := setV T1.a (bkt T1.seed T1.a.length k) j v } : Tb ByteArray) := by (unfold updT; rw [hf]; simp)
   rw [hu2] at hup
   rw [hst]
   exact ⟨by rw [hf], (TabN.fin (T := ({ T1 with a := setV T1.a (bkt T1.seed T1.a.length k) j v })) hup hb0 hB_376 hRA_377 (by have h := hK373; rw [List.append_nil, List.append_nil] at h; exact h) (mem3 (l := (b334 :: t :: gA :: av)) (by simp) (by simp) (by intro k hk; simp [hk])) (by first | assumption | exact Ne.symm (by assumption) | omega) hpt ⟨.inl hpg.1, hpg.2⟩ rfl (setV_length _ _ _ _).symm rfl rfl rfl).gr3 (by omega), (hFPE.gr hE_378)⟩
  ·
   have hb1 : T1.b.length ≠ 0 := fun h => hb0 (List.eq_nil_of_length_eq_zero h)
   obtain ⟨hB, hRA, hRB, hlA, hlB, hK, hne, hne2, hne3, hpt, hpg, hph⟩ := hN
   replace hK := hK.toH
   have hltt := hB.lt
   have hltg := hRA.lt
   have hltg2 := hRB.lt
   have hE : FrP (gp (gr H w w21) av) w21 w21 := FrP.refl _ _
   have hK0 : ∀ k ∈ av, k < w21.heap.size := fun k hk => hK.avl k (by simp [hk])
   obtain ⟨hsd, hpa, hla, hlb, hmv, hmz, hnn, hcn, hks⟩ := (show T1.Ok from hok1)
   have hbl := hok1.bl
   have hFPE := hFP_23
   refine V.cl (av := #[.pointer (some ⟨t, 0, none⟩), .string k]) h28 (Go.Proofs.enters_of Try.func56 (by kernel_rfl) rfl) (by have h := find_any w21 (gr H w w21) (av) t T1 hT19q k hkz; rw [hf] at h; exact h) ?_
   rintro _ w385 ⟨rfl, hF384⟩
   refine ⟨_, rfl, fun a h386 => ?_⟩
   have hsw385 := hF384.size
   have hB_387 := hB.fr0 hF384
   have hRA_388 := hRA.fr0 hF384
   have hRB_389 := hRB.fr0 hF384
   have hK_390 := hK.fr0 hF384
   have hE_391 := hE.tr0 hF384
   have hbkl := bkt_lt T1.seed k (n := T1.a.length) (by omega)
   refine V.run h386 [] 3 16 16 [(20, .agg #[.int .i64 0, .int .i64 ((bkt T1.seed T1.a.length k : Nat) : Int), .int .i64 (j : Int)]), (21, .bool true)] fun a h396 => ?_
   refine V.go (V.mk [] trivial (by kernel_rfl) [.int .i64 0, .int .i64 0, .int .i64 0] 82 (fun b => .pointer (some ⟨b, 0, none⟩)) (by kernel_rfl) ?_)
   intro w393 b392 heb392 hB394 hF395 hsb392
   have hB_397 := hB_387.fr0 hF395
   have hRA_398 := hRA_388.fr0 hF395
   have hRB_399 := hRB_389.fr0 hF395
   have hK_400 := hK_390.alloc hF395 heb392 (by omega)
   have hE_401 := hE_391.tr0 hF395
   refine V.pt h396 fun a h402 => ?_
   refine V.go (V.stn b392 0 (.agg #[.int .i64 0, .int .i64 ((bkt T1.seed T1.a.length k : Nat) : Int), .int .i64 (j : Int)]) [.int .i64 0, .int .i64 ((bkt T1.seed T1.a.length k : Nat) : Int), .int .i64 (j : Int)] h402.e h402.e rfl rfl (by kernel_rfl) hB394 (by simp) [.int .i64 0, .int .i64 ((bkt T1.seed T1.a.length k : Nat) : Int), .int .i64 (j : Int)] rfl ?_)
   intro w403 hB404 hF405 hsw403
   have hB_406 := hB_397.fr1 hF405 (by omega)
   have hRA_407 := hRA_398.fr1 hF405 (by omega)
   have hRB_408 := hRB_399.fr1 hF405 (by omega)
   have hK_409 := hK_400.fr hF405 (by simp)
   have hE_410 := hE_401.tr1 hF405 (by first | exact .inl (by assumption) | exact .inr (by omega) | exact .inl (.inl rfl))
   refine V.re h402 [] 1 0 [(8, .bool true)] fun a h411 => k27 _ _ ?_
   refine V.sr h411 [] 1 0 [(22, .bool true)] fun a h414 => ?_
   refine V.ct h414 ?_
   refine V.seq fun K415 k416 => ?_
   refine V.pl [([0,1,2,3,4,5,6,7,8,9,10,11,12,13,14,15],some (16,[])),([],none)] fun w417 hF418 hsw417 => ?_
   have hB_419 := hB_406.fr0 hF418
   have hRA_420 := hRA_407.fr0 hF418
   have hRB_421 := hRB_408.fr0 hF418
   have hK_422 := hK_409.fr0 hF418
   have hE_423 := hE_410.tr0 hF418
   have hB404_424 := hB404.fr0 hF418
   obtain ⟨A425, c426, hv427⟩ := hK_422.getA hlA (i := (bkt T1.seed T1.a.length k)) (by omega) nilS
   have hS428 := hK_422.slA hlA (i := (bkt T1.seed T1.a.length k)) (by omega) hv427
   obtain ⟨g429, o430, hA431, hA431l, hA431z⟩ := hS428.addr (by omega)
   refine V.pe h414 [(2, .b hB404_424 0), (3, .b hB_419 1), (1, .b hB404_424 1), (0, .ix gA 0 T1.a.length T1.a.length .i64 ((bkt T1.seed T1.a.length k : Nat) : Int) 1 rfl), (0, .l ⟨gA, 0 + ((bkt T1.seed T1.a.length k : Nat) : Int).toNat * 1, none⟩ (.slice A425 ((T1.a.getD (bkt T1.seed T1.a.length k) []).length) c426) ((hRA_420.at (bkt T1.seed T1.a.length k) nilS (by omega)).trans (congrArg some hv427))), (1, .b hB404_424 2), (1, .ix g429 o430 ((T1.a.getD (bkt T1.seed T1.a.length k) []).length) c426 .i64 (j : Int) 2 hA431)] 23 37 [(36, .string v), (38, .pointer (some ⟨g429, (o430 + (j : Int).toNat * 2) + 1, none⟩))] fun a h432 => ?_
   refine V.go (V.stRA (R := itI) (j := j) (f := 1) hK_422 hlA (i := (bkt T1.seed T1.a.length k)) (by omega) hv427 hA431 (by omega) (by decide) (.string v) (fun x => (x.1, v)) (h432.e (v := (.pointer (some ⟨g429, (o430 + (j : Int).toNat * 2) + 1, none⟩)))) (h432.e (v := (.string v))) rfl rfl (by kernel_rfl) (fun w1 x c hc => by (have hc' : c = [.string x.1, .string x.2] := hc; subst hc'; rfl)) ?_)
   intro w433 hK434 hF435 hsw433 ho436
   have hB_437 := hB_419.fr hF435 (fun hm => (ho436 _ hm).1 (by simp))
   have hRA_438 := hRA_420.fr hF435 (fun hm => (ho436 _ hm).1 (by simp))
   have hRB_439 := hRB_421.fr hF435 (fun hm => (ho436 _ hm).1 (by simp))
   have hE_440 := hE_423.tr hF435 (fun k hk => ((ho436 k hk).2).imp (fun h => ⟨h, fun hm => (ho436 k hk).1 (by simp [hm])⟩) id)
   refine V.eh trivial ?_
   refine V.pz h432 [] 1 0 [] fun a h442 => k416 _ _ ?_
   refine V.sr h442 [] 1 0 [(6, .bool true)] fun a h445 => ?_
   refine V.ret ?_
   refine V.then_r ?_
   refine V.r1 h445 (.bool true) ?_
   have hst : putT T k v = ({ T1 with a := setV T1.a (bkt T1.seed T1.a.length k) j v } : Tb ByteArray) := by (unfold putT; rw [← hT1]; unfold put1T; rw [hf, if_pos rfl]; unfold updT; rw [hf]; simp)
   have hup := (updT_ok hok1 hm1 k v).1
   have hu2 : updT T1 k v = ({ T1 with a := setV T1.a (bkt T1.seed T1.a.length k) j v } : Tb ByteArray) := by (unfold updT; rw [hf]; simp)
   rw [hu2] at hup
   rw [hst]
   exact ⟨by rw [hf], (TabM.fin (T := ({ T1 with a := setV T1.a (bkt T1.seed T1.a.length k) j v })) hup hb0 hB_437 hRA_438 hRB_439 (by first | exact hlA | (simp only [List.length_set]; exact hlA)) hK434 (mem4 (l := (b392 :: t :: gA :: gB :: av)) (by simp) (by simp) (by simp) (by intro k hk; simp [hk])) (by first | assumption | omega) (by first | assumption | omega) (by first | assumption | omega) hpt ⟨.inl hpg.1, hpg.2⟩ ⟨.inl hph.1, hph.2⟩ rfl (setV_length _ _ _ _).symm rfl rfl rfl rfl rfl).gr3 (by omega), (hFPE.gr hE_440)⟩
 ·
  rcases hT19q.2 with ⟨hb0, gA, vsA, hN⟩ | ⟨hb0, gA, gB, vsA, vsB, hN⟩
  ·
   exact absurd (by rw [hb0]; rfl) hbn
  ·
   have hb1 : T1.b.length ≠ 0 := fun h => hb0 (List.eq_nil_of_length_eq_zero h)
   obtain ⟨hB, hRA, hRB, hlA, hlB, hK, hne, hne2, hne3, hpt, hpg, hph⟩ := hN
   replace hK := hK.toH
   have hltt := hB.lt
   have hltg := hRA.lt
   have hltg2 := hRB.lt
   have hE : FrP (gp (gr H w w21) av) w21 w21 := FrP.refl _ _
   have hK0 : ∀ k ∈ av, k < w21.heap.size := fun k hk => hK.avl k (by simp [hk])
   obtain ⟨hsd, hpa, hla, hlb, hmv, hmz, hnn, hcn, hks⟩ := (show T1.Ok from hok1)
   have hbl := hok1.bl
   have hFPE := hFP_23
   refine V.cl (av := #[.pointer (some ⟨t, 0, none⟩), .string k]) h28 (Go.Proofs.enters_of Try.func56 (by kernel_rfl) rfl) (by have h := find_any w21 (gr H w w21) (av) t T1 hT19q k hkz; rw [hf] at h; exact h) ?_
   rintro _ w447 ⟨rfl, hF446⟩
   refine ⟨_, rfl, fun a h448 => ?_⟩
   have hsw447 := hF446.size
   have hB_449 := hB.fr0 hF446
   have hRA_450 := hRA.fr0 hF446
   have hRB_451 := hRB.fr0 hF446
   have hK_452 := hK.fr0 hF446
   have hE_453 := hE.tr0 hF446
   have hbkl := bkt_lt T1.seed k (n := T1.b.length) (by omega)
   refine V.run h448 [] 3 16 16 [(20, .agg #[.int .i64 1, .int .i64 ((bkt T1.seed T1.b.length k : Nat) : Int), .int .i64 (j : Int)]), (21, .bool true)] fun a h458 => ?_
   refine V.go (V.mk [] trivial (by kernel_rfl) [.int .i64 0, .int .i64 0, .int .i64 0] 82 (fun b => .pointer (some ⟨b, 0, none⟩)) (by kernel_rfl) ?_)
   intro w455 b454 heb454 hB456 hF457 hsb454
   have hB_459 := hB_449.fr0 hF457
   have hRA_460 := hRA_450.fr0 hF457
   have hRB_461 := hRB_451.fr0 hF457
   have hK_462 := hK_452.alloc hF457 heb454 (by omega)
   have hE_463 := hE_453.tr0 hF457
   refine V.pt h458 fun a h464 => ?_
   refine V.go (V.stn b454 0 (.agg #[.int .i64 1, .int .i64 ((bkt T1.seed T1.b.length k : Nat) : Int), .int .i64 (j : Int)]) [.int .i64 1, .int .i64 ((bkt T1.seed T1.b.length k : Nat) : Int), .int .i64 (j : Int)] h464.e h464.e rfl rfl (by kernel_rfl) hB456 (by simp) [.int .i64 1, .int .i64 ((bkt T1.seed T1.b.length k : Nat) : Int), .int .i64 (j : Int)] rfl ?_)
   intro w465 hB466 hF467 hsw465
   have hB_468 := hB_459.fr1 hF467 (by omega)
   have hRA_469 := hRA_460.fr1 hF467 (by omega)
   have hRB_470 := hRB_461.fr1 hF467 (by omega)
   have hK_471 := hK_462.fr hF467 (by simp)
   have hE_472 := hE_463.tr1 hF467 (by first | exact .inl (by assumption) | exact .inr (by omega) | exact .inl (.inl rfl))
   refine V.re h464 [] 1 0 [(8, .bool true)] fun a h473 => k27 _ _ ?_
   refine V.sr h473 [] 1 0 [(22, .bool true)] fun a h476 => ?_
   refine V.ct h476 ?_
   refine V.seq fun K477 k478 => ?_
   refine V.pl [([0,1,2,3,4,5,6,7,8,9,10,11,12,13,14,15],some (16,[])),([],none)] fun w479 hF480 hsw479 => ?_
   have hB_481 := hB_468.fr0 hF480
   have hRA_482 := hRA_469.fr0 hF480
   have hRB_483 := hRB_470.fr0 hF480
   have hK_484 := hK_471.fr0 hF480
   have hE_485 := hE_472.tr0 hF480
   have hB466_486 := hB466.fr0 hF480
   obtain ⟨A487, c488, hv489⟩ := hK_484.getB hlA (i := (bkt T1.seed T1.b.length k)) (by omega) nilS
   have hS490 := hK_484.slB hlA (i := (bkt T1.seed T1.b.length k)) (by omega) hv489
   obtain ⟨g491, o492, hA493, hA493l, hA493z⟩ := hS490.addr (by omega)
   refine V.pe h476 [(2, .b hB466_486 0), (3, .b hB_481 2), (1, .b hB466_486 1), (0, .ix gB 0 T1.b.length T1.b.length .i64 ((bkt T1.seed T1.b.length k : Nat) : Int) 1 rfl), (0, .l ⟨gB, 0 + ((bkt T1.seed T1.b.length k : Nat) : Int).toNat * 1, none⟩ (.slice A487 ((T1.b.getD (bkt T1.seed T1.b.length k) []).length) c488) ((hRB_483.at (bkt T1.seed T1.b.length k) nilS (by omega)).trans (congrArg some hv489))), (1, .b hB466_486 2), (1, .ix g491 o492 ((T1.b.getD (bkt T1.seed T1.b.length k) []).length) c488 .i64 (j : Int) 2 hA493)] 23 37 [(36, .string v), (38, .pointer (some ⟨g491, (o492 + (j : Int).toNat * 2) + 1, none⟩))] fun a h494 => ?_
   refine V.go (V.stRB (R := itI) (j := j) (f := 1) hK_484 hlA (i := (bkt T1.seed T1.b.length k)) (by omega) hv489 hA493 (by omega) (by decide) (.string v) (fun x => (x.1, v)) (h494.e (v := (.pointer (some ⟨g491, (o492 + (j : Int).toNat * 2) + 1, none⟩)))) (h494.e (v := (.string v))) rfl rfl (by kernel_rfl) (fun w1 x c hc => by (have hc' : c = [.string x.1, .string x.2] := hc; subst hc'; rfl)) ?_)
   intro w495 hK496 hF497 hsw495 ho498
   have hB_499 := hB_481.fr hF497 (fun hm => (ho498 _ hm).1 (by simp))
   have hRA_500 := hRA_482.fr hF497 (fun hm => (ho498 _ hm).1 (by simp))
   have hRB_501 := hRB_483.fr hF497 (fun hm => (ho498 _ hm).1 (by simp))
   have hE_502 := hE_485.tr hF497 (fun k hk => ((ho498 k hk).2).imp (fun h => ⟨h, fun hm => (ho498 k hk).1 (by simp [hm])⟩) id)
   refine V.eh trivial ?_
   refine V.pz h494 [] 1 0 [] fun a h504 => k478 _ _ ?_
   refine V.sr h504 [] 1 0 [(6, .bool true)] fun a h507 => ?_
   refine V.ret ?_
   refine V.then_r ?_
   refine V.r1 h507 (.bool true) ?_
   have hst : putT T k v = ({ T1 with b := setV T1.b (bkt T1.seed T1.b.length k) j v } : Tb ByteArray) := by (unfold putT; rw [← hT1]; unfold put1T; rw [hf, if_pos rfl]; unfold updT; rw [hf]; simp)
   have hup := (updT_ok hok1 hm1 k v).1
   have hu2 : updT T1 k v = ({ T1 with b := setV T1.b (bkt T1.seed T1.b.length k) j v } : Tb ByteArray) := by (unfold updT; rw [hf]; simp)
   rw [hu2] at hup
   rw [hst]
   exact ⟨by rw [hf], (TabM.fin (T := ({ T1 with b := setV T1.b (bkt T1.seed T1.b.length k) j v })) hup (fun h => hb1 (by have := congrArg List.length h; rwa [setV_length] at this)) hB_499 hRA_500 hRB_501 (by first | exact hlA | (simp only [List.length_set]; exact hlA)) hK496 (mem4 (l := (b454 :: t :: gA :: gB :: av)) (by simp) (by simp) (by simp) (by intro k hk; simp [hk])) (by first | assumption | omega) (by first | assumption | omega) (by first | assumption | omega) hpt ⟨.inl hpg.1, hpg.2⟩ ⟨.inl hph.1, hph.2⟩ rfl rfl rfl rfl rfl rfl (setV_length _ _ _ _).symm).gr3 (by omega), (hFPE.gr hE_502)⟩
end Go.Proofs.Ytalhmegjomfbaaa.S
end
section
namespace Go.Proofs.Ytalhmegjomfbaaa.S
open Go.V Go.Base
open Go.RowKit (Below)
attribute [local irreducible] Act.put Act.eval
set_option linter.unusedVariables false
set_option linter.unusedSimpArgs false
theorem itI_sz : itI.sz = 2 := rfl
theorem info93c : (Try.prog.info? 93).map (fun i => (i.zero, i.size)) = some (some (.agg #[.string ⟨#[]⟩, .string ⟨#[]⟩]), itI.sz) := by kernel_rfl
set_option maxHeartbeats 4000000 in
set_option maxRecDepth 20000 in
theorem delete_any (w : World) (g c i : Nat) (xs : List (ByteArray × ByteArray)) (hO : OwR itI NoZ w 0 93 (.slice (some ⟨g, 0, none⟩) xs.length c) xs) (hi : i < xs.length) (hc : xs.length ≤ c) (hl : xs.length ≤ 1099511627776) : Calls Try.prog 61 #[.slice (some ⟨g, 0, none⟩) xs.length c, .int .i64 (i : Int), .int .i64 ((i : Int) + 1)] w (fun e w' => e = .returned (.slice (some ⟨g, 0, none⟩) (xs.length - 1) c) ∧ OwR itI NoZ w' 0 93 (.slice (some ⟨g, 0, none⟩) (xs.length - 1) c) (xs.eraseIdx i) ∧ Fr [g] w w') := by
 have hF := Fr.refl [g] w
 have herl : i + (xs.length - (i + 1)) = (xs.eraseIdx i).length := by rw [List.length_eraseIdx_of_lt hi]; omega
 refine V.en 33 Try.func61 fun a h1 => ?_
 refine V.sr h1 [] 6 6 [] fun a h4 => ?_
 refine V.sg fun K5 k6 => ?_
 refine V.run h4 [] 5 11 11 [(8, .slice (some ⟨g, 0, none⟩) xs.length c), (9, .int .i64 (i : Int)), (10, .int .i64 ((i : Int) + 1)), (12, .int .i64 ((xs.length : Nat) : Int))] fun a h7 => ?_
 refine V.go (V.slc (e := 93) (sz := 2) g 0 xs.length c i (i + 1) xs.length (h7.e (v := (.slice (some ⟨g, 0, none⟩) xs.length c))) ⟨_, ((h7.e (v := (.int .i64 (i : Int))))).trans (V.int_eq (by omega))⟩ ⟨_, ((h7.e (v := (.int .i64 ((i : Int) + 1))))).trans (V.int_eq (by omega))⟩ ⟨_, ((h7.e (v := (.int .i64 ((xs.length : Nat) : Int))))).trans (V.int_eq (by omega))⟩ (by omega) (by omega) (by omega) (by kernel_rfl) (by kernel_rfl) ?_)
 intro ad8 had9 hae10
 refine V.pt h7 fun a h11 => ?_
 refine V.nt (k6 _ _ ?_)
 refine V.seq fun K12 k13 => ?_
 refine V.sr h11 [(2, .eq (i : Int) ((i : Int) + 1))] 14 15 [(16, .bool (decide ((i : Int) = ((i : Int) + 1))))] fun a h16 => ?_
 refine V.cp h16 ((i : Int) = ((i : Int) + 1)) (fun ht17 => ?_) (fun ht17 => ?_)
 ·
  refine V.sr h16 [] 17 17 [(6, .slice (some ⟨g, 0, none⟩) xs.length c)] fun a h20 => ?_
  refine V.ret ?_
  refine V.then_r ?_
  refine V.r1 h20 (.slice (some ⟨g, 0, none⟩) xs.length c) ?_
  exact absurd ht17 (by omega)
 ·
  refine V.skip ?_
  refine V.then_n (k13 _ _ ?_)
  refine V.sr h16 [] 18 19 [(7, .int .i64 ((xs.length : Nat) : Int))] fun a h23 => ?_
  refine V.seq fun K24 k25 => ?_
  refine V.pl [([0,1,2,3,4,5],some (6,[])),([7],none)] fun w26 hF27 hsw26 => ?_
  have hF_28 := hF.trans hF27 (by simp <;> omega)
  have hO_29 := hO.fr0 hF27
  refine V.pe0 ?_
  refine V.run h23 [] 2 1 0 [(20, .slice (some ⟨g, 0, none⟩) xs.length c), (21, .int .i64 (i : Int))] fun a h30 => ?_
  refine V.go (V.slc (e := 93) (sz := 2) g 0 xs.length c 0 i c (h30.e (v := (.slice (some ⟨g, 0, none⟩) xs.length c))) rfl ⟨_, ((h30.e (v := (.int .i64 (i : Int))))).trans (V.int_eq (by omega))⟩ rfl (by omega) (by omega) (by omega) (by kernel_rfl) (by kernel_rfl) ?_)
  intro ad31 had32 hae33
  obtain rfl := hae33 rfl
  refine V.pt h30 fun a h34 => ?_
  refine V.run h34 [] 2 1 0 [(23, .slice (some ⟨g, 0, none⟩) xs.length c), (24, .int .i64 ((i : Int) + 1))] fun a h35 => ?_
  refine V.go (V.slc (e := 93) (sz := 2) g 0 xs.length c (i + 1) xs.length c (h35.e (v := (.slice (some ⟨g, 0, none⟩) xs.length c))) ⟨_, ((h35.e (v := (.int .i64 ((i : Int) + 1))))).trans (V.int_eq (by omega))⟩ ⟨rfl, rfl⟩ rfl (by omega) (by omega) (by omega) (by kernel_rfl) (by kernel_rfl) ?_)
  intro ad36 had37 hae38
  refine V.pt h35 fun a h39 => ?_
  refine V.se h39 [] 1 0 [] fun a h40 => ?_
  refine V.go (V.appIn (R := itI) (i := i) (m := xs.length - (i + 1)) hO_29 rfl hi rfl ad36 (fun hq => by rw [had37 (by omega)]; simp [itI_sz]) (h40.e (v := (.slice (some ⟨g, 0, none⟩) (i - 0) (c - 0)))) (h40.e (v := (.slice (some ad36) (xs.length - (i + 1)) (c - (i + 1))))) (by kernel_rfl) (by kernel_rfl) ?_)
  intro w41 cur46 hO42 hF43 hB44 hcl45
  have hsw41 := hF43.size
  have hF_47 := hF_28.trans hF43 (by simp <;> omega)
  refine V.pt h40 fun a h48 => ?_
  refine V.eh trivial ?_
  refine V.pz h48 [] 1 0 [(0, .slice (some ⟨g, 0, none⟩) (i + (xs.length - (i + 1))) c)] fun a h49 => k25 _ _ ?_
  refine V.sg fun K50 k51 => ?_
  refine V.run h49 [] 4 28 28 [(27, .slice (some ⟨g, 0, none⟩) (i + (xs.length - (i + 1))) c), (29, .int .i64 (((i + (xs.length - (i + 1))) : Nat) : Int)), (30, .int .i64 ((xs.length : Nat) : Int))] fun a h52 => ?_
  refine V.go (V.slc (e := 93) (sz := 2) g 0 (i + (xs.length - (i + 1))) c (i + (xs.length - (i + 1))) xs.length c (h52.e (v := (.slice (some ⟨g, 0, none⟩) (i + (xs.length - (i + 1))) c))) ⟨_, ((h52.e (v := (.int .i64 (((i + (xs.length - (i + 1))) : Nat) : Int))))).trans (V.int_eq (by omega))⟩ ⟨_, ((h52.e (v := (.int .i64 ((xs.length : Nat) : Int))))).trans (V.int_eq (by omega))⟩ rfl (by omega) (by omega) (by omega) (by kernel_rfl) (by kernel_rfl) ?_)
  intro ad53 had54 hae55
  obtain rfl := had54 (by omega)
  refine V.pt h52 fun a h56 => ?_
  refine V.go (V.clr1 (R := itI) (n := i + (xs.length - (i + 1))) hO42 herl hB44 hcl45 (by omega) ((h56.e (v := (.slice (some ⟨g, 0 + (i + (xs.length - (i + 1))) * 2, none⟩) (xs.length - (i + (xs.length - (i + 1)))) (c - (i + (xs.length - (i + 1))))))).trans (V.sl_eq (by omega))) (by kernel_rfl) (info93c) rfl rfl ?_)
  intro w57 hO58 hF59 hsw57
  have hF_60 := hF_47.trans hF59 (by simp <;> omega)
  refine V.nt (k51 _ _ ?_)
  refine V.sr h56 [] 32 32 [(6, .slice (some ⟨g, 0, none⟩) (i + (xs.length - (i + 1))) c)] fun a h63 => ?_
  refine V.ret ?_
  refine V.r1 h63 (.slice (some ⟨g, 0, none⟩) (i + (xs.length - (i + 1))) c) ?_
  have hq1 : i + (xs.length - (i + 1)) = xs.length - 1 := by omega
  rw [hq1] at hO58 ⊢
  exact ⟨rfl, hO58, hF_60⟩
set_option maxHeartbeats 4000000 in
set_option maxRecDepth 20000 in
theorem del_any (w : World) (H : Nat → Prop) (av : List Nat) (t : Nat) (T : Tb ByteArray) (hT : TabX 91 94 93 itI w H av t T) (hm : T.Mv) (k : ByteArray) (hkz : k.size ≤ 9223372036854775807) : Calls Try.prog 27 #[.pointer (some ⟨t, 0, none⟩), .string k] w (fun e w' => e = .returned (.bool (findT (tbStep T) k).2) ∧ TabX 91 94 93 itI w' (gr H w w') av t (delT T k) ∧ FrP (gp H av) w w') := by
 have hFP := FrP.refl (gp H av) w
 obtain ⟨hok0, hm1⟩ := tbStep_ok hT.1 hm
 obtain ⟨T1, hT1⟩ : ∃ T1, T1 = tbStep T := ⟨_, rfl⟩
 rw [← hT1] at hok0 hm1 ⊢
 refine V.en 83 Try.func27 fun a h1 => ?_
 refine V.sr h1 [] 4 4 [] fun a h4 => ?_
 refine V.seq fun K5 k6 => ?_
 refine V.sg fun K7 k8 => ?_
 refine V.run h4 [] 1 1 0 [(9, .pointer (some ⟨t, 0, none⟩))] fun a h9 => ?_
 refine V.cl h9 (Go.Proofs.enters_of Try.func54 (by kernel_rfl) rfl) (made_any w (H) (av) t (T) hT) ?_
 rintro _ w11 ⟨rfl, hF10⟩
 refine ⟨_, rfl, fun a h12 => ?_⟩
 have hsw11 := hF10.size
 have hT_13 := hT.fr0 hF10
 have hFP_14 := hFP.tr0 hF10
 refine V.re h12 [] 1 0 [(11, .bool false)] fun a h15 => k8 _ _ ?_
 refine V.cf h15 ?_
 refine V.skip ?_
 refine V.then_n (k6 _ _ ?_)
 refine V.sg fun K16 k17 => ?_
 refine V.run h15 [] 1 1 0 [(12, .pointer (some ⟨t, 0, none⟩))] fun a h18 => ?_
 refine V.cl h18 (Go.Proofs.enters_of Try.func55 (by kernel_rfl) rfl) (step_any w11 (H) (av) t (T) hT_13 hm) ?_
 rintro _ w21 ⟨rfl, hT19, hfp20⟩
 refine ⟨_, rfl, fun a h22 => ?_⟩
 have hsw21 := hfp20.size
 have hFP_23 := hFP_14.trP hfp20 (fun k hk => .inl hk)
 have hT19q := hT19.grm (w := w) (by omega)
 rw [← hT1] at hT19q
 refine V.nt (k17 _ _ ?_)
 refine V.sg fun K24 k25 => ?_
 refine V.run h22 [] 2 1 0 [(15, .pointer (some ⟨t, 0, none⟩)), (16, .string k)] fun a h26 => ?_
 have hok1 := hT19q.1
 rcases findT_cases hok1 k with hf | ⟨j, hf, hj⟩ | ⟨hbn, j, hf, hj⟩
 ·
  rcases hT19q.2 with ⟨hb0, gA, vsA, hN⟩ | ⟨hb0, gA, gB, vsA, vsB, hN⟩
  ·
   have hb1 : T1.b.length = 0 := by rw [hb0]; rfl
   obtain ⟨hB, hRA, hlA, hK, hne, hpt, hpg⟩ := hN
   replace hK := hK.toH
   have hltt := hB.lt
   have hltg := hRA.lt
   have hE : FrP (gp (gr H w w21) av) w21 w21 := FrP.refl _ _
   have hK0 : ∀ k ∈ av, k < w21.heap.size := fun k hk => hK.avl k (by simp [hk])
   obtain ⟨hsd, hpa, hla, hlb, hmv, hmz, hnn, hcn, hks⟩ := (show T1.Ok from hok1)
   have hbl := hok1.bl
   have hFPE := hFP_23
   refine V.cl (av := #[.pointer (some ⟨t, 0, none⟩), .string k]) h26 (Go.Proofs.enters_of Try.func56 (by kernel_rfl) rfl) (by have h := find_any w21 (gr H w w21) (av) t T1 hT19q k hkz; rw [hf] at h; exact h) ?_
   rintro _ w28 ⟨rfl, hF27⟩
   refine ⟨_, rfl, fun a h29 => ?_⟩
   have hsw28 := hF27.size
   have hB_30 := hB.fr0 hF27
   have hRA_31 := hRA.fr0 hF27
   have hK_32 := hK.fr0 hF27
   have hE_33 := hE.tr0 hF27
   refine V.run h29 [] 3 14 14 [(18, .agg #[.int .i64 0, .int .i64 0, .int .i64 0]), (19, .bool false)] fun a h38 => ?_
   refine V.go (V.mk [] trivial (by kernel_rfl) [.int .i64 0, .int .i64 0, .int .i64 0] 82 (fun b => .pointer (some ⟨b, 0, none⟩)) (by kernel_rfl) ?_)
   intro w35 b34 heb34 hB36 hF37 hsb34
   have hB_39 := hB_30.fr0 hF37
   have hRA_40 := hRA_31.fr0 hF37
   have hK_41 := hK_32.alloc hF37 heb34 (by omega)
   have hE_42 := hE_33.tr0 hF37
   refine V.pt h38 fun a h43 => ?_
   refine V.go (V.stn b34 0 (.agg #[.int .i64 0, .int .i64 0, .int .i64 0]) [.int .i64 0, .int .i64 0, .int .i64 0] h43.e h43.e rfl rfl (by kernel_rfl) hB36 (by simp) [.int .i64 0, .int .i64 0, .int .i64 0] rfl ?_)
   intro w44 hB45 hF46 hsw44
   have hB_47 := hB_39.fr1 hF46 (by omega)
   have hRA_48 := hRA_40.fr1 hF46 (by omega)
   have hK_49 := hK_41.fr hF46 (by simp)
   have hE_50 := hE_42.tr1 hF46 (by first | exact .inl (by assumption) | exact .inr (by omega) | exact .inl (.inl rfl))
   refine V.re h43 [] 1 0 [(6, .bool false)] fun a h51 => k25 _ _ ?_
   refine V.seq fun K52 k53 => ?_
   refine V.sr h51 [] 20 20 [(21, .bool true)] fun a h56 => ?_
   refine V.ct h56 ?_
   refine V.sr h56 [] 1 0 [(4, .bool false)] fun a h59 => ?_
   refine V.ret ?_
   refine V.then_r ?_
   refine V.r1 h59 (.bool false) ?_
   have hst : delT T k = T1 := by (unfold delT; rw [← hT1]; unfold del1T; rw [hf, if_neg (by simp)])
   rw [hst]
   exact ⟨by rw [hf], (TabN.fin (T := T1) hok1 hb0 hB_47 hRA_48 (by have h := hK_49; rw [List.append_nil, List.append_nil] at h; exact h) (mem3 (l := (b34 :: t :: gA :: av)) (by simp) (by simp) (by intro k hk; simp [hk])) (by first | assumption | exact Ne.symm (by assumption) | omega) hpt ⟨.inl hpg.1, hpg.2⟩ rfl rfl rfl rfl rfl).gr3 (by omega), (hFPE.gr hE_50)⟩
  ·
   have hb1 : T1.b.length ≠ 0 := fun h => hb0 (List.eq_nil_of_length_eq_zero h)
   obtain ⟨hB, hRA, hRB, hlA, hlB, hK, hne, hne2, hne3, hpt, hpg, hph⟩ := hN
   replace hK := hK.toH
   have hltt := hB.lt
   have hltg := hRA.lt
   have hltg2 := hRB.lt
   have hE : FrP (gp (gr H w w21) av) w21 w21 := FrP.refl _ _
   have hK0 : ∀ k ∈ av, k < w21.heap.size := fun k hk => hK.avl k (by simp [hk])
   obtain ⟨hsd, hpa, hla, hlb, hmv, hmz, hnn, hcn, hks⟩ := (show T1.Ok from hok1)
   have hbl := hok1.bl
   have hFPE := hFP_23
   refine V.cl (av := #[.pointer (some ⟨t, 0, none⟩), .string k]) h26 (Go.Proofs.enters_of Try.func56 (by kernel_rfl) rfl) (by have h := find_any w21 (gr H w w21) (av) t T1 hT19q k hkz; rw [hf] at h; exact h) ?_
   rintro _ w61 ⟨rfl, hF60⟩
   refine ⟨_, rfl, fun a h62 => ?_⟩
   have hsw61 := hF60.size
   have hB_63 := hB.fr0 hF60
   have hRA_64 := hRA.fr0 hF60
   have hRB_65 := hRB.fr0 hF60
   have hK_66 := hK.fr0 hF60
   have hE_67 := hE.tr0 hF60
   refine V.run h62 [] 3 14 14 [(18, .agg #[.int .i64 0, .int .i64 0, .int .i64 0]), (19, .bool false)] fun a h72 => ?_
   refine V.go (V.mk [] trivial (by kernel_rfl) [.int .i64 0, .int .i64 0, .int .i64 0] 82 (fun b => .pointer (some ⟨b, 0, none⟩)) (by kernel_rfl) ?_)
   intro w69 b68 heb68 hB70 hF71 hsb68
   have hB_73 := hB_63.fr0 hF71
   have hRA_74 := hRA_64.fr0 hF71
   have hRB_75 := hRB_65.fr0 hF71
   have hK_76 := hK_66.alloc hF71 heb68 (by omega)
   have hE_77 := hE_67.tr0 hF71
   refine V.pt h72 fun a h78 => ?_
   refine V.go (V.stn b68 0 (.agg #[.int .i64 0, .int .i64 0, .int .i64 0]) [.int .i64 0, .int .i64 0, .int .i64 0] h78.e h78.e rfl rfl (by kernel_rfl) hB70 (by simp) [.int .i64 0, .int .i64 0, .int .i64 0] rfl ?_)
   intro w79 hB80 hF81 hsw79
   have hB_82 := hB_73.fr1 hF81 (by omega)
   have hRA_83 := hRA_74.fr1 hF81 (by omega)
   have hRB_84 := hRB_75.fr1 hF81 (by omega)
   have hK_85 := hK_76.fr hF81 (by simp)
   have hE_86 := hE_77.tr1 hF81 (by first | exact .inl (by assumption) | exact .inr (by omega) | exact .inl (.inl rfl))
   refine V.re h78 [] 1 0 [(6, .bool false)] fun a h87 => k25 _ _ ?_
   refine V.seq fun K88 k89 => ?_
   refine V.sr h87 [] 20 20 [(21, .bool true)] fun a h92 => ?_
   refine V.ct h92 ?_
   refine V.sr h92 [] 1 0 [(4, .bool false)] fun a h95 => ?_
   refine V.ret ?_
   refine V.then_r ?_
   refine V.r1 h95 (.bool false) ?_
   have hst : delT T k = T1 := by (unfold delT; rw [← hT1]; unfold del1T; rw [hf, if_neg (by simp)])
   rw [hst]
   exact ⟨by rw [hf], (TabM.fin (T := T1) hok1 hb0 hB_82 hRA_83 hRB_84 (by first | exact hlA | (simp only [List.length_set]; exact hlA)) hK_85 (mem4 (l := (b68 :: t :: gA :: gB :: av)) (by simp) (by simp) (by simp) (by intro k hk; simp [hk])) (by first | assumption | omega) (by first | assumption | omega) (by first | assumption | omega) hpt ⟨.inl hpg.1, hpg.2⟩ ⟨.inl hph.1, hph.2⟩ rfl rfl rfl rfl rfl rfl rfl).gr3 (by omega), (hFPE.gr hE_86)⟩
 ·
  rcases hT19q.2 with ⟨hb0, gA, vsA, hN⟩ | ⟨hb0, gA, gB, vsA, vsB, hN⟩
  ·
   have hb1 : T1.b.length = 0 := by rw [hb0]; rfl
   obtain ⟨hB, hRA, hlA, hK, hne, hpt, hpg⟩ := hN
   replace hK := hK.toH
   have hltt := hB.lt
   have hltg := hRA.lt
   have hE : FrP (gp (gr H w w21) av) w21 w21 := FrP.refl _ _
   have hK0 : ∀ k ∈ av, k < w21.heap.size := fun k hk => hK.avl k (by simp [hk])
   obtain ⟨hsd, hpa, hla, hlb, hmv, hmz, hnn, hcn, hks⟩ := (show T1.Ok from hok1)
   have hbl := hok1.bl
   have hFPE := hFP_23
   refine V.cl (av := #[.pointer (some ⟨t, 0, none⟩), .string k]) h26 (Go.Proofs.enters_of Try.func56 (by kernel_rfl) rfl) (by have h := find_any w21 (gr H w w21) (av) t T1 hT19q k hkz; rw [hf] at h; exact h) ?_
   rintro _ w97 ⟨rfl, hF96⟩
   refine ⟨_, rfl, fun a h98 => ?_⟩
   have hsw97 := hF96.size
   have hB_99 := hB.fr0 hF96
   have hRA_100 := hRA.fr0 hF96
   have hK_101 := hK.fr0 hF96
   have hE_102 := hE.tr0 hF96
   have hbkl := bkt_lt T1.seed k (n := T1.a.length) (by omega)
   refine V.run h98 [] 3 14 14 [(18, .agg #[.int .i64 0, .int .i64 ((bkt T1.seed T1.a.length k : Nat) : Int), .int .i64 (j : Int)]), (19, .bool true)] fun a h107 => ?_
   refine V.go (V.mk [] trivial (by kernel_rfl) [.int .i64 0, .int .i64 0, .int .i64 0] 82 (fun b => .pointer (some ⟨b, 0, none⟩)) (by kernel_rfl) ?_)
   intro w104 b103 heb103 hB105 hF106 hsb103
   have hB_108 := hB_99.fr0 hF106
   have hRA_109 := hRA_100.fr0 hF106
   have hK_110 := hK_101.alloc hF106 heb103 (by omega)
   have hE_111 := hE_102.tr0 hF106
   refine V.pt h107 fun a h112 => ?_
   refine V.go (V.stn b103 0 (.agg #[.int .i64 0, .int .i64 ((bkt T1.seed T1.a.length k : Nat) : Int), .int .i64 (j : Int)]) [.int .i64 0, .int .i64 ((bkt T1.seed T1.a.length k : Nat) : Int), .int .i64 (j : Int)] h112.e h112.e rfl rfl (by kernel_rfl) hB105 (by simp) [.int .i64 0, .int .i64 ((bkt T1.seed T1.a.length k : Nat) : Int), .int .i64 (j : Int)] rfl ?_)
   intro w113 hB114 hF115 hsw113
   have hB_116 := hB_108.fr1 hF115 (by omega)
   have hRA_117 := hRA_109.fr1 hF115 (by omega)
   have hK_118 := hK_110.fr hF115 (by simp)
   have hE_119 := hE_111.tr1 hF115 (by first | exact .inl (by assumption) | exact .inr (by omega) | exact .inl (.inl rfl))
   refine V.re h112 [] 1 0 [(6, .bool true)] fun a h120 => k25 _ _ ?_
   refine V.seq fun K121 k122 => ?_
   refine V.sr h120 [] 20 20 [(21, .bool false)] fun a h125 => ?_
   refine V.cf h125 ?_
   refine V.skip ?_
   refine V.then_n (k122 _ _ ?_)
   refine V.seq fun K126 k127 => ?_
   have hbq := hbl (bkt T1.seed T1.a.length k)
   refine V.pl [([0,1,2,3,4,5,6,7,8,9,10,11],none)] fun w128 hF129 hsw128 => ?_
   have hB_130 := hB_116.fr0 hF129
   have hRA_131 := hRA_117.fr0 hF129
   have hK_132 := hK_118.fr0 hF129
   have hE_133 := hE_119.tr0 hF129
   have hB114_134 := hB114.fr0 hF129
   obtain ⟨A135, c136, hv137⟩ := hK_132.getA hlA (i := (bkt T1.seed T1.a.length k)) (by omega) nilS
   have hS138 := hK_132.slA hlA (i := (bkt T1.seed T1.a.length k)) (by omega) hv137
   refine V.pz h125 [(2, .b hB114_134 0), (3, .b hB_130 1), (1, .b hB114_134 1), (0, .ix gA 0 T1.a.length T1.a.length .i64 ((bkt T1.seed T1.a.length k : Nat) : Int) 1 rfl), (0, .l ⟨gA, 0 + ((bkt T1.seed T1.a.length k : Nat) : Int).toNat * 1, none⟩ (.slice A135 ((T1.a.getD (bkt T1.seed T1.a.length k) []).length) c136) ((hRA_131.at (bkt T1.seed T1.a.length k) nilS (by omega)).trans (congrArg some hv137)))] 22 32 [(7, .slice A135 ((T1.a.getD (bkt T1.seed T1.a.length k) []).length) c136)] fun a h139 => k127 _ _ ?_
   refine V.seq fun K140 k141 => ?_
   refine V.pl [([0,1,2,3,4,5,6,7,8,9,10,11,12,13,14],some (15,[2,6,8])),([16],some (17,[])),([],none)] fun w142 hF143 hsw142 => ?_
   have hB_144 := hB_130.fr0 hF143
   have hRA_145 := hRA_131.fr0 hF143
   have hK_146 := hK_132.fr0 hF143
   have hE_147 := hE_133.tr0 hF143
   have hB114_148 := hB114_134.fr0 hF143
   refine V.pe h139 [(2, .b hB114_148 0), (3, .b hB_144 1), (1, .b hB114_148 1), (2, .b hB114_148 2), (1, .b hB114_148 2), (0, .i ((j : Int) + 1))] 33 46 [(34, .pointer (some ⟨b103, 0, none⟩)), (38, .pointer (some ⟨t, 1, none⟩)), (39, .slice (some ⟨gA, 0, none⟩) T1.a.length T1.a.length), (40, .pointer (some ⟨b103, 1, none⟩)), (41, .int .i64 ((bkt T1.seed T1.a.length k : Nat) : Int)), (42, .slice A135 ((T1.a.getD (bkt T1.seed T1.a.length k) []).length) c136), (44, .int .i64 (j : Int)), (47, .int .i64 ((j : Int) + 1))] fun a h150 => ?_
   obtain ⟨g151, hAe, hO152, hc153, ho154⟩ := hK_146.ownA hlA (i := (bkt T1.seed T1.a.length k)) (by omega) hv137 (by omega)
   rw [hAe] at hv137
   refine V.cl (av := #[.slice A135 ((T1.a.getD (bkt T1.seed T1.a.length k) []).length) c136, .int .i64 (j : Int), .int .i64 ((j : Int) + 1)]) h150 (Go.Proofs.enters_of Try.func61 (by kernel_rfl) rfl) (by (rw [hAe]; exact delete_any w142 g151 c136 j (T1.a.getD (bkt T1.seed T1.a.length k) []) hO152 (by omega) hc153 (by omega))) ?_
   rintro _ w158 ⟨rfl, hOr155, hF156⟩
   refine ⟨_, rfl, fun a h159 => ?_⟩
   have hsw158 := hF156.size
   have hB_160 := hB_144.fr hF156 (fun hm => (ho154 _ hm).1 (by simp))
   have hRA_161 := hRA_145.fr hF156 (fun hm => (ho154 _ hm).1 (by simp))
   have hE_162 := hE_147.tr hF156 (fun k hk => ((ho154 k hk).2).imp (fun h => ⟨h, fun hm => (ho154 k hk).1 (by simp [hm])⟩) id)
   have hB114_163 := hB114_148.fr hF156 (fun hm => (ho154 _ hm).1 (by simp))
   have hK157 := hK_146.setA hlA (i := (bkt T1.seed T1.a.length k)) (by omega) hv137 hF156 hOr155 (.inr (by omega))
   refine V.eh ⟨(fun _ => held_blk (n := 1) (hx := (h150.e (v := (.pointer (some ⟨b103, 0, none⟩))))) hB114_148 hB114_163 (by kernel_rfl) rfl (by simp only [List.length]; omega)), (fun _ => held_blk (n := 1) (hx := (h150.e (v := (.pointer (some ⟨t, 1, none⟩))))) hB_144 hB_160 (by kernel_rfl) rfl (by simp only [List.length]; omega)), (fun _ => held_blk (n := 1) (hx := (h150.e (v := (.pointer (some ⟨b103, 1, none⟩))))) hB114_148 hB114_163 (by kernel_rfl) rfl (by simp only [List.length]; omega))⟩ ?_
   refine V.pe h159 [(0, .ix gA 0 T1.a.length T1.a.length .i64 ((bkt T1.seed T1.a.length k : Nat) : Int) 1 rfl)] 1 0 [(49, .pointer (some ⟨gA, 0 + ((bkt T1.seed T1.a.length k : Nat) : Int).toNat * 1, none⟩))] fun a h164 => ?_
   refine V.go (V.strow (enc := idV) gA (((bkt T1.seed T1.a.length k : Nat) : Int).toNat) (.slice (some ⟨g151, 0, none⟩) ((T1.a.getD (bkt T1.seed T1.a.length k) []).length - 1) c136) h164.e h164.e rfl rfl (by kernel_rfl) hRA_161 (by first | omega | (simp only [List.length_set, List.length_replicate]; omega)) ?_)
   intro w165 hR166 hF167 hsw165
   have hB_168 := hB_160.fr1 hF167 (by omega)
   have hE_169 := hE_162.tr1 hF167 (by first | exact .inl (by assumption) | exact .inr (by omega) | exact .inl (.inl rfl))
   have hK157_171 := hK157.fr hF167 (by simp)
   refine V.eh trivial ?_
   refine V.pz h164 [] 1 0 [] fun a h172 => k141 _ _ ?_
   have h173 := h172.only [(0, .pointer (some ⟨t, 0, none⟩))]
   refine V.sg fun K174 k175 => ?_
   refine V.run h173 [(3, .b hB_168 4), (0, .i ((T1.n : Int) - 1))] 7 50 55 [(54, .int .i64 ((T1.n : Int) - 1)), (56, .pointer (some ⟨t, 4, none⟩))] fun a h179 => ?_
   refine V.go (V.stn t 4 (.int .i64 ((T1.n : Int) - 1)) [.int .i64 ((T1.n : Int) - 1)] h179.e h179.e rfl rfl (by kernel_rfl) hB_168 (by simp) [.int .u64 (T1.seed : Int), .slice (some ⟨gA, 0, none⟩) T1.a.length T1.a.length, .slice none 0 0, .int .i64 (T1.moved : Int), .int .i64 ((T1.n : Int) - 1)] rfl ?_)
   intro w176 hB177 hF178 hsw176
   have hE_180 := hE_169.tr1 hF178 (by first | exact .inl (by assumption) | exact .inr (by omega) | exact .inl (.inl rfl))
   have hK157_182 := hK157_171.fr hF178 (by simp)
   have hR166_183 := hR166.fr1 hF178 (by omega)
   refine V.nt (k175 _ _ ?_)
   refine V.seq fun K184 k185 => ?_
   refine V.sr h179 [(4, .b hB177 1)] 57 62 [(8, .int .i64 ((T1.a.length : Nat) : Int))] fun a h188 => ?_
   refine V.sg fun K189 k190 => ?_
   refine V.run h188 [] 1 1 0 [(63, .pointer (some ⟨t, 0, none⟩))] fun a h191 => ?_
   refine V.cl h191 (Go.Proofs.enters_of Try.func57 (by kernel_rfl) rfl) (moves_N w176 t T1.seed T1.a.length 0 0 gA 0 (.int .i64 (T1.moved : Int)) (.int .i64 ((T1.n : Int) - 1)) hB177) ?_
   rintro _ w193 ⟨rfl, hF192⟩
   refine ⟨_, rfl, fun a h194 => ?_⟩
   have hsw193 := hF192.size
   have hE_195 := hE_180.tr0 hF192
   have hK157_197 := hK157_182.fr0 hF192
   have hR166_198 := hR166_183.fr0 hF192
   have hB177_199 := hB177.fr0 hF192
   refine V.run h194 [] 6 65 69 [(70, .bool (decide (((T1.a.length : Nat) : Int) > 4)))] fun a h200 => ?_
   by_cases hg201 : ((T1.a.length : Nat) : Int) > 4
   ·
    have h202 := h200.kt 70 hg201
    refine V.re h202 [(3, .b hB177_199 4), (1, .q (.int .i64 (((T1.a.length : Nat) : Int) / 8)) (V.quo_i64 (by omega) (by omega) (by omega)))] 71 77 [(78, .bool (decide (((T1.n : Int) - 1) < (((T1.a.length : Nat) : Int) / 8))))] fun a h203 => k190 _ _ ?_
    refine V.cp h203 (((T1.n : Int) - 1) < (((T1.a.length : Nat) : Int) / 8)) (fun ht204 => ?_) (fun ht204 => ?_)
    ·
     refine V.rg ?_
     refine V.run h203 [(2, .quoN T1.a.length 2)] 3 80 80 [(79, .pointer (some ⟨t, 0, none⟩)), (81, .int .i64 ((T1.a.length / 2 : Nat) : Int))] fun a h205 => ?_
     have hu2 : rm1T T1 k = ({ T1 with a := rmV T1.a (bkt T1.seed T1.a.length k) j, n := T1.n - 1 } : Tb ByteArray) := by (unfold rm1T; rw [hf]; simp)
     have hup := (rm1T_ok hok1 hm1 k (by rw [hf])).1
     rw [hu2] at hup
     have hN206 : TabN 91 94 93 itI w193 (gh (gr H w w21) w21) av t gA (vsA.set (((bkt T1.seed T1.a.length k : Nat) : Int).toNat) (.slice (some ⟨g151, 0, none⟩) ((T1.a.getD (bkt T1.seed T1.a.length k) []).length - 1) c136)) ({ T1 with a := rmV T1.a (bkt T1.seed T1.a.length k) j, n := T1.n - 1 } : Tb ByteArray) := TabN.mk2 hB177_199 hR166_198 (by simpa [rmV] using hK157_197) (mem3 (by simp) (by simp) (by intro k hk; simp [hk])) hne ⟨.inl hpt.1, hpt.2⟩ ⟨.inl hpg.1, hpg.2⟩ rfl (rmV_length _ _ _).symm rfl (by show ((T1.n : Int) - 1) = ((T1.n - 1 : Nat) : Int); omega) rfl
     refine V.cl h205 (Go.Proofs.enters_of Try.func59 (by kernel_rfl) rfl) (start_N w193 (gh (gr H w w21) w21) av t gA _ ({ T1 with a := rmV T1.a (bkt T1.seed T1.a.length k) j, n := T1.n - 1 } : Tb ByteArray) hup hN206 (T1.a.length / 2) hb0 (by omega) (by omega)) ?_
     rintro _ w209 ⟨rfl, hT207, hfp208⟩
     refine ⟨_, rfl, fun a h210 => ?_⟩
     have hsw209 := hfp208.size
     have hE_211 := hE_195.trP hfp208 (fun k hk => hk.1.imp (fun h => ⟨h, hk.2⟩) id)
     refine V.nt (k185 _ _ ?_)
     refine V.sr h210 [] 1 0 [(4, .bool true)] fun a h214 => ?_
     refine V.ret ?_
     refine V.r1 h214 (.bool true) ?_
     have hst : delT T k = shrT (rm1T T1 k) := by (unfold delT; rw [← hT1]; unfold del1T; rw [hf, if_pos rfl])
     rw [hst, hu2]
     have hsh : shrT ({ T1 with a := rmV T1.a (bkt T1.seed T1.a.length k) j, n := T1.n - 1 } : Tb ByteArray) = startT ({ T1 with a := rmV T1.a (bkt T1.seed T1.a.length k) j, n := T1.n - 1 } : Tb ByteArray) (T1.a.length / 2) := by (unfold shrT; rw [if_pos ⟨hb1, by show 4 < (rmV T1.a (bkt T1.seed T1.a.length k) j).length; rw [rmV_length]; omega, by show T1.n - 1 < (rmV T1.a (bkt T1.seed T1.a.length k) j).length / 8; rw [rmV_length]; omega⟩]; show startT _ ((rmV T1.a (bkt T1.seed T1.a.length k) j).length / 2) = _; rw [rmV_length])
     rw [hsh]
     exact ⟨by rw [hf], (hT207.gr2 (by omega)).gr3 (by omega), (hFPE.gr hE_211)⟩
    ·
     refine V.skip ?_
     refine V.then_n (k185 _ _ ?_)
     refine V.sr h203 [] 1 0 [(4, .bool true)] fun a h217 => ?_
     refine V.ret ?_
     refine V.r1 h217 (.bool true) ?_
     have hst : delT T k = shrT (rm1T T1 k) := by (unfold delT; rw [← hT1]; unfold del1T; rw [hf, if_pos rfl])
     have hu2 : rm1T T1 k = ({ T1 with a := rmV T1.a (bkt T1.seed T1.a.length k) j, n := T1.n - 1 } : Tb ByteArray) := by (unfold rm1T; rw [hf]; simp)
     have hup := (rm1T_ok hok1 hm1 k (by rw [hf])).1
     rw [hu2] at hup
     rw [hst, hu2]
     have hsh : shrT ({ T1 with a := rmV T1.a (bkt T1.seed T1.a.length k) j, n := T1.n - 1 } : Tb ByteArray) = ({ T1 with a := rmV T1.a (bkt T1.seed T1.a.length k) j, n := T1.n - 1 } : Tb ByteArray) := by (unfold shrT; rw [if_neg]; rintro ⟨_, h1, h2⟩; (have h3 : 4 < (rmV T1.a (bkt T1.seed T1.a.length k) j).length := h1); (have h4 : T1.n - 1 < (rmV T1.a (bkt T1.seed T1.a.length k) j).length / 8 := h2); rw [rmV_length] at h3 h4; omega)
     rw [hsh]
     exact ⟨by rw [hf], (TabN.fin (T := ({ T1 with a := rmV T1.a (bkt T1.seed T1.a.length k) j, n := T1.n - 1 } : Tb ByteArray)) hup hb0 hB177_199 hR166_198 (by have h := hK157_197; rw [List.append_nil, List.append_nil] at h; exact h) (mem3 (l := (b103 :: t :: gA :: av)) (by simp) (by simp) (by intro k hk; simp [hk])) (by first | assumption | exact Ne.symm (by assumption) | omega) hpt ⟨.inl hpg.1, hpg.2⟩ rfl (rmV_length _ _ _).symm rfl (by show ((T1.n : Int) - 1) = ((T1.n - 1 : Nat) : Int); omega) rfl).gr3 (by omega), (hFPE.gr hE_195)⟩
   ·
    have h218 := h200.kf 70 hg201
    refine V.re h218 [] 71 77 [(78, .bool false)] fun a h219 => k190 _ _ ?_
    refine V.cf h219 ?_
    refine V.skip ?_
    refine V.then_n (k185 _ _ ?_)
    refine V.sr h219 [] 1 0 [(4, .bool true)] fun a h222 => ?_
    refine V.ret ?_
    refine V.r1 h222 (.bool true) ?_
    have hst : delT T k = shrT (rm1T T1 k) := by (unfold delT; rw [← hT1]; unfold del1T; rw [hf, if_pos rfl])
    have hu2 : rm1T T1 k = ({ T1 with a := rmV T1.a (bkt T1.seed T1.a.length k) j, n := T1.n - 1 } : Tb ByteArray) := by (unfold rm1T; rw [hf]; simp)
    have hup := (rm1T_ok hok1 hm1 k (by rw [hf])).1
    rw [hu2] at hup
    rw [hst, hu2]
    have hsh : shrT ({ T1 with a := rmV T1.a (bkt T1.seed T1.a.length k) j, n := T1.n - 1 } : Tb ByteArray) = ({ T1 with a := rmV T1.a (bkt T1.seed T1.a.length k) j, n := T1.n - 1 } : Tb ByteArray) := by (unfold shrT; rw [if_neg]; rintro ⟨_, h1, h2⟩; (have h3 : 4 < (rmV T1.a (bkt T1.seed T1.a.length k) j).length := h1); (have h4 : T1.n - 1 < (rmV T1.a (bkt T1.seed T1.a.length k) j).length / 8 := h2); rw [rmV_length] at h3 h4; omega)
    rw [hsh]
    exact ⟨by rw [hf], (TabN.fin (T := ({ T1 with a := rmV T1.a (bkt T1.seed T1.a.length k) j, n := T1.n - 1 } : Tb ByteArray)) hup hb0 hB177_199 hR166_198 (by have h := hK157_197; rw [List.append_nil, List.append_nil] at h; exact h) (mem3 (l := (b103 :: t :: gA :: av)) (by simp) (by simp) (by intro k hk; simp [hk])) (by first | assumption | exact Ne.symm (by assumption) | omega) hpt ⟨.inl hpg.1, hpg.2⟩ rfl (rmV_length _ _ _).symm rfl (by show ((T1.n : Int) - 1) = ((T1.n - 1 : Nat) : Int); omega) rfl).gr3 (by omega), (hFPE.gr hE_195)⟩
  ·
   have hb1 : T1.b.length ≠ 0 := fun h => hb0 (List.eq_nil_of_length_eq_zero h)
   obtain ⟨hB, hRA, hRB, hlA, hlB, hK, hne, hne2, hne3, hpt, hpg, hph⟩ := hN
   replace hK := hK.toH
   have hltt := hB.lt
   have hltg := hRA.lt
   have hltg2 := hRB.lt
   have hE : FrP (gp (gr H w w21) av) w21 w21 := FrP.refl _ _
   have hK0 : ∀ k ∈ av, k < w21.heap.size := fun k hk => hK.avl k (by simp [hk])
   obtain ⟨hsd, hpa, hla, hlb, hmv, hmz, hnn, hcn, hks⟩ := (show T1.Ok from hok1)
   have hbl := hok1.bl
   have hFPE := hFP_23
   refine V.cl (av := #[.pointer (some ⟨t, 0, none⟩), .string k]) h26 (Go.Proofs.enters_of Try.func56 (by kernel_rfl) rfl) (by have h := find_any w21 (gr H w w21) (av) t T1 hT19q k hkz; rw [hf] at h; exact h) ?_
   rintro _ w224 ⟨rfl, hF223⟩
   refine ⟨_, rfl, fun a h225 => ?_⟩
   have hsw224 := hF223.size
   have hB_226 := hB.fr0 hF223
   have hRA_227 := hRA.fr0 hF223
   have hRB_228 := hRB.fr0 hF223
   have hK_229 := hK.fr0 hF223
   have hE_230 := hE.tr0 hF223
   have hbkl := bkt_lt T1.seed k (n := T1.a.length) (by omega)
   refine V.run h225 [] 3 14 14 [(18, .agg #[.int .i64 0, .int .i64 ((bkt T1.seed T1.a.length k : Nat) : Int), .int .i64 (j : Int)]), (19, .bool true)] fun a h235 => ?_
   refine V.go (V.mk [] trivial (by kernel_rfl) [.int .i64 0, .int .i64 0, .int .i64 0] 82 (fun b => .pointer (some ⟨b, 0, none⟩)) (by kernel_rfl) ?_)
   intro w232 b231 heb231 hB233 hF234 hsb231
   have hB_236 := hB_226.fr0 hF234
   have hRA_237 := hRA_227.fr0 hF234
   have hRB_238 := hRB_228.fr0 hF234
   have hK_239 := hK_229.alloc hF234 heb231 (by omega)
   have hE_240 := hE_230.tr0 hF234
   refine V.pt h235 fun a h241 => ?_
   refine V.go (V.stn b231 0 (.agg #[.int .i64 0, .int .i64 ((bkt T1.seed T1.a.length k : Nat) : Int), .int .i64 (j : Int)]) [.int .i64 0, .int .i64 ((bkt T1.seed T1.a.length k : Nat) : Int), .int .i64 (j : Int)] h241.e h241.e rfl rfl (by kernel_rfl) hB233 (by simp) [.int .i64 0, .int .i64 ((bkt T1.seed T1.a.length k : Nat) : Int), .int .i64 (j : Int)] rfl ?_)
   intro w242 hB243 hF244 hsw242
   have hB_245 := hB_236.fr1 hF244 (by omega)
   have hRA_246 := hRA_237.fr1 hF244 (by omega)
   have hRB_247 := hRB_238.fr1 hF244 (by omega)
   have hK_248 := hK_239.fr hF244 (by simp)
   have hE_249 := hE_240.tr1 hF244 (by first | exact .inl (by assumption) | exact .inr (by omega) | exact .inl (.inl rfl))
   refine V.re h241 [] 1 0 [(6, .bool true)] fun a h250 => k25 _ _ ?_
   refine V.seq fun K251 k252 => ?_
   refine V.sr h250 [] 20 20 [(21, .bool false)] fun a h255 => ?_
   refine V.cf h255 ?_
   refine V.skip ?_
   refine V.then_n (k252 _ _ ?_)
   refine V.seq fun K256 k257 => ?_
   have hbq := hbl (bkt T1.seed T1.a.length k)
   refine V.pl [([0,1,2,3,4,5,6,7,8,9,10,11],none)] fun w258 hF259 hsw258 => ?_
   have hB_260 := hB_245.fr0 hF259
   have hRA_261 := hRA_246.fr0 hF259
   have hRB_262 := hRB_247.fr0 hF259
   have hK_263 := hK_248.fr0 hF259
   have hE_264 := hE_249.tr0 hF259
   have hB243_265 := hB243.fr0 hF259
   obtain ⟨A266, c267, hv268⟩ := hK_263.getA hlA (i := (bkt T1.seed T1.a.length k)) (by omega) nilS
   have hS269 := hK_263.slA hlA (i := (bkt T1.seed T1.a.length k)) (by omega) hv268
   refine V.pz h255 [(2, .b hB243_265 0), (3, .b hB_260 1), (1, .b hB243_265 1), (0, .ix gA 0 T1.a.length T1.a.length .i64 ((bkt T1.seed T1.a.length k : Nat) : Int) 1 rfl), (0, .l ⟨gA, 0 + ((bkt T1.seed T1.a.length k : Nat) : Int).toNat * 1, none⟩ (.slice A266 ((T1.a.getD (bkt T1.seed T1.a.length k) []).length) c267) ((hRA_261.at (bkt T1.seed T1.a.length k) nilS (by omega)).trans (congrArg some hv268)))] 22 32 [(7, .slice A266 ((T1.a.getD (bkt T1.seed T1.a.length k) []).length) c267)] fun a h270 => k257 _ _ ?_
   refine V.seq fun K271 k272 => ?_
   refine V.pl [([0,1,2,3,4,5,6,7,8,9,10,11,12,13,14],some (15,[2,6,8])),([16],some (17,[])),([],none)] fun w273 hF274 hsw273 => ?_
   have hB_275 := hB_260.fr0 hF274
   have hRA_276 := hRA_261.fr0 hF274
   have hRB_277 := hRB_262.fr0 hF274
   have hK_278 := hK_263.fr0 hF274
   have hE_279 := hE_264.tr0 hF274
   have hB243_280 := hB243_265.fr0 hF274
   refine V.pe h270 [(2, .b hB243_280 0), (3, .b hB_275 1), (1, .b hB243_280 1), (2, .b hB243_280 2), (1, .b hB243_280 2), (0, .i ((j : Int) + 1))] 33 46 [(34, .pointer (some ⟨b231, 0, none⟩)), (38, .pointer (some ⟨t, 1, none⟩)), (39, .slice (some ⟨gA, 0, none⟩) T1.a.length T1.a.length), (40, .pointer (some ⟨b231, 1, none⟩)), (41, .int .i64 ((bkt T1.seed T1.a.length k : Nat) : Int)), (42, .slice A266 ((T1.a.getD (bkt T1.seed T1.a.length k) []).length) c267), (44, .int .i64 (j : Int)), (47, .int .i64 ((j : Int) + 1))] fun a h282 => ?_
   obtain ⟨g283, hAe, hO284, hc285, ho286⟩ := hK_278.ownA hlA (i := (bkt T1.seed T1.a.length k)) (by omega) hv268 (by omega)
   rw [hAe] at hv268
   refine V.cl (av := #[.slice A266 ((T1.a.getD (bkt T1.seed T1.a.length k) []).length) c267, .int .i64 (j : Int), .int .i64 ((j : Int) + 1)]) h282 (Go.Proofs.enters_of Try.func61 (by kernel_rfl) rfl) (by (rw [hAe]; exact delete_any w273 g283 c267 j (T1.a.getD (bkt T1.seed T1.a.length k) []) hO284 (by omega) hc285 (by omega))) ?_
   rintro _ w290 ⟨rfl, hOr287, hF288⟩
   refine ⟨_, rfl, fun a h291 => ?_⟩
   have hsw290 := hF288.size
   have hB_292 := hB_275.fr hF288 (fun hm => (ho286 _ hm).1 (by simp))
   have hRA_293 := hRA_276.fr hF288 (fun hm => (ho286 _ hm).1 (by simp))
   have hRB_294 := hRB_277.fr hF288 (fun hm => (ho286 _ hm).1 (by simp))
   have hE_295 := hE_279.tr hF288 (fun k hk => ((ho286 k hk).2).imp (fun h => ⟨h, fun hm => (ho286 k hk).1 (by simp [hm])⟩) id)
   have hB243_296 := hB243_280.fr hF288 (fun hm => (ho286 _ hm).1 (by simp))
   have hK289 := hK_278.setA hlA (i := (bkt T1.seed T1.a.length k)) (by omega) hv268 hF288 hOr287 (.inr (by omega))
   refine V.eh ⟨(fun _ => held_blk (n := 1) (hx := (h282.e (v := (.pointer (some ⟨b231, 0, none⟩))))) hB243_280 hB243_296 (by kernel_rfl) rfl (by simp only [List.length]; omega)), (fun _ => held_blk (n := 1) (hx := (h282.e (v := (.pointer (some ⟨t, 1, none⟩))))) hB_275 hB_292 (by kernel_rfl) rfl (by simp only [List.length]; omega)), (fun _ => held_blk (n := 1) (hx := (h282.e (v := (.pointer (some ⟨b231, 1, none⟩))))) hB243_280 hB243_296 (by kernel_rfl) rfl (by simp only [List.length]; omega))⟩ ?_
   refine V.pe h291 [(0, .ix gA 0 T1.a.length T1.a.length .i64 ((bkt T1.seed T1.a.length k : Nat) : Int) 1 rfl)] 1 0 [(49, .pointer (some ⟨gA, 0 + ((bkt T1.seed T1.a.length k : Nat) : Int).toNat * 1, none⟩))] fun a h297 => ?_
   refine V.go (V.strow (enc := idV) gA (((bkt T1.seed T1.a.length k : Nat) : Int).toNat) (.slice (some ⟨g283, 0, none⟩) ((T1.a.getD (bkt T1.seed T1.a.length k) []).length - 1) c267) h297.e h297.e rfl rfl (by kernel_rfl) hRA_293 (by first | omega | (simp only [List.length_set, List.length_replicate]; omega)) ?_)
   intro w298 hR299 hF300 hsw298
   have hB_301 := hB_292.fr1 hF300 (by omega)
   have hRB_302 := hRB_294.fr1 hF300 (by omega)
   have hE_303 := hE_295.tr1 hF300 (by first | exact .inl (by assumption) | exact .inr (by omega) | exact .inl (.inl rfl))
   have hK289_305 := hK289.fr hF300 (by simp)
   refine V.eh trivial ?_
   refine V.pz h297 [] 1 0 [] fun a h306 => k272 _ _ ?_
   have h307 := h306.only [(0, .pointer (some ⟨t, 0, none⟩))]
   refine V.sg fun K308 k309 => ?_
   refine V.run h307 [(3, .b hB_301 4), (0, .i ((T1.n : Int) - 1))] 7 50 55 [(54, .int .i64 ((T1.n : Int) - 1)), (56, .pointer (some ⟨t, 4, none⟩))] fun a h313 => ?_
   refine V.go (V.stn t 4 (.int .i64 ((T1.n : Int) - 1)) [.int .i64 ((T1.n : Int) - 1)] h313.e h313.e rfl rfl (by kernel_rfl) hB_301 (by simp) [.int .u64 (T1.seed : Int), .slice (some ⟨gA, 0, none⟩) T1.a.length T1.a.length, .slice (some ⟨gB, 0, none⟩) T1.b.length T1.b.length, .int .i64 (T1.moved : Int), .int .i64 ((T1.n : Int) - 1)] rfl ?_)
   intro w310 hB311 hF312 hsw310
   have hRB_314 := hRB_302.fr1 hF312 (by omega)
   have hE_315 := hE_303.tr1 hF312 (by first | exact .inl (by assumption) | exact .inr (by omega) | exact .inl (.inl rfl))
   have hK289_317 := hK289_305.fr hF312 (by simp)
   have hR299_318 := hR299.fr1 hF312 (by omega)
   refine V.nt (k309 _ _ ?_)
   refine V.seq fun K319 k320 => ?_
   refine V.sr h313 [(4, .b hB311 1)] 57 62 [(8, .int .i64 ((T1.a.length : Nat) : Int))] fun a h323 => ?_
   refine V.sg fun K324 k325 => ?_
   refine V.run h323 [] 1 1 0 [(63, .pointer (some ⟨t, 0, none⟩))] fun a h326 => ?_
   refine V.cl h326 (Go.Proofs.enters_of Try.func57 (by kernel_rfl) rfl) (moves_M w310 t T1.seed T1.a.length T1.b.length 0 gA gB (.int .i64 (T1.moved : Int)) (.int .i64 ((T1.n : Int) - 1)) hB311) ?_
   rintro _ w328 ⟨rfl, hF327⟩
   refine ⟨_, rfl, fun a h329 => ?_⟩
   have hsw328 := hF327.size
   have hRB_330 := hRB_314.fr0 hF327
   have hE_331 := hE_315.tr0 hF327
   have hK289_333 := hK289_317.fr0 hF327
   have hR299_334 := hR299_318.fr0 hF327
   have hB311_335 := hB311.fr0 hF327
   refine V.re h329 [] 65 77 [(78, .bool false)] fun a h336 => k325 _ _ ?_
   refine V.cf h336 ?_
   refine V.skip ?_
   refine V.then_n (k320 _ _ ?_)
   refine V.sr h336 [] 1 0 [(4, .bool true)] fun a h339 => ?_
   refine V.ret ?_
   refine V.r1 h339 (.bool true) ?_
   have hst : delT T k = shrT (rm1T T1 k) := by (unfold delT; rw [← hT1]; unfold del1T; rw [hf, if_pos rfl])
   have hu2 : rm1T T1 k = ({ T1 with a := rmV T1.a (bkt T1.seed T1.a.length k) j, n := T1.n - 1 } : Tb ByteArray) := by (unfold rm1T; rw [hf]; simp)
   have hup := (rm1T_ok hok1 hm1 k (by rw [hf])).1
   rw [hu2] at hup
   rw [hst, hu2]
   have hsh : shrT ({ T1 with a := rmV T1.a (bkt T1.seed T1.a.length k) j, n := T1.n - 1 } : Tb ByteArray) = ({ T1 with a := rmV T1.a (bkt T1.seed T1.a.length k) j, n := T1.n - 1 } : Tb ByteArray) := by (unfold shrT; rw [if_neg]; rintro ⟨h0, _⟩; exact hb1 (by first | exact h0 | (have h1 : (rmV T1.b (bkt T1.seed T1.b.length k) j).length = 0 := h0; rwa [rmV_length] at h1)))
   rw [hsh]
   exact ⟨by rw [hf], (TabM.fin (T := ({ T1 with a := rmV T1.a (bkt T1.seed T1.a.length k) j, n := T1.n - 1 } : Tb ByteArray)) hup hb0 hB311_335 hR299_334 hRB_330 (by first | exact hlA | (simp only [List.length_set]; exact hlA)) hK289_333 (mem4 (l := (b231 :: t :: gA :: gB :: av)) (by simp) (by simp) (by simp) (by intro k hk; simp [hk])) (by first | assumption | omega) (by first | assumption | omega) (by first | assumption | omega) hpt ⟨.inl hpg.1, hpg.2⟩ ⟨.inl hph.1, hph.2⟩ rfl (rmV_length _ _ _).symm rfl (by show ((T1.n : Int) - 1) = ((T1.n - 1 : Nat) : Int); omega) rfl rfl rfl).gr3 (by omega), (hFPE.gr hE_331)⟩
 ·
  rcases hT19q.2 with ⟨hb0, gA, vsA, hN⟩ | ⟨hb0, gA, gB, vsA, vsB, hN⟩
  ·
   exact absurd (by rw [hb0]; rfl) hbn
  ·
   have hb1 : T1.b.length ≠ 0 := fun h => hb0 (List.eq_nil_of_length_eq_zero h)
   obtain ⟨hB, hRA, hRB, hlA, hlB, hK, hne, hne2, hne3, hpt, hpg, hph⟩ := hN
   replace hK := hK.toH
   have hltt := hB.lt
   have hltg := hRA.lt
   have hltg2 := hRB.lt
   have hE : FrP (gp (gr H w w21) av) w21 w21 := FrP.refl _ _
   have hK0 : ∀ k ∈ av, k < w21.heap.size := fun k hk => hK.avl k (by simp [hk])
   obtain ⟨hsd, hpa, hla, hlb, hmv, hmz, hnn, hcn, hks⟩ := (show T1.Ok from hok1)
   have hbl := hok1.bl
   have hFPE := hFP_23
   refine V.cl (av := #[.pointer (some ⟨t, 0, none⟩), .string k]) h26 (Go.Proofs.enters_of Try.func56 (by kernel_rfl) rfl) (by have h := find_any w21 (gr H w w21) (av) t T1 hT19q k hkz; rw [hf] at h; exact h) ?_
   rintro _ w341 ⟨rfl, hF340⟩
   refine ⟨_, rfl, fun a h342 => ?_⟩
   have hsw341 := hF340.size
   have hB_343 := hB.fr0 hF340
   have hRA_344 := hRA.fr0 hF340
   have hRB_345 := hRB.fr0 hF340
   have hK_346 := hK.fr0 hF340
   have hE_347 := hE.tr0 hF340
   have hbkl := bkt_lt T1.seed k (n := T1.b.length) (by omega)
   refine V.run h342 [] 3 14 14 [(18, .agg #[.int .i64 1, .int .i64 ((bkt T1.seed T1.b.length k : Nat) : Int), .int .i64 (j : Int)]), (19, .bool true)] fun a h352 => ?_
   refine V.go (V.mk [] trivial (by kernel_rfl) [.int .i64 0, .int .i64 0, .int .i64 0] 82 (fun b => .pointer (some ⟨b, 0, none⟩)) (by kernel_rfl) ?_)
   intro w349 b348 heb348 hB350 hF351 hsb348
   have hB_353 := hB_343.fr0 hF351
   have hRA_354 := hRA_344.fr0 hF351
   have hRB_355 := hRB_345.fr0 hF351
   have hK_356 := hK_346.alloc hF351 heb348 (by omega)
   have hE_357 := hE_347.tr0 hF351
   refine V.pt h352 fun a h358 => ?_
   refine V.go (V.stn b348 0 (.agg #[.int .i64 1, .int .i64 ((bkt T1.seed T1.b.length k : Nat) : Int), .int .i64 (j : Int)]) [.int .i64 1, .int .i64 ((bkt T1.seed T1.b.length k : Nat) : Int), .int .i64 (j : Int)] h358.e h358.e rfl rfl (by kernel_rfl) hB350 (by simp) [.int .i64 1, .int .i64 ((bkt T1.seed T1.b.length k : Nat) : Int), .int .i64 (j : Int)] rfl ?_)
   intro w359 hB360 hF361 hsw359
   have hB_362 := hB_353.fr1 hF361 (by omega)
   have hRA_363 := hRA_354.fr1 hF361 (by omega)
   have hRB_364 := hRB_355.fr1 hF361 (by omega)
   have hK_365 := hK_356.fr hF361 (by simp)
   have hE_366 := hE_357.tr1 hF361 (by first | exact .inl (by assumption) | exact .inr (by omega) | exact .inl (.inl rfl))
   refine V.re h358 [] 1 0 [(6, .bool true)] fun a h367 => k25 _ _ ?_
   refine V.seq fun K368 k369 => ?_
   refine V.sr h367 [] 20 20 [(21, .bool false)] fun a h372 => ?_
   refine V.cf h372 ?_
   refine V.skip ?_
   refine V.then_n (k369 _ _ ?_)
   refine V.seq fun K373 k374 => ?_
   have hbq := hbl (bkt T1.seed T1.b.length k)
   refine V.pl [([0,1,2,3,4,5,6,7,8,9,10,11],none)] fun w375 hF376 hsw375 => ?_
   have hB_377 := hB_362.fr0 hF376
   have hRA_378 := hRA_363.fr0 hF376
   have hRB_379 := hRB_364.fr0 hF376
   have hK_380 := hK_365.fr0 hF376
   have hE_381 := hE_366.tr0 hF376
   have hB360_382 := hB360.fr0 hF376
   obtain ⟨A383, c384, hv385⟩ := hK_380.getB hlA (i := (bkt T1.seed T1.b.length k)) (by omega) nilS
   have hS386 := hK_380.slB hlA (i := (bkt T1.seed T1.b.length k)) (by omega) hv385
   refine V.pz h372 [(2, .b hB360_382 0), (3, .b hB_377 2), (1, .b hB360_382 1), (0, .ix gB 0 T1.b.length T1.b.length .i64 ((bkt T1.seed T1.b.length k : Nat) : Int) 1 rfl), (0, .l ⟨gB, 0 + ((bkt T1.seed T1.b.length k : Nat) : Int).toNat * 1, none⟩ (.slice A383 ((T1.b.getD (bkt T1.seed T1.b.length k) []).length) c384) ((hRB_379.at (bkt T1.seed T1.b.length k) nilS (by omega)).trans (congrArg some hv385)))] 22 32 [(7, .slice A383 ((T1.b.getD (bkt T1.seed T1.b.length k) []).length) c384)] fun a h387 => k374 _ _ ?_
   refine V.seq fun K388 k389 => ?_
   refine V.pl [([0,1,2,3,4,5,6,7,8,9,10,11,12,13,14],some (15,[2,6,8])),([16],some (17,[])),([],none)] fun w390 hF391 hsw390 => ?_
   have hB_392 := hB_377.fr0 hF391
   have hRA_393 := hRA_378.fr0 hF391
   have hRB_394 := hRB_379.fr0 hF391
   have hK_395 := hK_380.fr0 hF391
   have hE_396 := hE_381.tr0 hF391
   have hB360_397 := hB360_382.fr0 hF391
   refine V.pe h387 [(2, .b hB360_397 0), (3, .b hB_392 2), (1, .b hB360_397 1), (2, .b hB360_397 2), (1, .b hB360_397 2), (0, .i ((j : Int) + 1))] 33 46 [(34, .pointer (some ⟨b348, 0, none⟩)), (38, .pointer (some ⟨t, 2, none⟩)), (39, .slice (some ⟨gB, 0, none⟩) T1.b.length T1.b.length), (40, .pointer (some ⟨b348, 1, none⟩)), (41, .int .i64 ((bkt T1.seed T1.b.length k : Nat) : Int)), (42, .slice A383 ((T1.b.getD (bkt T1.seed T1.b.length k) []).length) c384), (44, .int .i64 (j : Int)), (47, .int .i64 ((j : Int) + 1))] fun a h399 => ?_
   obtain ⟨g400, hAe, hO401, hc402, ho403⟩ := hK_395.ownB hlA (i := (bkt T1.seed T1.b.length k)) (by omega) hv385 (by omega)
   rw [hAe] at hv385
   refine V.cl (av := #[.slice A383 ((T1.b.getD (bkt T1.seed T1.b.length k) []).length) c384, .int .i64 (j : Int), .int .i64 ((j : Int) + 1)]) h399 (Go.Proofs.enters_of Try.func61 (by kernel_rfl) rfl) (by (rw [hAe]; exact delete_any w390 g400 c384 j (T1.b.getD (bkt T1.seed T1.b.length k) []) hO401 (by omega) hc402 (by omega))) ?_
   rintro _ w407 ⟨rfl, hOr404, hF405⟩
   refine ⟨_, rfl, fun a h408 => ?_⟩
   have hsw407 := hF405.size
   have hB_409 := hB_392.fr hF405 (fun hm => (ho403 _ hm).1 (by simp))
   have hRA_410 := hRA_393.fr hF405 (fun hm => (ho403 _ hm).1 (by simp))
   have hRB_411 := hRB_394.fr hF405 (fun hm => (ho403 _ hm).1 (by simp))
   have hE_412 := hE_396.tr hF405 (fun k hk => ((ho403 k hk).2).imp (fun h => ⟨h, fun hm => (ho403 k hk).1 (by simp [hm])⟩) id)
   have hB360_413 := hB360_397.fr hF405 (fun hm => (ho403 _ hm).1 (by simp))
   have hK406 := hK_395.setB hlA (i := (bkt T1.seed T1.b.length k)) (by omega) hv385 hF405 hOr404 (.inr (by omega))
   refine V.eh ⟨(fun _ => held_blk (n := 1) (hx := (h399.e (v := (.pointer (some ⟨b348, 0, none⟩))))) hB360_397 hB360_413 (by kernel_rfl) rfl (by simp only [List.length]; omega)), (fun _ => held_blk (n := 1) (hx := (h399.e (v := (.pointer (some ⟨t, 2, none⟩))))) hB_392 hB_409 (by kernel_rfl) rfl (by simp only [List.length]; omega)), (fun _ => held_blk (n := 1) (hx := (h399.e (v := (.pointer (some ⟨b348, 1, none⟩))))) hB360_397 hB360_413 (by kernel_rfl) rfl (by simp only [List.length]; omega))⟩ ?_
   refine V.pe h408 [(0, .ix gB 0 T1.b.length T1.b.length .i64 ((bkt T1.seed T1.b.length k : Nat) : Int) 1 rfl)] 1 0 [(49, .pointer (some ⟨gB, 0 + ((bkt T1.seed T1.b.length k : Nat) : Int).toNat * 1, none⟩))] fun a h414 => ?_
   refine V.go (V.strow (enc := idV) gB (((bkt T1.seed T1.b.length k : Nat) : Int).toNat) (.slice (some ⟨g400, 0, none⟩) ((T1.b.getD (bkt T1.seed T1.b.length k) []).length - 1) c384) h414.e h414.e rfl rfl (by kernel_rfl) hRB_411 (by first | omega | (simp only [List.length_set, List.length_replicate]; omega)) ?_)
   intro w415 hR416 hF417 hsw415
   have hB_418 := hB_409.fr1 hF417 (by omega)
   have hRA_419 := hRA_410.fr1 hF417 (by omega)
   have hE_420 := hE_412.tr1 hF417 (by first | exact .inl (by assumption) | exact .inr (by omega) | exact .inl (.inl rfl))
   have hK406_422 := hK406.fr hF417 (by simp)
   refine V.eh trivial ?_
   refine V.pz h414 [] 1 0 [] fun a h423 => k389 _ _ ?_
   have h424 := h423.only [(0, .pointer (some ⟨t, 0, none⟩))]
   refine V.sg fun K425 k426 => ?_
   refine V.run h424 [(3, .b hB_418 4), (0, .i ((T1.n : Int) - 1))] 7 50 55 [(54, .int .i64 ((T1.n : Int) - 1)), (56, .pointer (some ⟨t, 4, none⟩))] fun a h430 => ?_
   refine V.go (V.stn t 4 (.int .i64 ((T1.n : Int) - 1)) [.int .i64 ((T1.n : Int) - 1)] h430.e h430.e rfl rfl (by kernel_rfl) hB_418 (by simp) [.int .u64 (T1.seed : Int), .slice (some ⟨gA, 0, none⟩) T1.a.length T1.a.length, .slice (some ⟨gB, 0, none⟩) T1.b.length T1.b.length, .int .i64 (T1.moved : Int), .int .i64 ((T1.n : Int) - 1)] rfl ?_)
   intro w427 hB428 hF429 hsw427
   have hRA_431 := hRA_419.fr1 hF429 (by omega)
   have hE_432 := hE_420.tr1 hF429 (by first | exact .inl (by assumption) | exact .inr (by omega) | exact .inl (.inl rfl))
   have hK406_434 := hK406_422.fr hF429 (by simp)
   have hR416_435 := hR416.fr1 hF429 (by omega)
   refine V.nt (k426 _ _ ?_)
   refine V.seq fun K436 k437 => ?_
   refine V.sr h430 [(4, .b hB428 1)] 57 62 [(8, .int .i64 ((T1.a.length : Nat) : Int))] fun a h440 => ?_
   refine V.sg fun K441 k442 => ?_
   refine V.run h440 [] 1 1 0 [(63, .pointer (some ⟨t, 0, none⟩))] fun a h443 => ?_
   refine V.cl h443 (Go.Proofs.enters_of Try.func57 (by kernel_rfl) rfl) (moves_M w427 t T1.seed T1.a.length T1.b.length 0 gA gB (.int .i64 (T1.moved : Int)) (.int .i64 ((T1.n : Int) - 1)) hB428) ?_
   rintro _ w445 ⟨rfl, hF444⟩
   refine ⟨_, rfl, fun a h446 => ?_⟩
   have hsw445 := hF444.size
   have hRA_447 := hRA_431.fr0 hF444
   have hE_448 := hE_432.tr0 hF444
   have hK406_450 := hK406_434.fr0 hF444
   have hR416_451 := hR416_435.fr0 hF444
   have hB428_452 := hB428.fr0 hF444
   refine V.re h446 [] 65 77 [(78, .bool false)] fun a h453 => k442 _ _ ?_
   refine V.cf h453 ?_
   refine V.skip ?_
   refine V.then_n (k437 _ _ ?_)
   refine V.sr h453 [] 1 0 [(4, .bool true)] fun a h456 => ?_
   refine V.ret ?_
   refine V.r1 h456 (.bool true) ?_
   have hst : delT T k = shrT (rm1T T1 k) := by (unfold delT; rw [← hT1]; unfold del1T; rw [hf, if_pos rfl])
   have hu2 : rm1T T1 k = ({ T1 with b := rmV T1.b (bkt T1.seed T1.b.length k) j, n := T1.n - 1 } : Tb ByteArray) := by (unfold rm1T; rw [hf]; simp)
   have hup := (rm1T_ok hok1 hm1 k (by rw [hf])).1
   rw [hu2] at hup
   rw [hst, hu2]
   have hsh : shrT ({ T1 with b := rmV T1.b (bkt T1.seed T1.b.length k) j, n := T1.n - 1 } : Tb ByteArray) = ({ T1 with b := rmV T1.b (bkt T1.seed T1.b.length k) j, n := T1.n - 1 } : Tb ByteArray) := by (unfold shrT; rw [if_neg]; rintro ⟨h0, _⟩; exact hb1 (by first | exact h0 | (have h1 : (rmV T1.b (bkt T1.seed T1.b.length k) j).length = 0 := h0; rwa [rmV_length] at h1)))
   rw [hsh]
   exact ⟨by rw [hf], (TabM.fin (T := ({ T1 with b := rmV T1.b (bkt T1.seed T1.b.length k) j, n := T1.n - 1 } : Tb ByteArray)) hup (fun h => hb1 (by have := congrArg List.length h; rwa [rmV_length] at this)) hB428_452 hRA_447 hR416_451 (by first | exact hlA | (simp only [List.length_set]; exact hlA)) hK406_450 (mem4 (l := (b348 :: t :: gA :: gB :: av)) (by simp) (by simp) (by simp) (by intro k hk; simp [hk])) (by first | assumption | omega) (by first | assumption | omega) (by first | assumption | omega) hpt ⟨.inl hpg.1, hpg.2⟩ ⟨.inl hph.1, hph.2⟩ rfl rfl rfl (by show ((T1.n : Int) - 1) = ((T1.n - 1 : Nat) : Int); omega) rfl rfl (rmV_length _ _ _).symm).gr3 (by omega), (hFPE.gr hE_448)⟩
end Go.Proofs.Ytalhmegjomfbaaa.S
end
section
namespace Go.Proofs.Ytalhmegjomfbaaa.S
open Go.V Go.Base
open Go.RowKit (Below)
attribute [local irreducible] Act.put Act.eval
set_option linter.unusedVariables false
set_option linter.unusedSimpArgs false
set_option maxHeartbeats 4000000 in
set_option maxRecDepth 20000 in
theorem look_any (w : World) (H : Nat → Prop) (av : List Nat) (t : Nat) (T1 : Tb ByteArray) (hT : TabX 91 94 93 itI w H av t T1) (k : ByteArray) (hkz : k.size ≤ 9223372036854775807) : Calls Try.prog 60 #[.pointer (some ⟨t, 0, none⟩), .string k] w (fun e w' => e = .returned (.tuple #[.string (lookT ⟨#[]⟩ T1 k).1, .bool (lookT ⟨#[]⟩ T1 k).2]) ∧ Fr [] w w') := by
 have hFP := FrP.refl (gp H av) w
 have hF := Fr.refl [] w
 refine V.en 38 Try.func60 fun a h1 => ?_
 refine V.sr h1 [] 4 5 [] fun a h4 => ?_
 refine V.sr h4 [] 1 0 [(6, .string ⟨#[]⟩)] fun a h7 => ?_
 refine V.seq fun K8 k9 => ?_
 refine V.sg fun K10 k11 => ?_
 refine V.run h7 [] 1 1 0 [(9, .pointer (some ⟨t, 0, none⟩))] fun a h12 => ?_
 refine V.cl h12 (Go.Proofs.enters_of Try.func54 (by kernel_rfl) rfl) (made_any w (H) (av) t (T1) hT) ?_
 rintro _ w14 ⟨rfl, hF13⟩
 refine ⟨_, rfl, fun a h15 => ?_⟩
 have hsw14 := hF13.size
 have hT_16 := hT.fr0 hF13
 have hFP_17 := hFP.tr0 hF13
 have hF_18 := hF.new hF13
 refine V.re h15 [] 1 0 [(11, .bool false)] fun a h19 => k11 _ _ ?_
 refine V.cf h19 ?_
 refine V.skip ?_
 refine V.then_n (k9 _ _ ?_)
 refine V.sg fun K20 k21 => ?_
 refine V.run h19 [] 2 1 0 [(14, .pointer (some ⟨t, 0, none⟩)), (15, .string k)] fun a h22 => ?_
 have hok1 := hT_16.1
 rcases findT_cases hok1 k with hf | ⟨j, hf, hj⟩ | ⟨hbn, j, hf, hj⟩
 ·
  rcases hT_16.2 with ⟨hb0, gA, vsA, hN⟩ | ⟨hb0, gA, gB, vsA, vsB, hN⟩
  ·
   have hb1 : T1.b.length = 0 := by rw [hb0]; rfl
   obtain ⟨hB, hRA, hlA, hK, hne, hpt, hpg⟩ := hN
   replace hK := hK.toH
   have hltt := hB.lt
   have hltg := hRA.lt
   have hE : FrP (gp (H) av) w14 w14 := FrP.refl _ _
   have hK0 : ∀ k ∈ av, k < w14.heap.size := fun k hk => hK.avl k (by simp [hk])
   obtain ⟨hsd, hpa, hla, hlb, hmv, hmz, hnn, hcn, hks⟩ := (show T1.Ok from hok1)
   have hbl := hok1.bl
   have hFPE := hFP_17
   refine V.cl (av := #[.pointer (some ⟨t, 0, none⟩), .string k]) h22 (Go.Proofs.enters_of Try.func56 (by kernel_rfl) rfl) (by have h := find_any w14 (H) (av) t T1 hT_16 k hkz; rw [hf] at h; exact h) ?_
   rintro _ w24 ⟨rfl, hF23⟩
   refine ⟨_, rfl, fun a h25 => ?_⟩
   have hsw24 := hF23.size
   have hF_26 := hF_18.new hF23
   refine V.run h25 [] 3 13 13 [(17, .agg #[.int .i64 0, .int .i64 0, .int .i64 0]), (18, .bool false)] fun a h35 => ?_
   refine V.go (V.mk [] trivial (by kernel_rfl) [.int .i64 0, .int .i64 0, .int .i64 0] 82 (fun b => .pointer (some ⟨b, 0, none⟩)) (by kernel_rfl) ?_)
   intro w32 b31 heb31 hB33 hF34 hsb31
   have hF_36 := hF_26.new hF34
   refine V.pt h35 fun a h41 => ?_
   refine V.go (V.stn b31 0 (.agg #[.int .i64 0, .int .i64 0, .int .i64 0]) [.int .i64 0, .int .i64 0, .int .i64 0] h41.e h41.e rfl rfl (by kernel_rfl) hB33 (by simp) [.int .i64 0, .int .i64 0, .int .i64 0] rfl ?_)
   intro w42 hB43 hF44 hsw42
   have hF_45 := hF_36.own hF44 (by simp <;> omega)
   refine V.re h41 [] 1 0 [(8, .bool false)] fun a h50 => k21 _ _ ?_
   refine V.seq fun K51 k52 => ?_
   refine V.sr h50 [] 19 19 [(20, .bool true)] fun a h55 => ?_
   refine V.ct h55 ?_
   refine V.sr h55 [] 21 21 [(4, .string ⟨#[]⟩), (5, .bool false)] fun a h58 => ?_
   refine V.ret ?_
   refine V.then_r ?_
   refine V.r2 h58 (.string ⟨#[]⟩) (.bool false) ?_
   refine ⟨?_, hF_45⟩
   unfold lookT; rw [hf]
   rfl
  ·
   have hb1 : T1.b.length ≠ 0 := fun h => hb0 (List.eq_nil_of_length_eq_zero h)
   obtain ⟨hB, hRA, hRB, hlA, hlB, hK, hne, hne2, hne3, hpt, hpg, hph⟩ := hN
   replace hK := hK.toH
   have hltt := hB.lt
   have hltg := hRA.lt
   have hltg2 := hRB.lt
   have hE : FrP (gp (H) av) w14 w14 := FrP.refl _ _
   have hK0 : ∀ k ∈ av, k < w14.heap.size := fun k hk => hK.avl k (by simp [hk])
   obtain ⟨hsd, hpa, hla, hlb, hmv, hmz, hnn, hcn, hks⟩ := (show T1.Ok from hok1)
   have hbl := hok1.bl
   have hFPE := hFP_17
   refine V.cl (av := #[.pointer (some ⟨t, 0, none⟩), .string k]) h22 (Go.Proofs.enters_of Try.func56 (by kernel_rfl) rfl) (by have h := find_any w14 (H) (av) t T1 hT_16 k hkz; rw [hf] at h; exact h) ?_
   rintro _ w60 ⟨rfl, hF59⟩
   refine ⟨_, rfl, fun a h61 => ?_⟩
   have hsw60 := hF59.size
   have hF_62 := hF_18.new hF59
   refine V.run h61 [] 3 13 13 [(17, .agg #[.int .i64 0, .int .i64 0, .int .i64 0]), (18, .bool false)] fun a h72 => ?_
   refine V.go (V.mk [] trivial (by kernel_rfl) [.int .i64 0, .int .i64 0, .int .i64 0] 82 (fun b => .pointer (some ⟨b, 0, none⟩)) (by kernel_rfl) ?_)
   intro w69 b68 heb68 hB70 hF71 hsb68
   have hF_73 := hF_62.new hF71
   refine V.pt h72 fun a h79 => ?_
   refine V.go (V.stn b68 0 (.agg #[.int .i64 0, .int .i64 0, .int .i64 0]) [.int .i64 0, .int .i64 0, .int .i64 0] h79.e h79.e rfl rfl (by kernel_rfl) hB70 (by simp) [.int .i64 0, .int .i64 0, .int .i64 0] rfl ?_)
   intro w80 hB81 hF82 hsw80
   have hF_83 := hF_73.own hF82 (by simp <;> omega)
   refine V.re h79 [] 1 0 [(8, .bool false)] fun a h89 => k21 _ _ ?_
   refine V.seq fun K90 k91 => ?_
   refine V.sr h89 [] 19 19 [(20, .bool true)] fun a h94 => ?_
   refine V.ct h94 ?_
   refine V.sr h94 [] 21 21 [(4, .string ⟨#[]⟩), (5, .bool false)] fun a h97 => ?_
   refine V.ret ?_
   refine V.then_r ?_
   refine V.r2 h97 (.string ⟨#[]⟩) (.bool false) ?_
   refine ⟨?_, hF_83⟩
   unfold lookT; rw [hf]
   rfl
 ·
  rcases hT_16.2 with ⟨hb0, gA, vsA, hN⟩ | ⟨hb0, gA, gB, vsA, vsB, hN⟩
  ·
   have hb1 : T1.b.length = 0 := by rw [hb0]; rfl
   obtain ⟨hB, hRA, hlA, hK, hne, hpt, hpg⟩ := hN
   replace hK := hK.toH
   have hltt := hB.lt
   have hltg := hRA.lt
   have hE : FrP (gp (H) av) w14 w14 := FrP.refl _ _
   have hK0 : ∀ k ∈ av, k < w14.heap.size := fun k hk => hK.avl k (by simp [hk])
   obtain ⟨hsd, hpa, hla, hlb, hmv, hmz, hnn, hcn, hks⟩ := (show T1.Ok from hok1)
   have hbl := hok1.bl
   have hFPE := hFP_17
   refine V.cl (av := #[.pointer (some ⟨t, 0, none⟩), .string k]) h22 (Go.Proofs.enters_of Try.func56 (by kernel_rfl) rfl) (by have h := find_any w14 (H) (av) t T1 hT_16 k hkz; rw [hf] at h; exact h) ?_
   rintro _ w99 ⟨rfl, hF98⟩
   refine ⟨_, rfl, fun a h100 => ?_⟩
   have hsw99 := hF98.size
   have hF_101 := hF_18.new hF98
   have hB_102 := hB.fr0 hF98
   have hRA_103 := hRA.fr0 hF98
   have hK_104 := hK.fr0 hF98
   have hbkl := bkt_lt T1.seed k (n := T1.a.length) (by omega)
   refine V.run h100 [] 3 13 13 [(17, .agg #[.int .i64 0, .int .i64 ((bkt T1.seed T1.a.length k : Nat) : Int), .int .i64 (j : Int)]), (18, .bool true)] fun a h110 => ?_
   refine V.go (V.mk [] trivial (by kernel_rfl) [.int .i64 0, .int .i64 0, .int .i64 0] 82 (fun b => .pointer (some ⟨b, 0, none⟩)) (by kernel_rfl) ?_)
   intro w107 b106 heb106 hB108 hF109 hsb106
   have hF_111 := hF_101.new hF109
   have hB_112 := hB_102.fr0 hF109
   have hRA_113 := hRA_103.fr0 hF109
   have hK_114 := hK_104.alloc hF109 heb106 (by omega)
   refine V.pt h110 fun a h116 => ?_
   refine V.go (V.stn b106 0 (.agg #[.int .i64 0, .int .i64 ((bkt T1.seed T1.a.length k : Nat) : Int), .int .i64 (j : Int)]) [.int .i64 0, .int .i64 ((bkt T1.seed T1.a.length k : Nat) : Int), .int .i64 (j : Int)] h116.e h116.e rfl rfl (by kernel_rfl) hB108 (by simp) [.int .i64 0, .int .i64 ((bkt T1.seed T1.a.length k : Nat) : Int), .int .i64 (j : Int)] rfl ?_)
   intro w117 hB118 hF119 hsw117
   have hF_120 := hF_111.own hF119 (by simp <;> omega)
   have hB_121 := hB_112.fr1 hF119 (by omega)
   have hRA_122 := hRA_113.fr1 hF119 (by omega)
   have hK_123 := hK_114.fr hF119 (by simp)
   refine V.re h116 [] 1 0 [(8, .bool true)] fun a h125 => k21 _ _ ?_
   refine V.seq fun K126 k127 => ?_
   refine V.sr h125 [] 19 19 [(20, .bool false)] fun a h130 => ?_
   refine V.cf h130 ?_
   refine V.skip ?_
   refine V.then_n (k127 _ _ ?_)
   refine V.seq fun K131 k132 => ?_
   refine V.pl [([0,1,2,3,4,5,6,7,8,9,10,11,12,13,14,15,16,17],none)] fun w133 hF134 hsw133 => ?_
   have hF_135 := hF_120.new hF134
   have hB_136 := hB_121.fr0 hF134
   have hRA_137 := hRA_122.fr0 hF134
   have hK_138 := hK_123.fr0 hF134
   have hB118_140 := hB118.fr0 hF134
   obtain ⟨A141, c142, hv143⟩ := hK_138.getA hlA (i := (bkt T1.seed T1.a.length k)) (by omega) nilS
   have hS144 := hK_138.slA hlA (i := (bkt T1.seed T1.a.length k)) (by omega) hv143
   obtain ⟨g145, o146, hA147, hA147l, hA147z⟩ := hS144.addr (by omega)
   obtain ⟨cs148, hok149, hE150⟩ := hS144.els hA147 (j : Int) (by omega) (by omega)
   refine V.pz0 ?_
   refine V.run h130 [(2, .b hB118_140 0), (3, .b hB_136 1), (1, .b hB118_140 1), (0, .ix gA 0 T1.a.length T1.a.length .i64 ((bkt T1.seed T1.a.length k : Nat) : Int) 1 rfl), (0, .l ⟨gA, 0 + ((bkt T1.seed T1.a.length k : Nat) : Int).toNat * 1, none⟩ (.slice A141 ((T1.a.getD (bkt T1.seed T1.a.length k) []).length) c142) ((hRA_137.at (bkt T1.seed T1.a.length k) nilS (by omega)).trans (congrArg some hv143))), (1, .b hB118_140 2), (0, .ix g145 o146 ((T1.a.getD (bkt T1.seed T1.a.length k) []).length) c142 .i64 (j : Int) 2 hA147)] 15 23 35 [(22, .pointer (some ⟨t, 0, none⟩)), (36, .pointer (some ⟨g145, (o146 + (j : Int).toNat * 2) + 1, none⟩))] fun a h151 => ?_
   obtain rfl : cs148 = [.string (at_ itI (T1.a.getD (bkt T1.seed T1.a.length k) []) (j : Int)).1, .string (at_ itI (T1.a.getD (bkt T1.seed T1.a.length k) []) (j : Int)).2] := hok149
   refine V.se h151 [(0, .l ⟨g145, (o146 + (j : Int).toNat * 2) + 1, none⟩ (.string ((at_ itI (T1.a.getD (bkt T1.seed T1.a.length k) []) (j : Int)).2)) (hE150.at 1 rfl))] 37 37 [(4, .string ((at_ itI (T1.a.getD (bkt T1.seed T1.a.length k) []) (j : Int)).2)), (5, .bool true)] fun a h152 => k132 _ _ ?_
   refine V.ret ?_
   refine V.r2 h152 (.string ((at_ itI (T1.a.getD (bkt T1.seed T1.a.length k) []) (j : Int)).2)) (.bool true) ?_
   refine ⟨?_, hF_135⟩
   unfold lookT; rw [hf]
   rfl
  ·
   have hb1 : T1.b.length ≠ 0 := fun h => hb0 (List.eq_nil_of_length_eq_zero h)
   obtain ⟨hB, hRA, hRB, hlA, hlB, hK, hne, hne2, hne3, hpt, hpg, hph⟩ := hN
   replace hK := hK.toH
   have hltt := hB.lt
   have hltg := hRA.lt
   have hltg2 := hRB.lt
   have hE : FrP (gp (H) av) w14 w14 := FrP.refl _ _
   have hK0 : ∀ k ∈ av, k < w14.heap.size := fun k hk => hK.avl k (by simp [hk])
   obtain ⟨hsd, hpa, hla, hlb, hmv, hmz, hnn, hcn, hks⟩ := (show T1.Ok from hok1)
   have hbl := hok1.bl
   have hFPE := hFP_17
   refine V.cl (av := #[.pointer (some ⟨t, 0, none⟩), .string k]) h22 (Go.Proofs.enters_of Try.func56 (by kernel_rfl) rfl) (by have h := find_any w14 (H) (av) t T1 hT_16 k hkz; rw [hf] at h; exact h) ?_
   rintro _ w154 ⟨rfl, hF153⟩
   refine ⟨_, rfl, fun a h155 => ?_⟩
   have hsw154 := hF153.size
   have hF_156 := hF_18.new hF153
   have hB_157 := hB.fr0 hF153
   have hRA_158 := hRA.fr0 hF153
   have hK_160 := hK.fr0 hF153
   have hbkl := bkt_lt T1.seed k (n := T1.a.length) (by omega)
   refine V.run h155 [] 3 13 13 [(17, .agg #[.int .i64 0, .int .i64 ((bkt T1.seed T1.a.length k : Nat) : Int), .int .i64 (j : Int)]), (18, .bool true)] fun a h166 => ?_
   refine V.go (V.mk [] trivial (by kernel_rfl) [.int .i64 0, .int .i64 0, .int .i64 0] 82 (fun b => .pointer (some ⟨b, 0, none⟩)) (by kernel_rfl) ?_)
   intro w163 b162 heb162 hB164 hF165 hsb162
   have hF_167 := hF_156.new hF165
   have hB_168 := hB_157.fr0 hF165
   have hRA_169 := hRA_158.fr0 hF165
   have hK_171 := hK_160.alloc hF165 heb162 (by omega)
   refine V.pt h166 fun a h173 => ?_
   refine V.go (V.stn b162 0 (.agg #[.int .i64 0, .int .i64 ((bkt T1.seed T1.a.length k : Nat) : Int), .int .i64 (j : Int)]) [.int .i64 0, .int .i64 ((bkt T1.seed T1.a.length k : Nat) : Int), .int .i64 (j : Int)] h173.e h173.e rfl rfl (by kernel_rfl) hB164 (by simp) [.int .i64 0, .int .i64 ((bkt T1.seed T1.a.length k : Nat) : Int), .int .i64 (j : Int)] rfl ?_)
   intro w174 hB175 hF176 hsw174
   have hF_177 := hF_167.own hF176 (by simp <;> omega)
   have hB_178 := hB_168.fr1 hF176 (by omega)
   have hRA_179 := hRA_169.fr1 hF176 (by omega)
   have hK_181 := hK_171.fr hF176 (by simp)
   refine V.re h173 [] 1 0 [(8, .bool true)] fun a h183 => k21 _ _ ?_
   refine V.seq fun K184 k185 => ?_
   refine V.sr h183 [] 19 19 [(20, .bool false)] fun a h188 => ?_
   refine V.cf h188 ?_
   refine V.skip ?_
   refine V.then_n (k185 _ _ ?_)
   refine V.seq fun K189 k190 => ?_
   refine V.pl [([0,1,2,3,4,5,6,7,8,9,10,11,12,13,14,15,16,17],none)] fun w191 hF192 hsw191 => ?_
   have hF_193 := hF_177.new hF192
   have hB_194 := hB_178.fr0 hF192
   have hRA_195 := hRA_179.fr0 hF192
   have hK_197 := hK_181.fr0 hF192
   have hB175_199 := hB175.fr0 hF192
   obtain ⟨A200, c201, hv202⟩ := hK_197.getA hlA (i := (bkt T1.seed T1.a.length k)) (by omega) nilS
   have hS203 := hK_197.slA hlA (i := (bkt T1.seed T1.a.length k)) (by omega) hv202
   obtain ⟨g204, o205, hA206, hA206l, hA206z⟩ := hS203.addr (by omega)
   obtain ⟨cs207, hok208, hE209⟩ := hS203.els hA206 (j : Int) (by omega) (by omega)
   refine V.pz0 ?_
   refine V.run h188 [(2, .b hB175_199 0), (3, .b hB_194 1), (1, .b hB175_199 1), (0, .ix gA 0 T1.a.length T1.a.length .i64 ((bkt T1.seed T1.a.length k : Nat) : Int) 1 rfl), (0, .l ⟨gA, 0 + ((bkt T1.seed T1.a.length k : Nat) : Int).toNat * 1, none⟩ (.slice A200 ((T1.a.getD (bkt T1.seed T1.a.length k) []).length) c201) ((hRA_195.at (bkt T1.seed T1.a.length k) nilS (by omega)).trans (congrArg some hv202))), (1, .b hB175_199 2), (0, .ix g204 o205 ((T1.a.getD (bkt T1.seed T1.a.length k) []).length) c201 .i64 (j : Int) 2 hA206)] 15 23 35 [(22, .pointer (some ⟨t, 0, none⟩)), (36, .pointer (some ⟨g204, (o205 + (j : Int).toNat * 2) + 1, none⟩))] fun a h210 => ?_
   obtain rfl : cs207 = [.string (at_ itI (T1.a.getD (bkt T1.seed T1.a.length k) []) (j : Int)).1, .string (at_ itI (T1.a.getD (bkt T1.seed T1.a.length k) []) (j : Int)).2] := hok208
   refine V.se h210 [(0, .l ⟨g204, (o205 + (j : Int).toNat * 2) + 1, none⟩ (.string ((at_ itI (T1.a.getD (bkt T1.seed T1.a.length k) []) (j : Int)).2)) (hE209.at 1 rfl))] 37 37 [(4, .string ((at_ itI (T1.a.getD (bkt T1.seed T1.a.length k) []) (j : Int)).2)), (5, .bool true)] fun a h211 => k190 _ _ ?_
   refine V.ret ?_
   refine V.r2 h211 (.string ((at_ itI (T1.a.getD (bkt T1.seed T1.a.length k) []) (j : Int)).2)) (.bool true) ?_
   refine ⟨?_, hF_193⟩
   unfold lookT; rw [hf]
   rfl
 ·
  rcases hT_16.2 with ⟨hb0, gA, vsA, hN⟩ | ⟨hb0, gA, gB, vsA, vsB, hN⟩
  ·
   exact absurd (by rw [hb0]; rfl) hbn
  ·
   have hb1 : T1.b.length ≠ 0 := fun h => hb0 (List.eq_nil_of_length_eq_zero h)
   obtain ⟨hB, hRA, hRB, hlA, hlB, hK, hne, hne2, hne3, hpt, hpg, hph⟩ := hN
   replace hK := hK.toH
   have hltt := hB.lt
   have hltg := hRA.lt
   have hltg2 := hRB.lt
   have hE : FrP (gp (H) av) w14 w14 := FrP.refl _ _
   have hK0 : ∀ k ∈ av, k < w14.heap.size := fun k hk => hK.avl k (by simp [hk])
   obtain ⟨hsd, hpa, hla, hlb, hmv, hmz, hnn, hcn, hks⟩ := (show T1.Ok from hok1)
   have hbl := hok1.bl
   have hFPE := hFP_17
   refine V.cl (av := #[.pointer (some ⟨t, 0, none⟩), .string k]) h22 (Go.Proofs.enters_of Try.func56 (by kernel_rfl) rfl) (by have h := find_any w14 (H) (av) t T1 hT_16 k hkz; rw [hf] at h; exact h) ?_
   rintro _ w213 ⟨rfl, hF212⟩
   refine ⟨_, rfl, fun a h214 => ?_⟩
   have hsw213 := hF212.size
   have hF_215 := hF_18.new hF212
   have hB_216 := hB.fr0 hF212
   have hRB_218 := hRB.fr0 hF212
   have hK_219 := hK.fr0 hF212
   have hbkl := bkt_lt T1.seed k (n := T1.b.length) (by omega)
   refine V.run h214 [] 3 13 13 [(17, .agg #[.int .i64 1, .int .i64 ((bkt T1.seed T1.b.length k : Nat) : Int), .int .i64 (j : Int)]), (18, .bool true)] fun a h225 => ?_
   refine V.go (V.mk [] trivial (by kernel_rfl) [.int .i64 0, .int .i64 0, .int .i64 0] 82 (fun b => .pointer (some ⟨b, 0, none⟩)) (by kernel_rfl) ?_)
   intro w222 b221 heb221 hB223 hF224 hsb221
   have hF_226 := hF_215.new hF224
   have hB_227 := hB_216.fr0 hF224
   have hRB_229 := hRB_218.fr0 hF224
   have hK_230 := hK_219.alloc hF224 heb221 (by omega)
   refine V.pt h225 fun a h232 => ?_
   refine V.go (V.stn b221 0 (.agg #[.int .i64 1, .int .i64 ((bkt T1.seed T1.b.length k : Nat) : Int), .int .i64 (j : Int)]) [.int .i64 1, .int .i64 ((bkt T1.seed T1.b.length k : Nat) : Int), .int .i64 (j : Int)] h232.e h232.e rfl rfl (by kernel_rfl) hB223 (by simp) [.int .i64 1, .int .i64 ((bkt T1.seed T1.b.length k : Nat) : Int), .int .i64 (j : Int)] rfl ?_)
   intro w233 hB234 hF235 hsw233
   have hF_236 := hF_226.own hF235 (by simp <;> omega)
   have hB_237 := hB_227.fr1 hF235 (by omega)
   have hRB_239 := hRB_229.fr1 hF235 (by omega)
   have hK_240 := hK_230.fr hF235 (by simp)
   refine V.re h232 [] 1 0 [(8, .bool true)] fun a h242 => k21 _ _ ?_
   refine V.seq fun K243 k244 => ?_
   refine V.sr h242 [] 19 19 [(20, .bool false)] fun a h247 => ?_
   refine V.cf h247 ?_
   refine V.skip ?_
   refine V.then_n (k244 _ _ ?_)
   refine V.seq fun K248 k249 => ?_
   refine V.pl [([0,1,2,3,4,5,6,7,8,9,10,11,12,13,14,15,16,17],none)] fun w250 hF251 hsw250 => ?_
   have hF_252 := hF_236.new hF251
   have hB_253 := hB_237.fr0 hF251
   have hRB_255 := hRB_239.fr0 hF251
   have hK_256 := hK_240.fr0 hF251
   have hB234_258 := hB234.fr0 hF251
   obtain ⟨A259, c260, hv261⟩ := hK_256.getB hlA (i := (bkt T1.seed T1.b.length k)) (by omega) nilS
   have hS262 := hK_256.slB hlA (i := (bkt T1.seed T1.b.length k)) (by omega) hv261
   obtain ⟨g263, o264, hA265, hA265l, hA265z⟩ := hS262.addr (by omega)
   obtain ⟨cs266, hok267, hE268⟩ := hS262.els hA265 (j : Int) (by omega) (by omega)
   refine V.pz0 ?_
   refine V.run h247 [(2, .b hB234_258 0), (3, .b hB_253 2), (1, .b hB234_258 1), (0, .ix gB 0 T1.b.length T1.b.length .i64 ((bkt T1.seed T1.b.length k : Nat) : Int) 1 rfl), (0, .l ⟨gB, 0 + ((bkt T1.seed T1.b.length k : Nat) : Int).toNat * 1, none⟩ (.slice A259 ((T1.b.getD (bkt T1.seed T1.b.length k) []).length) c260) ((hRB_255.at (bkt T1.seed T1.b.length k) nilS (by omega)).trans (congrArg some hv261))), (1, .b hB234_258 2), (0, .ix g263 o264 ((T1.b.getD (bkt T1.seed T1.b.length k) []).length) c260 .i64 (j : Int) 2 hA265)] 15 23 35 [(22, .pointer (some ⟨t, 0, none⟩)), (36, .pointer (some ⟨g263, (o264 + (j : Int).toNat * 2) + 1, none⟩))] fun a h269 => ?_
   obtain rfl : cs266 = [.string (at_ itI (T1.b.getD (bkt T1.seed T1.b.length k) []) (j : Int)).1, .string (at_ itI (T1.b.getD (bkt T1.seed T1.b.length k) []) (j : Int)).2] := hok267
   refine V.se h269 [(0, .l ⟨g263, (o264 + (j : Int).toNat * 2) + 1, none⟩ (.string ((at_ itI (T1.b.getD (bkt T1.seed T1.b.length k) []) (j : Int)).2)) (hE268.at 1 rfl))] 37 37 [(4, .string ((at_ itI (T1.b.getD (bkt T1.seed T1.b.length k) []) (j : Int)).2)), (5, .bool true)] fun a h270 => k249 _ _ ?_
   refine V.ret ?_
   refine V.r2 h270 (.string ((at_ itI (T1.b.getD (bkt T1.seed T1.b.length k) []) (j : Int)).2)) (.bool true) ?_
   refine ⟨?_, hF_252⟩
   unfold lookT; rw [hf]
   rfl
set_option maxHeartbeats 4000000 in
set_option maxRecDepth 20000 in
theorem get_any (w : World) (H : Nat → Prop) (av : List Nat) (t : Nat) (T : Tb ByteArray) (hT : TabX 91 94 93 itI w H av t T) (hm : T.Mv) (k : ByteArray) (hkz : k.size ≤ 9223372036854775807) : Calls Try.prog 26 #[.pointer (some ⟨t, 0, none⟩), .string k] w (fun e w' => e = .returned (.tuple #[.string (lookT ⟨#[]⟩ (tbStep T) k).1, .bool (lookT ⟨#[]⟩ (tbStep T) k).2]) ∧ TabX 91 94 93 itI w' (gr H w w') av t (tbStep T) ∧ FrP (gp H av) w w') := by
 have hFP := FrP.refl (gp H av) w
 obtain ⟨hok0, hm1⟩ := tbStep_ok hT.1 hm
 obtain ⟨T1, hT1⟩ : ∃ T1, T1 = tbStep T := ⟨_, rfl⟩
 rw [← hT1] at hok0 hm1 ⊢
 refine V.en 15 Try.func26 fun a h1 => ?_
 refine V.sr h1 [] 4 5 [] fun a h4 => ?_
 refine V.seq fun K5 k6 => ?_
 refine V.sg fun K7 k8 => ?_
 refine V.run h4 [] 1 1 0 [(6, .pointer (some ⟨t, 0, none⟩))] fun a h9 => ?_
 refine V.cl h9 (Go.Proofs.enters_of Try.func54 (by kernel_rfl) rfl) (made_any w (H) (av) t (T) hT) ?_
 rintro _ w11 ⟨rfl, hF10⟩
 refine ⟨_, rfl, fun a h12 => ?_⟩
 have hsw11 := hF10.size
 have hT_13 := hT.fr0 hF10
 have hFP_14 := hFP.tr0 hF10
 refine V.nt (k8 _ _ ?_)
 refine V.ct h12 ?_
 refine V.rg ?_
 refine V.run h12 [] 1 1 0 [(8, .pointer (some ⟨t, 0, none⟩))] fun a h15 => ?_
 refine V.cl h15 (Go.Proofs.enters_of Try.func55 (by kernel_rfl) rfl) (step_any w11 (H) (av) t (T) hT_13 hm) ?_
 rintro _ w18 ⟨rfl, hT16, hfp17⟩
 refine ⟨_, rfl, fun a h19 => ?_⟩
 have hsw18 := hfp17.size
 have hFP_20 := hFP_14.trP hfp17 (fun k hk => .inl hk)
 have hT16q := hT16.grm (w := w) (by omega)
 rw [← hT1] at hT16q
 refine V.nt (k6 _ _ ?_)
 refine V.sg fun K21 k22 => ?_
 refine V.run h19 [] 2 1 0 [(10, .pointer (some ⟨t, 0, none⟩)), (11, .string k)] fun a h23 => ?_
 refine V.cl h23 (Go.Proofs.enters_of Try.func60 (by kernel_rfl) rfl) (look_any w18 (gr H w w18) (av) t (T1) hT16q k (by first | exact hkz | decide | omega)) ?_
 rintro _ w25 ⟨rfl, hF24⟩
 refine ⟨_, rfl, fun a h26 => ?_⟩
 have hsw25 := hF24.size
 have hFP_27 := hFP_20.tr0 hF24
 have hT16q_28 := hT16q.fr0 hF24
 refine V.re h26 [] 13 14 [(4, .string ((lookT ⟨#[]⟩ (T1) k).1)), (5, .bool ((lookT ⟨#[]⟩ (T1) k).2))] fun a h29 => k22 _ _ ?_
 refine V.ret ?_
 refine V.r2 h29 (.string ((lookT ⟨#[]⟩ (T1) k).1)) (.bool ((lookT ⟨#[]⟩ (T1) k).2)) ?_
 exact ⟨rfl, hT16q_28.grl (by omega), hFP_27⟩
set_option maxHeartbeats 4000000 in
set_option maxRecDepth 20000 in
theorem stepx_any (w : World) (H : Nat → Prop) (av : List Nat) (t : Nat) (T : Tb ByteArray) (hT : TabX 91 94 93 itI w H av t T) (hm : T.Mv) : Calls Try.prog 28 #[.pointer (some ⟨t, 0, none⟩)] w (fun e w' => e = .returned (.bool (decide ((tbStep T).b.length ≠ 0))) ∧ TabX 91 94 93 itI w' (gr H w w') av t (tbStep T) ∧ FrP (gp H av) w w') := by
 have hFP := FrP.refl (gp H av) w
 obtain ⟨hok0, hm1⟩ := tbStep_ok hT.1 hm
 obtain ⟨T1, hT1⟩ : ∃ T1, T1 = tbStep T := ⟨_, rfl⟩
 rw [← hT1] at hok0 hm1 ⊢
 refine V.en 10 Try.func28 fun a h1 => ?_
 refine V.sr h1 [] 2 2 [] fun a h4 => ?_
 refine V.seq fun K5 k6 => ?_
 refine V.sg fun K7 k8 => ?_
 refine V.run h4 [] 1 1 0 [(3, .pointer (some ⟨t, 0, none⟩))] fun a h9 => ?_
 refine V.cl h9 (Go.Proofs.enters_of Try.func54 (by kernel_rfl) rfl) (made_any w (H) (av) t (T) hT) ?_
 rintro _ w11 ⟨rfl, hF10⟩
 refine ⟨_, rfl, fun a h12 => ?_⟩
 have hsw11 := hF10.size
 have hT_13 := hT.fr0 hF10
 have hFP_14 := hFP.tr0 hF10
 refine V.re h12 [] 1 0 [(5, .bool false)] fun a h15 => k8 _ _ ?_
 refine V.cf h15 ?_
 refine V.skip ?_
 refine V.then_n (k6 _ _ ?_)
 refine V.sg fun K16 k17 => ?_
 refine V.run h15 [] 1 1 0 [(6, .pointer (some ⟨t, 0, none⟩))] fun a h18 => ?_
 refine V.cl h18 (Go.Proofs.enters_of Try.func55 (by kernel_rfl) rfl) (step_any w11 (H) (av) t (T) hT_13 hm) ?_
 rintro _ w21 ⟨rfl, hT19, hfp20⟩
 refine ⟨_, rfl, fun a h22 => ?_⟩
 have hsw21 := hfp20.size
 have hFP_23 := hFP_14.trP hfp20 (fun k hk => .inl hk)
 have hT19q := hT19.grm (w := w) (by omega)
 rw [← hT1] at hT19q
 refine V.nt (k17 _ _ ?_)
 refine V.sg fun K24 k25 => ?_
 refine V.run h22 [] 1 1 0 [(8, .pointer (some ⟨t, 0, none⟩))] fun a h26 => ?_
 refine V.cl h26 (Go.Proofs.enters_of Try.func57 (by kernel_rfl) rfl) (moves_any w21 (gr H w w21) (av) t (T1) hT19q) ?_
 rintro _ w28 ⟨rfl, hF27⟩
 refine ⟨_, rfl, fun a h29 => ?_⟩
 have hsw28 := hF27.size
 have hFP_30 := hFP_23.tr0 hF27
 have hT19q_31 := hT19q.fr0 hF27
 refine V.re h29 [] 1 0 [(2, .bool (decide ((T1).b.length ≠ 0)))] fun a h32 => k25 _ _ ?_
 refine V.ret ?_
 refine V.r1 h32 (.bool (decide ((T1).b.length ≠ 0))) ?_
 exact ⟨rfl, hT19q_31.grl (by omega), hFP_30⟩
set_option maxHeartbeats 4000000 in
set_option maxRecDepth 20000 in
theorem sizes_N (w : World) (t : Nat) (seed n0 n1 c1 gA gB : Nat) (m1 m2 : Value) (hB : Blk w t [.int .u64 (seed : Int), .slice (some ⟨gA, 0, none⟩) n0 n0, .slice none 0 0, m1, m2] 91) : Calls Try.prog 31 #[.pointer (some ⟨t, 0, none⟩)] w (fun e w' => e = .returned (.tuple #[.int .i64 ((n0 : Nat) : Int), .int .i64 0, m1]) ∧ Fr [] w w') := by
 have hF := Fr.refl [] w
 refine V.en 24 Try.func31 fun a h1 => ?_
 refine V.sr h1 [] 2 4 [] fun a h4 => ?_
 refine V.seq fun K5 k6 => ?_
 refine V.sg fun K7 k8 => ?_
 refine V.run h4 [] 1 1 0 [(5, .pointer (some ⟨t, 0, none⟩))] fun a h9 => ?_
 refine V.cl h9 (Go.Proofs.enters_of Try.func54 (by kernel_rfl) rfl) (made_N w t seed n0 0 0 gA 0 m1 m2 hB) ?_
 rintro _ w11 ⟨rfl, hF10⟩
 refine ⟨_, rfl, fun a h12 => ?_⟩
 have hsw11 := hF10.size
 have hF_13 := hF.new hF10
 have hB_14 := hB.fr0 hF10
 refine V.re h12 [] 1 0 [(7, .bool false)] fun a h15 => k8 _ _ ?_
 refine V.cf h15 ?_
 refine V.skip ?_
 refine V.then_n (k6 _ _ ?_)
 refine V.seq fun K16 k17 => ?_
 refine V.pl [([0,1,2,3,4,5,6,7,8,9,10,11,12,13,14,15,16,17,18],none)] fun w18 hF19 hsw18 => ?_
 have hF_20 := hF_13.new hF19
 have hB_21 := hB_14.fr0 hF19
 refine V.pz h15 [(4, .b hB_21 1), (5, .b hB_21 2), (4, .b hB_21 3)] 8 23 [(2, .int .i64 ((n0 : Nat) : Int)), (3, .int .i64 0), (4, m1)] fun a h22 => k17 _ _ ?_
 refine V.ret ?_
 refine V.r3 h22 (.int .i64 ((n0 : Nat) : Int)) (.int .i64 0) (m1) ?_
 exact ⟨rfl, hF_20⟩
set_option maxHeartbeats 4000000 in
set_option maxRecDepth 20000 in
theorem sizes_M (w : World) (t : Nat) (seed n0 n1 c1 gA gB : Nat) (m1 m2 : Value) (hB : Blk w t [.int .u64 (seed : Int), .slice (some ⟨gA, 0, none⟩) n0 n0, .slice (some ⟨gB, 0, none⟩) n1 n1, m1, m2] 91) : Calls Try.prog 31 #[.pointer (some ⟨t, 0, none⟩)] w (fun e w' => e = .returned (.tuple #[.int .i64 ((n0 : Nat) : Int), .int .i64 ((n1 : Nat) : Int), m1]) ∧ Fr [] w w') := by
 have hF := Fr.refl [] w
 refine V.en 24 Try.func31 fun a h1 => ?_
 refine V.sr h1 [] 2 4 [] fun a h4 => ?_
 refine V.seq fun K5 k6 => ?_
 refine V.sg fun K7 k8 => ?_
 refine V.run h4 [] 1 1 0 [(5, .pointer (some ⟨t, 0, none⟩))] fun a h9 => ?_
 refine V.cl h9 (Go.Proofs.enters_of Try.func54 (by kernel_rfl) rfl) (made_M w t seed n0 n1 0 gA gB m1 m2 hB) ?_
 rintro _ w11 ⟨rfl, hF10⟩
 refine ⟨_, rfl, fun a h12 => ?_⟩
 have hsw11 := hF10.size
 have hF_13 := hF.new hF10
 have hB_14 := hB.fr0 hF10
 refine V.re h12 [] 1 0 [(7, .bool false)] fun a h15 => k8 _ _ ?_
 refine V.cf h15 ?_
 refine V.skip ?_
 refine V.then_n (k6 _ _ ?_)
 refine V.seq fun K16 k17 => ?_
 refine V.pl [([0,1,2,3,4,5,6,7,8,9,10,11,12,13,14,15,16,17,18],none)] fun w18 hF19 hsw18 => ?_
 have hF_20 := hF_13.new hF19
 have hB_21 := hB_14.fr0 hF19
 refine V.pz h15 [(4, .b hB_21 1), (5, .b hB_21 2), (4, .b hB_21 3)] 8 23 [(2, .int .i64 ((n0 : Nat) : Int)), (3, .int .i64 ((n1 : Nat) : Int)), (4, m1)] fun a h22 => k17 _ _ ?_
 refine V.ret ?_
 refine V.r3 h22 (.int .i64 ((n0 : Nat) : Int)) (.int .i64 ((n1 : Nat) : Int)) (m1) ?_
 exact ⟨rfl, hF_20⟩
set_option maxHeartbeats 4000000 in
set_option maxRecDepth 20000 in
theorem len_blk (w : World) (t : Nat) (seed n0 c0 : Nat) (A0 : Option Addr) (v1 m1 m2 : Value) (hB : Blk w t [.int .u64 (seed : Int), .slice A0 n0 c0, v1, m1, m2] 91) : Calls Try.prog 34 #[.pointer (some ⟨t, 0, none⟩)] w (fun e w' => e = .returned m2 ∧ Fr [] w w') := by
 have hF := Fr.refl [] w
 refine V.en 9 Try.func34 fun a h1 => ?_
 refine V.sr h1 [] 2 2 [] fun a h4 => ?_
 refine V.seq fun K5 k6 => ?_
 refine V.sr h4 [] 3 3 [(4, .bool false)] fun a h9 => ?_
 refine V.cf h9 ?_
 refine V.skip ?_
 refine V.then_n (k6 _ _ ?_)
 refine V.sr h9 [(3, .b hB 4)] 5 8 [(2, m2)] fun a h12 => ?_
 refine V.ret ?_
 refine V.r1 h12 (m2) ?_
 exact ⟨rfl, hF⟩
set_option maxHeartbeats 4000000 in
set_option maxRecDepth 20000 in
theorem new_any (w : World) (av : List Nat) (hav : ∀ k ∈ av, k < w.heap.size) (seed : Nat) (hsd : seed < 18446744073709551616) : Calls Try.prog 24 #[.int .u64 (seed : Int)] w (fun e w' => ∃ t, e = .returned (.pointer (some ⟨t, 0, none⟩)) ∧ TabX 91 94 93 itI w' (gr (fun _ => False) w w') av t (newT seed) ∧ Fr [] w w') := by
 have hF := Fr.refl [] w
 refine V.en 13 Try.func24 fun a h1 => ?_
 refine V.sr h1 [] 2 2 [] fun a h4 => ?_
 refine V.sg fun K5 k6 => ?_
 refine V.run h4 [] 2 4 4 [(5, .agg #[.int .u64 (seed : Int), .slice none 0 0, .slice none 0 0, .int .i64 0, .int .i64 0])] fun a h7 => ?_
 refine V.go (V.mk [(5, .agg #[.int .u64 (seed : Int), .slice none 0 0, .slice none 0 0, .int .i64 0, .int .i64 0])] ⟨h7.e, trivial⟩ (by kernel_rfl) [.int .u64 (seed : Int), .slice none 0 0, .slice none 0 0, .int .i64 0, .int .i64 0] 91 (fun b => .pointer (some ⟨b, 0, none⟩)) (by kernel_rfl) ?_)
 intro w9 b8 heb8 hB10 hF11 hsb8
 have hF_12 := hF.new hF11
 refine V.pt h7 fun a h13 => ?_
 refine V.re h13 [] 1 0 [(3, .pointer (some ⟨b8, 0, none⟩))] fun a h14 => k6 _ _ ?_
 refine V.seq fun K15 k16 => ?_
 refine V.pl [([0,2,3],some (1,[])),([4],some (5,[])),([],none)] fun w17 hF18 hsw17 => ?_
 have hF_19 := hF_12.new hF18
 have hB10_20 := hB10.fr0 hF18
 refine V.pe h14 [] 7 9 [(10, .pointer (some ⟨b8, 1, none⟩))] fun a h21 => ?_
 refine V.go (V.mks (enc := idV) (4) (.slice none 0 0) nilS 24 (evc.trans (V.int_eq (by omega))) (evc.trans (V.int_eq (by omega))) (by kernel_rfl) info94 rfl rfl (by omega) (by omega) ?_)
 intro w23 b22 heb22 hR24 hF25
 have hsb22 := hR24.lt
 have hF_26 := hF_19.new hF25
 have hB10_27 := hB10_20.fr0 hF25
 refine V.pt h21 fun a h28 => ?_
 refine V.eh trivial ?_
 refine V.pe h28 [] 1 0 [(11, .pointer (some ⟨b8, 1, none⟩))] fun a h29 => ?_
 refine V.go (V.stn b8 1 (.slice (some ⟨b22, 0, none⟩) 4 4) [.slice (some ⟨b22, 0, none⟩) 4 4] h29.e h29.e rfl rfl (by kernel_rfl) hB10_27 (by simp) [.int .u64 (seed : Int), .slice (some ⟨b22, 0, none⟩) 4 4, .slice none 0 0, .int .i64 0, .int .i64 0] rfl ?_)
 intro w30 hB31 hF32 hsw30
 have hF_33 := hF_26.own hF32 (by simp <;> omega)
 have hR24_34 := hR24.fr1 hF32 (by omega)
 refine V.eh trivial ?_
 refine V.pz h29 [] 1 0 [] fun a h35 => k16 _ _ ?_
 refine V.sr h35 [] 12 12 [(2, .pointer (some ⟨b8, 0, none⟩))] fun a h38 => ?_
 refine V.ret ?_
 refine V.r1 h38 (.pointer (some ⟨b8, 0, none⟩)) ?_
 exact ⟨b8, rfl, newT_tab hB31 hR24_34 (by omega) (by omega) (by omega) hsd hav, hF_33⟩
theorem sizes_any (w : World) (H : Nat → Prop) (av : List Nat) (t : Nat) (T : Tb ByteArray) (hT : TabX 91 94 93 itI w H av t T) :
    Calls Try.prog 31 #[.pointer (some ⟨t, 0, none⟩)] w (fun e w' => e = .returned (.tuple #[.int .i64 (T.a.length : Int), .int .i64 (T.b.length : Int), .int .i64 (T.moved : Int)]) ∧ Fr [] w w') := by
  rcases hT.2 with ⟨hb, gA, vsA, h⟩ | ⟨hb, gA, gB, vsA, vsB, h⟩
  · rw [hb]; exact sizes_N w t T.seed T.a.length 0 0 gA 0 _ _ h.blk
  · exact sizes_M w t T.seed T.a.length T.b.length 0 gA gB _ _ h.blk
theorem len_any (w : World) (H : Nat → Prop) (av : List Nat) (t : Nat) (T : Tb ByteArray) (hT : TabX 91 94 93 itI w H av t T) :
    Calls Try.prog 34 #[.pointer (some ⟨t, 0, none⟩)] w (fun e w' => e = .returned (.int .i64 (T.n : Int)) ∧ Fr [] w w') := by
  rcases hT.2 with ⟨hb, gA, vsA, h⟩ | ⟨hb, gA, gB, vsA, vsB, h⟩
  · exact len_blk w t T.seed T.a.length T.a.length _ _ _ _ h.blk
  · exact len_blk w t T.seed T.a.length T.a.length _ _ _ _ h.blk
end Go.Proofs.Ytalhmegjomfbaaa.S
end
section
namespace Go.Proofs.Ytalhmegjomfbaaa.S
open Go.V Go.Base
open Go.RowKit (Below)
attribute [local irreducible] Act.put Act.eval
set_option linter.unusedVariables false
set_option linter.unusedSimpArgs false
set_option maxHeartbeats 4000000 in
set_option maxRecDepth 20000 in
theorem grow_any (w : World) (n : Nat) (hn : n ≤ 1099511627776) : Calls Try.prog 81 #[.slice none 0 0, .int .i64 (n : Int)] w (fun e w' => ∃ A c, e = .returned (.slice A 0 c) ∧ OwR itI NoZ w' w.heap.size 93 (.slice A 0 c) [] ∧ Fr [] w w') := by
 have hF := Fr.refl [] w
 refine V.en 27 Try.func81 fun a h1 => ?_
 refine V.sr h1 [] 4 4 [] fun a h4 => ?_
 refine V.seq fun K5 k6 => ?_
 refine V.sr h4 [] 5 5 [(6, .bool (decide ((n : Int) < 0)))] fun a h9 => ?_
 refine V.cp h9 ((n : Int) < 0) (fun ht10 => ?_) (fun ht10 => ?_)
 · exact absurd ht10 (by omega)
 ·
  refine V.skip ?_
  refine V.then_n (k6 _ _ ?_)
  refine V.seq fun K11 k12 => ?_
  refine V.sr h9 [(5, .i (0 - 0)), (0, .i ((n : Int) - (0 - 0)))] 8 14 [(1, .int .i64 ((n : Int) - (0 - 0)))] fun a h15 => ?_
  refine V.sr h15 [] 15 15 [(16, .bool (decide (((n : Int) - (0 - 0)) > 0)))] fun a h18 => ?_
  refine V.cp h18 (((n : Int) - (0 - 0)) > 0) (fun ht19 => ?_) (fun ht19 => ?_)
  ·
   refine V.rg ?_
   refine V.run h18 [] 5 17 19 [(20, .slice none 0 0), (21, .int .i64 ((n : Int) - (0 - 0)))] fun a h25 => ?_
   refine V.go (V.appZ (R := itI) (kn := .i64) (n := n) (h25.e (v := (.slice none 0 0))) ((h25.e (v := (.int .i64 ((n : Int) - (0 - 0))))).trans (V.int_eq (by omega))) (by kernel_rfl) (by kernel_rfl) info93 (by kernel_rfl) (by decide) (by omega) (by decide) (by omega) ?_)
   intro g20 c21 w22 hO23 hF24
   have hsw22 := hF24.size
   have hF_26 := hF.new hF24
   refine V.pt h25 fun a h27 => ?_
   refine V.run h27 [] 2 23 23 [(24, .int .i64 0)] fun a h28 => ?_
   refine V.go (V.slc (e := 93) (sz := 2) g20 0 n c21 0 0 c21 (h28.e (v := (.slice (some ⟨g20, 0, none⟩) n c21))) rfl ⟨_, ((h28.e (v := (.int .i64 0)))).trans (V.int_eq (by omega))⟩ rfl (by omega) (by omega) (by omega) (by kernel_rfl) (by kernel_rfl) ?_)
   intro ad29 had30 hae31
   obtain rfl := hae31 rfl
   refine V.pt h28 fun a h32 => ?_
   refine V.re h32 [] 1 0 [(0, .slice (some ⟨g20, 0, none⟩) (0 - 0) (c21 - 0))] fun a h33 => k12 _ _ ?_
   refine V.sr h33 [] 26 26 [(4, .slice (some ⟨g20, 0, none⟩) (0 - 0) (c21 - 0))] fun a h36 => ?_
   refine V.ret ?_
   refine V.r1 h36 (.slice (some ⟨g20, 0, none⟩) (0 - 0) (c21 - 0)) ?_
   exact ⟨_, _, rfl, hO23, hF_26⟩
  ·
   refine V.skip ?_
   refine V.then_n (k12 _ _ ?_)
   refine V.sr h18 [] 26 26 [(4, .slice none 0 0)] fun a h39 => ?_
   refine V.ret ?_
   refine V.r1 h39 (.slice none 0 0) ?_
   exact ⟨_, _, rfl, OwR.nil itI NoZ _ w.heap.size 93, hF⟩
set_option maxHeartbeats 4000000 in
set_option maxRecDepth 20000 in
theorem concat_nil (w : World)  : Calls Try.prog 78 #[.slice none 0 0] w (fun e w' => ∃ A c, e = .returned (.slice A 0 c) ∧ OwR itI NoZ w' w.heap.size 93 (.slice A 0 c) [] ∧ Fr [] w w') := by
 have hF := Fr.refl [] w
 refine V.en 36 Try.func78 fun a h1 => ?_
 refine V.sr h1 [] 2 2 [] fun a h4 => ?_
 refine V.sr h4 [] 1 0 [(3, .int .i64 0)] fun a h7 => ?_
 refine V.seq fun K8 k9 => ?_
 refine V.sr h7 [] 1 0 [(9, .slice none 0 0), (10, .int .i64 0), (11, .int .i64 0)] fun a h12 => ?_
 refine V.block ?_
 refine V.loopR 2 ?_
 refine V.rnd ?_
 refine V.sr h12 [] 1 0 [(12, .bool false)] fun a h15 => ?_
 refine V.seq fun K16 k17 => ?_
 refine V.cf h15 ?_
 refine V.exit ?_
 refine V.then_e ?_
 refine V.then_e ?_
 refine V.blk_hit ?_
 refine V.then_n (k9 _ _ ?_)
 refine V.sg fun K18 k19 => ?_
 refine V.run h15 [] 1 1 0 [(23, .int .i64 0)] fun a h20 => ?_
 refine V.cl h20 (Go.Proofs.enters_of Try.func81 (by kernel_rfl) rfl) (grow_any w 0 (by omega)) ?_
 rintro _ w25 ⟨A21, c22, rfl, hO23, hF24⟩
 refine ⟨_, rfl, fun a h26 => ?_⟩
 have hsw25 := hF24.size
 have hF_27 := hF.new hF24
 have hO23q := hO23.rebase (base' := w.heap.size) (by omega)
 refine V.re h26 [] 1 0 [(6, .slice A21 0 c22)] fun a h28 => k19 _ _ ?_
 refine V.seq fun K29 k30 => ?_
 refine V.sr h28 [] 1 0 [(25, .slice none 0 0), (26, .int .i64 0), (27, .int .i64 0)] fun a h33 => ?_
 refine V.block ?_
 refine V.loopR 2 ?_
 refine V.rnd ?_
 refine V.sr h33 [] 1 0 [(28, .bool false)] fun a h36 => ?_
 refine V.seq fun K37 k38 => ?_
 refine V.cf h36 ?_
 refine V.exit ?_
 refine V.then_e ?_
 refine V.then_e ?_
 refine V.blk_hit ?_
 refine V.then_n (k30 _ _ ?_)
 refine V.sr h36 [] 35 35 [(2, .slice A21 0 c22)] fun a h41 => ?_
 refine V.ret ?_
 refine V.r1 h41 (.slice A21 0 c22) ?_
 exact ⟨_, _, rfl, hO23q, hF_27⟩
set_option maxHeartbeats 4000000 in
set_option maxRecDepth 20000 in
theorem concat_row (w : World) (H : Nat → Prop) (av : List Nat) (g : Nat) (vs vsB : List Value) (xs xsB : List (List (ByteArray × ByteArray))) (hR : Row idV w g vs 94) (hl : vs.length = xs.length) (hK : Bks itI w 93 H av (vs ++ vsB) (xs ++ xsB)) (hHb : ∀ k, H k → k < w.heap.size) (hx : xs.length ≤ 4398046511104) (hf : xs.flatten.length ≤ 1099511627776) : Calls Try.prog 78 #[.slice (some ⟨g, 0, none⟩) xs.length xs.length] w (fun e w' => ∃ A c, e = .returned (.slice A xs.flatten.length c) ∧ OwR itI NoZ w' w.heap.size 93 (.slice A xs.flatten.length c) xs.flatten ∧ Fr [] w w') := by
 have hF := Fr.refl [] w
 have hltr := hR.lt
 refine V.en 36 Try.func78 fun a h1 => ?_
 refine V.sr h1 [] 2 2 [] fun a h4 => ?_
 refine V.sr h4 [] 1 0 [(3, .int .i64 0)] fun a h7 => ?_
 refine V.seq fun K8 k9 => ?_
 refine V.sr h7 [] 1 0 [(9, .slice (some ⟨g, 0, none⟩) xs.length xs.length), (10, .int .i64 ((xs.length : Nat) : Int)), (11, .int .i64 0)] fun a h12 => ?_
 refine V.block ?_
 refine V.loop1 (fun (i : Nat) a_ w_ => En 36 [] a_ [(0, .slice (some ⟨g, 0, none⟩) xs.length xs.length), (3, .int .i64 (((xs.take i).flatten.length : Nat) : Int)), (9, .slice (some ⟨g, 0, none⟩) xs.length xs.length), (10, .int .i64 ((xs.length : Nat) : Int)), (11, .int .i64 (i : Int))] ∧ Fr [] w w_ ∧ Row idV w_ g vs 94 ∧ Bks itI w_ 93 H (av) (vs ++ vsB) (xs ++ xsB) ∧ (i ≤ xs.length)) (fun (i : Nat) => xs.length - i) 0 ?_ ?_
 ·
  refine ⟨((h12.eq 3 (v := (.int .i64 0)) (u := (.int .i64 (((xs.take 0).flatten.length : Nat) : Int))) (V.int_eq (by simp))).eq 11 (v := (.int .i64 0)) (u := (.int .i64 (0 : Int))) (V.int_eq (by omega))).only _, hF, hR, hK, (by omega)⟩
 ·
  rintro i a13 w14 ⟨h15, hF_16, hR_17, hK_18, hi⟩
  have hfs19 := hF_16.size
  have hlt20 := hR_17.lt
  have hft := flat_take_le xs (i + 1)
  have hft0 := flat_take_le xs i
  have hbq := flat_getD xs i
  refine V.sr h15 [] 1 0 [(12, .bool (decide ((i : Int) < ((xs.length : Nat) : Int))))] fun a h23 => ?_
  refine V.seq fun K24 k25 => ?_
  refine V.cp h23 ((i : Int) < ((xs.length : Nat) : Int)) (fun ht26 => ?_) (fun ht26 => ?_)
  ·
   refine V.skip ?_
   refine V.then_n (k25 _ _ ?_)
   refine V.seq fun K27 k28 => ?_
   refine V.block ?_
   obtain ⟨A31, c32, hv33⟩ := hK_18.getA hl (i := i) (by omega) nilS
   have hS34 := hK_18.slA hl (i := i) (by omega) hv33
   refine V.sr h23 [(0, .ix g 0 xs.length xs.length .i64 (i : Int) 1 rfl), (0, .l ⟨g, 0 + (i : Int).toNat * 1, none⟩ (.slice A31 ((xs.getD i []).length) c32) ((hR_17.at i nilS (by omega)).trans (congrArg some hv33)))] 13 14 [(5, .slice A31 ((xs.getD i []).length) c32)] fun a h35 => ?_
   refine V.sr h35 [(3, .i ((((xs.take i).flatten.length : Nat) : Int) + (((xs.getD i []).length : Nat) : Int)))] 15 18 [(3, .int .i64 ((((xs.take i).flatten.length : Nat) : Int) + (((xs.getD i []).length : Nat) : Int)))] fun a h38 => ?_
   refine V.seq fun K39 k40 => ?_
   have htk : (xs.take (i + 1)).flatten = (xs.take i).flatten ++ xs.getD i [] := flat_take (by omega)
   have hln : ((xs.take (i + 1)).flatten).length = ((xs.take i).flatten).length + (xs.getD i []).length := by rw [htk, List.length_append]
   refine V.rr h38 [] 19 19 [(20, .bool (decide (((((xs.take i).flatten.length : Nat) : Int) + (((xs.getD i []).length : Nat) : Int)) < 0)))] fun a h41 => ?_
   refine V.then_n (k40 _ _ ?_)
   refine V.cp h41 (((((xs.take i).flatten.length : Nat) : Int) + (((xs.getD i []).length : Nat) : Int)) < 0) (fun ht42 => ?_) (fun ht42 => ?_)
   · exact absurd ht42 (by omega)
   ·
    refine V.skip ?_
    refine V.blk_n ?_
    refine V.then_n (k28 _ _ ?_)
    refine V.rr h41 [(0, .i ((i : Int) + 1))] 22 22 [(11, .int .i64 ((i : Int) + 1))] fun a h43 => ?_
    refine V.then_n ?_
    refine ⟨i + 1, by omega, ?_⟩
    refine ⟨((h43.eq 3 (v := (.int .i64 ((((xs.take i).flatten.length : Nat) : Int) + (((xs.getD i []).length : Nat) : Int)))) (u := (.int .i64 (((xs.take (i + 1)).flatten.length : Nat) : Int))) (V.int_eq (by omega))).eq 11 (v := (.int .i64 ((i : Int) + 1))) (u := (.int .i64 ((i + 1) : Int))) (V.int_eq (by omega))).only _, hF_16, hR_17, hK_18, (by omega)⟩
  ·
   refine V.exit ?_
   refine V.then_e ?_
   refine V.then_e ?_
   refine V.blk_hit ?_
   refine V.then_n (k9 _ _ ?_)
   refine V.seq fun K44 k45 => ?_
   have hft9 := flat_take_le xs i
   refine V.rg ?_
   refine V.run h23 [] 1 1 0 [(23, .int .i64 (((xs.take i).flatten.length : Nat) : Int))] fun a h46 => ?_
   refine V.cl h46 (Go.Proofs.enters_of Try.func81 (by kernel_rfl) rfl) (grow_any w14 ((xs.take i).flatten.length) (by omega)) ?_
   rintro _ w51 ⟨A47, c48, rfl, hO49, hF50⟩
   refine ⟨_, rfl, fun a h52 => ?_⟩
   have hsw51 := hF50.size
   have hF_53 := hF_16.new hF50
   have hR_54 := hR_17.fr0 hF50
   have hK_55 := hK_18.fr0 hF50
   have hO49q := hO49.rebase (base' := w.heap.size) (by omega)
   refine V.re h52 [] 1 0 [(6, .slice A47 0 c48)] fun a h56 => k45 _ _ ?_
   refine V.seq fun K57 k58 => ?_
   refine V.sr h56 [] 1 0 [(25, .slice (some ⟨g, 0, none⟩) xs.length xs.length), (26, .int .i64 ((xs.length : Nat) : Int)), (27, .int .i64 0)] fun a h61 => ?_
   refine V.block ?_
   refine V.loop3 (fun (i2 : Nat) (A2 : Option Addr) (c2 : Nat) a_ w_ => En 36 [] a_ [(6, .slice A2 ((xs.take i2).flatten.length) c2), (25, .slice (some ⟨g, 0, none⟩) xs.length xs.length), (26, .int .i64 ((xs.length : Nat) : Int)), (27, .int .i64 (i2 : Int))] ∧ OwR itI NoZ w_ w.heap.size 93 (.slice A2 ((xs.take i2).flatten.length) c2) ((xs.take i2).flatten) ∧ Fr [] w w_ ∧ Row idV w_ g vs 94 ∧ Bks itI w_ 93 H (av) (vs ++ vsB) (xs ++ xsB) ∧ (i2 ≤ xs.length)) (fun (i2 : Nat) (A2 : Option Addr) (c2 : Nat) => xs.length - i2) 0 A47 c48 ?_ ?_
   ·
    refine ⟨((h61.eq 6 (v := (.slice A47 0 c48)) (u := (.slice A47 ((xs.take 0).flatten.length) c48)) (V.sl_eq (by simp))).eq 27 (v := (.int .i64 0)) (u := (.int .i64 (0 : Int))) (V.int_eq (by omega))).only _, (by simpa using hO49q), hF_53, hR_54, hK_55, (by omega)⟩
   ·
    rintro i2 A2 c2 a62 w63 ⟨h64, hO_65, hF_66, hR_67, hK_68, hi2⟩
    have hfs69 := hF_66.size
    have hlt70 := hR_67.lt
    have hft := flat_take_le xs (i2 + 1)
    have hft0 := flat_take_le xs i2
    have hbq := flat_getD xs i2
    refine V.sr h64 [] 1 0 [(28, .bool (decide ((i2 : Int) < ((xs.length : Nat) : Int))))] fun a h73 => ?_
    refine V.seq fun K74 k75 => ?_
    refine V.cp h73 ((i2 : Int) < ((xs.length : Nat) : Int)) (fun ht76 => ?_) (fun ht76 => ?_)
    ·
     refine V.skip ?_
     refine V.then_n (k75 _ _ ?_)
     refine V.seq fun K77 k78 => ?_
     refine V.block ?_
     obtain ⟨A81, c82, hv83⟩ := hK_68.getA hl (i := i2) (by omega) nilS
     have hS84 := hK_68.slA hl (i := i2) (by omega) hv83
     refine V.sr h73 [(0, .ix g 0 xs.length xs.length .i64 (i2 : Int) 1 rfl), (0, .l ⟨g, 0 + (i2 : Int).toNat * 1, none⟩ (.slice A81 ((xs.getD i2 []).length) c82) ((hR_67.at i2 nilS (by omega)).trans (congrArg some hv83)))] 29 30 [(8, .slice A81 ((xs.getD i2 []).length) c82)] fun a h85 => ?_
     refine V.rg ?_
     refine V.run h85 [] 2 1 0 [(31, .slice A2 ((xs.take i2).flatten.length) c2), (32, .slice A81 ((xs.getD i2 []).length) c82)] fun a h91 => ?_
     refine V.go (V.appS (R := itI) (h91.e (v := (.slice A2 ((xs.take i2).flatten.length) c2))) (h91.e (v := (.slice A81 ((xs.getD i2 []).length) c82))) (by kernel_rfl) info93 (by kernel_rfl) (by decide) hO_65 hS84 (fun _ _ h => h) (by (try simp only [List.length_append]); omega) (by decide) (by omega) ?_)
     intro A86 c87 w88 hO89 hF90
     have hsw88 := hF90.size
     have hF_92 := hF_66.own hF90 (own_ge hO_65 (by omega))
     have hR_93 := hR_67.fr hF90 (by first | exact own_notin hO_65 (by omega) | exact own_notin2 hO_65 (by omega))
     have hK_94 := hK_68.frP (FrP.of hF90) (fun k hk => .inr (fun hq => by have h1 := hHb k hq; have h2 := own_ge hO_65 (Nat.le_refl _) k hk; omega))
     refine V.pt h91 fun a h95 => ?_
     refine V.re h95 [] 1 0 [(6, .slice A86 (((xs.take i2).flatten).length + (xs.getD i2 []).length) c87)] fun a h96 => ?_
     refine V.blk_n ?_
     refine V.then_n (k78 _ _ ?_)
     refine V.rr h96 [(0, .i ((i2 : Int) + 1))] 34 34 [(27, .int .i64 ((i2 : Int) + 1))] fun a h97 => ?_
     refine V.then_n ?_
     have htk : (xs.take (i2 + 1)).flatten = (xs.take i2).flatten ++ xs.getD i2 [] := flat_take (by omega)
     have hln : ((xs.take (i2 + 1)).flatten).length = ((xs.take i2).flatten).length + (xs.getD i2 []).length := by rw [htk, List.length_append]
     refine ⟨i2 + 1, A86, c87, by omega, ?_⟩
     refine ⟨((h97.eq 6 (v := (.slice A86 (((xs.take i2).flatten).length + (xs.getD i2 []).length) c87)) (u := (.slice A86 ((xs.take (i2 + 1)).flatten.length) c87)) (V.sl_eq hln.symm)).eq 27 (v := (.int .i64 ((i2 : Int) + 1))) (u := (.int .i64 ((i2 + 1) : Int))) (V.int_eq (by omega))).only _, (by rw [hln, htk]; exact hO89), hF_92, hR_93, hK_94, (by omega)⟩
    ·
     refine V.exit ?_
     refine V.then_e ?_
     refine V.then_e ?_
     refine V.blk_hit ?_
     refine V.then_n (k58 _ _ ?_)
     refine V.sr h73 [] 35 35 [(2, .slice A2 ((xs.take i2).flatten.length) c2)] fun a h100 => ?_
     refine V.ret ?_
     refine V.r1 h100 (.slice A2 ((xs.take i2).flatten.length) c2) ?_
     have hq : (xs.take i2).flatten = xs.flatten := by rw [List.take_of_length_le (by omega)]
     rw [hq] at hO_65 ⊢
     exact ⟨_, _, rfl, hO_65, hF_66⟩
end Go.Proofs.Ytalhmegjomfbaaa.S
end
section
namespace Go.Proofs.Ytalhmegjomfbaaa.S
open Go.V Go.Base
open Go.RowKit (Below)
attribute [local irreducible] Act.put Act.eval
set_option linter.unusedVariables false
set_option linter.unusedSimpArgs false
set_option maxHeartbeats 4000000 in
set_option maxRecDepth 20000 in
theorem items_N (w : World) (H : Nat → Prop) (av : List Nat) (t gA : Nat) (vsA : List Value) (T : Tb ByteArray) (hok : T.Ok) (hT : TabN 91 94 93 itI w H av t gA vsA T) (hHb : ∀ k, H k → k < w.heap.size) (hb : T.b.length = 0) : Calls Try.prog 63 #[.pointer (some ⟨t, 0, none⟩)] w (fun e w' => ∃ A c, e = .returned (.slice A T.n c) ∧ OwR itI NoZ w' w.heap.size 93 (.slice A T.n c) (T.a ++ T.b).flatten ∧ Fr [] w w') := by
 have hF := Fr.refl [] w
 have hok0 := hok
 have hsum := hok.sum
 obtain ⟨hsd, hpa, hla, hlb, hmv, hmz, hnn, hcn, hks⟩ := hok
 obtain ⟨hB, hRA, hlA, hK, hne, hpt, hpg⟩ := hT
 have hltt := hB.lt
 have hltg := hRA.lt
 refine V.en 19 Try.func63 fun a h1 => ?_
 refine V.sr h1 [] 2 2 [] fun a h4 => ?_
 refine V.seq fun K5 k6 => ?_
 refine V.sg fun K7 k8 => ?_
 refine V.run h4 [] 1 1 0 [(3, .pointer (some ⟨t, 0, none⟩))] fun a h9 => ?_
 refine V.cl h9 (Go.Proofs.enters_of Try.func54 (by kernel_rfl) rfl) (made_N w t T.seed T.a.length 0 0 gA 0 (.int .i64 (T.moved : Int)) (.int .i64 (T.n : Int)) hB) ?_
 rintro _ w11 ⟨rfl, hF10⟩
 refine ⟨_, rfl, fun a h12 => ?_⟩
 have hsw11 := hF10.size
 have hF_13 := hF.new hF10
 have hB_14 := hB.fr0 hF10
 have hRA_15 := hRA.fr0 hF10
 have hK_16 := hK.fr0 hF10
 refine V.re h12 [] 1 0 [(5, .bool false)] fun a h17 => k8 _ _ ?_
 refine V.cf h17 ?_
 refine V.skip ?_
 refine V.then_n (k6 _ _ ?_)
 refine V.seq fun K18 k19 => ?_
 refine V.pl [([0,1,2,3,4,6,7,8,9,10],some (5,[10])),([],some (11,[])),([],some (12,[])),([13],none)] fun w20 hF21 hsw20 => ?_
 have hF_22 := hF_13.new hF21
 have hB_23 := hB_14.fr0 hF21
 have hRA_24 := hRA_15.fr0 hF21
 have hK_25 := hK_16.fr0 hF21
 refine V.pe h17 [(4, .b hB_23 1), (4, .b hB_23 2)] 6 14 [(10, .slice (some ⟨gA, 0, none⟩) T.a.length T.a.length), (15, .pointer (some ⟨t, 2, none⟩)), (16, .slice none 0 0)] fun a h26 => ?_
 refine V.cl h26 (Go.Proofs.enters_of Try.func78 (by kernel_rfl) rfl) (concat_row w20 _ _ gA vsA ([]) T.a ([]) hRA_24 hlA hK_25 (fun k hk => by have := hHb k hk; omega) (by omega) (by omega)) ?_
 rintro _ w33 ⟨A27, c28, rfl, hO29, hF30⟩
 refine ⟨_, rfl, fun a h34 => ?_⟩
 have hsw33 := hF30.size
 have hF_35 := hF_22.new hF30
 have hB_36 := hB_23.fr0 hF30
 have hO29q := hO29.rebase (base' := w.heap.size) (by omega)
 refine V.eh (fun _ => held_blk (n := 1) (hx := (h26.e (v := (.pointer (some ⟨t, 2, none⟩))))) hB_23 hB_36 (by kernel_rfl) rfl (by simp only [List.length]; omega)) ?_
 refine V.pe h34 [] 1 0 [] fun a h39 => ?_
 refine V.cl h39 (Go.Proofs.enters_of Try.func78 (by kernel_rfl) rfl) (concat_nil w33) ?_
 rintro _ w45 ⟨A40, c41, rfl, hO42, hF43⟩
 refine ⟨_, rfl, fun a h46 => ?_⟩
 have hsw45 := hF43.size
 have hF_47 := hF_35.new hF43
 have hO29q_51 := hO29q.fr0 hF43
 have hS44 := hO42.read (Z' := fun _ => True) (fun _ _ _ => trivial) (fun _ _ _ => trivial)
 refine V.eh trivial ?_
 refine V.pe h46 [] 1 0 [] fun a h52 => ?_
 refine V.go (V.appS (R := itI) (h52.e (v := (.slice A27 T.a.flatten.length c28))) (h52.e (v := (.slice A40 0 c41))) (by kernel_rfl) info93 (by kernel_rfl) (by decide) hO29q_51 hS44 (fun _ _ h => h) (by (try simp only [List.length_nil]); omega) (by decide) (by omega) ?_)
 intro A53 c54 w55 hO56 hF57
 have hsw55 := hF57.size
 have hF_58 := hF_47.own hF57 (own_ge hO29q_51 (by omega))
 refine V.pt h52 fun a h62 => ?_
 refine V.eh trivial ?_
 refine V.pz h62 [] 1 0 [(2, .slice A53 ((T.a.flatten).length + (([] : List (ByteArray × ByteArray))).length) c54)] fun a h63 => k19 _ _ ?_
 refine V.ret ?_
 refine V.r1 h63 (.slice A53 ((T.a.flatten).length + (([] : List (ByteArray × ByteArray))).length) c54) ?_
 have hq : T.a.flatten ++ ([] : List (ByteArray × ByteArray)) = (T.a ++ T.b).flatten := by rw [List.flatten_append, List.eq_nil_of_length_eq_zero hb]; simp only [List.flatten_nil]
 have hn : (T.a.flatten).length + (([] : List (ByteArray × ByteArray))).length = T.n := by rw [← hok0.cn, ← hq]; simp
 rw [hn, hq] at hO56
 rw [hn]
 exact ⟨_, _, rfl, hO56, hF_58⟩
set_option maxHeartbeats 4000000 in
set_option maxRecDepth 20000 in
theorem items_M (w : World) (H : Nat → Prop) (av : List Nat) (t gA gB : Nat) (vsA vsB : List Value) (T : Tb ByteArray) (hok : T.Ok) (hT : TabM 91 94 93 itI w H av t gA gB vsA vsB T) (hHb : ∀ k, H k → k < w.heap.size) (hb : T.b.length ≠ 0) : Calls Try.prog 63 #[.pointer (some ⟨t, 0, none⟩)] w (fun e w' => ∃ A c, e = .returned (.slice A T.n c) ∧ OwR itI NoZ w' w.heap.size 93 (.slice A T.n c) (T.a ++ T.b).flatten ∧ Fr [] w w') := by
 have hF := Fr.refl [] w
 have hok0 := hok
 have hsum := hok.sum
 obtain ⟨hsd, hpa, hla, hlb, hmv, hmz, hnn, hcn, hks⟩ := hok
 obtain ⟨hB, hRA, hRB, hlA, hlB, hK, hne, hne2, hne3, hpt, hpg, hph⟩ := hT
 have hltg2 := hRB.lt
 have hltt := hB.lt
 have hltg := hRA.lt
 refine V.en 19 Try.func63 fun a h1 => ?_
 refine V.sr h1 [] 2 2 [] fun a h4 => ?_
 refine V.seq fun K5 k6 => ?_
 refine V.sg fun K7 k8 => ?_
 refine V.run h4 [] 1 1 0 [(3, .pointer (some ⟨t, 0, none⟩))] fun a h9 => ?_
 refine V.cl h9 (Go.Proofs.enters_of Try.func54 (by kernel_rfl) rfl) (made_M w t T.seed T.a.length T.b.length 0 gA gB (.int .i64 (T.moved : Int)) (.int .i64 (T.n : Int)) hB) ?_
 rintro _ w11 ⟨rfl, hF10⟩
 refine ⟨_, rfl, fun a h12 => ?_⟩
 have hsw11 := hF10.size
 have hF_13 := hF.new hF10
 have hB_14 := hB.fr0 hF10
 have hRA_15 := hRA.fr0 hF10
 have hRB_16 := hRB.fr0 hF10
 have hK_17 := hK.fr0 hF10
 refine V.re h12 [] 1 0 [(5, .bool false)] fun a h18 => k8 _ _ ?_
 refine V.cf h18 ?_
 refine V.skip ?_
 refine V.then_n (k6 _ _ ?_)
 refine V.seq fun K19 k20 => ?_
 refine V.pl [([0,1,2,3,4,6,7,8,9,10],some (5,[10])),([],some (11,[])),([],some (12,[])),([13],none)] fun w21 hF22 hsw21 => ?_
 have hF_23 := hF_13.new hF22
 have hB_24 := hB_14.fr0 hF22
 have hRA_25 := hRA_15.fr0 hF22
 have hRB_26 := hRB_16.fr0 hF22
 have hK_27 := hK_17.fr0 hF22
 refine V.pe h18 [(4, .b hB_24 1), (4, .b hB_24 2)] 6 14 [(10, .slice (some ⟨gA, 0, none⟩) T.a.length T.a.length), (15, .pointer (some ⟨t, 2, none⟩)), (16, .slice (some ⟨gB, 0, none⟩) T.b.length T.b.length)] fun a h28 => ?_
 refine V.cl h28 (Go.Proofs.enters_of Try.func78 (by kernel_rfl) rfl) (concat_row w21 _ _ gA vsA vsB T.a T.b hRA_25 hlA hK_27 (fun k hk => by have := hHb k hk; omega) (by omega) (by omega)) ?_
 rintro _ w35 ⟨A29, c30, rfl, hO31, hF32⟩
 refine ⟨_, rfl, fun a h36 => ?_⟩
 have hsw35 := hF32.size
 have hF_37 := hF_23.new hF32
 have hB_38 := hB_24.fr0 hF32
 have hRB_40 := hRB_26.fr0 hF32
 have hK_41 := hK_27.fr0 hF32
 have hO31q := hO31.rebase (base' := w.heap.size) (by omega)
 refine V.eh (fun _ => held_blk (n := 1) (hx := (h28.e (v := (.pointer (some ⟨t, 2, none⟩))))) hB_24 hB_38 (by kernel_rfl) rfl (by simp only [List.length]; omega)) ?_
 refine V.pe h36 [] 1 0 [] fun a h42 => ?_
 refine V.cl h42 (Go.Proofs.enters_of Try.func78 (by kernel_rfl) rfl) (concat_row w35 _ _ gB vsB [] T.b [] hRB_40 hlB (by have h := hK_41.dropNil hlA; rw [List.append_nil, List.append_nil]; exact h) (fun k hk => by have := hHb k hk; omega) (by omega) (by omega)) ?_
 rintro _ w49 ⟨A43, c44, rfl, hO45, hF46⟩
 refine ⟨_, rfl, fun a h50 => ?_⟩
 have hsw49 := hF46.size
 have hF_51 := hF_37.new hF46
 have hO31q_56 := hO31q.fr0 hF46
 have hS47 := hO45.read (Z' := fun _ => True) (fun _ _ _ => trivial) (fun _ _ _ => trivial)
 refine V.eh trivial ?_
 refine V.pe h50 [] 1 0 [] fun a h57 => ?_
 refine V.go (V.appS (R := itI) (h57.e (v := (.slice A29 T.a.flatten.length c30))) (h57.e (v := (.slice A43 T.b.flatten.length c44))) (by kernel_rfl) info93 (by kernel_rfl) (by decide) hO31q_56 hS47 (fun _ _ h => h) (by (try simp only [List.length_nil]); omega) (by decide) (by omega) ?_)
 intro A58 c59 w60 hO61 hF62
 have hsw60 := hF62.size
 have hF_63 := hF_51.own hF62 (own_ge hO31q_56 (by omega))
 refine V.pt h57 fun a h68 => ?_
 refine V.eh trivial ?_
 refine V.pz h68 [] 1 0 [(2, .slice A58 ((T.a.flatten).length + (T.b.flatten).length) c59)] fun a h69 => k20 _ _ ?_
 refine V.ret ?_
 refine V.r1 h69 (.slice A58 ((T.a.flatten).length + (T.b.flatten).length) c59) ?_
 have hq : T.a.flatten ++ T.b.flatten = (T.a ++ T.b).flatten := by rw [List.flatten_append]
 have hn : (T.a.flatten).length + (T.b.flatten).length = T.n := by rw [← hok0.cn, ← hq]; simp
 rw [hn, hq] at hO61
 rw [hn]
 exact ⟨_, _, rfl, hO61, hF_63⟩
theorem items_any (w : World) (H : Nat → Prop) (av : List Nat) (t : Nat) (T : Tb ByteArray) (hT : TabX 91 94 93 itI w H av t T) (hHb : ∀ k, H k → k < w.heap.size) :
    Calls Try.prog 63 #[.pointer (some ⟨t, 0, none⟩)] w (fun e w' => ∃ A c, e = .returned (.slice A T.n c) ∧ OwR itI NoZ w' w.heap.size 93 (.slice A T.n c) (T.a ++ T.b).flatten ∧ Fr [] w w') := by
  rcases hT.2 with ⟨hb, gA, vsA, h⟩ | ⟨hb, gA, gB, vsA, vsB, h⟩
  · exact items_N w H av t gA vsA T hT.1 h hHb (by rw [hb]; rfl)
  · exact items_M w H av t gA gB vsA vsB T hT.1 h hHb (fun h => hb (List.eq_nil_of_length_eq_zero h))
set_option maxHeartbeats 4000000 in
set_option maxRecDepth 20000 in
theorem all_any (w : World) (q : Option Addr) : Calls Try.prog 29 #[.pointer q] w (fun e w' => ∃ b, e = .returned (.func (.func 62) #[] #[.pointer (some ⟨b, 0, none⟩)]) ∧ Blk w' b [.pointer q] 50 ∧ w.heap.size ≤ b ∧ Fr [] w w') := by
 have hF := Fr.refl [] w
 refine V.en 4 Try.func29 fun a h1 => ?_
 refine V.sg fun K2 k3 => ?_
 refine V.go (V.mk [(0, .pointer q)] ⟨h1.e, trivial⟩ (by kernel_rfl) [.pointer q] 50 (fun b => .pointer (some ⟨b, 0, none⟩)) (by kernel_rfl) ?_)
 intro w5 b4 heb4 hB6 hF7 hsb4
 have hF_8 := hF.new hF7
 refine V.pt h1 fun a h9 => ?_
 refine V.re h9 [] 2 2 [] fun a h10 => k3 _ _ ?_
 refine V.sr h10 [] 3 3 [(2, .func (.func 62) #[] #[.pointer (some ⟨b4, 0, none⟩)])] fun a h13 => ?_
 refine V.ret ?_
 refine V.r1 h13 (.func (.func 62) #[] #[.pointer (some ⟨b4, 0, none⟩)]) ?_
 exact ⟨b4, rfl, hB6, by omega, hF_8⟩
set_option maxHeartbeats 4000000 in
set_option maxRecDepth 20000 in
theorem all1_any (w : World) (H : Nat → Prop) (av : List Nat) (t : Nat) (T : Tb ByteArray) (hT : TabX 91 94 93 itI w H av t T) (hHb : ∀ k, H k → k < w.heap.size) (b : Nat) (hB : Blk w b [.pointer (some ⟨t, 0, none⟩)] 50) (fv : Value) (I Ix : Nat → List (ByteArray × ByteArray) → World → Prop) (hI : ∀ n pre W W', I n pre W → Fr [] W W' → I n pre W') (h0 : ∀ W1, Fr [] w W1 → I W1.heap.size [] W1) (hY : ∀ n pre x W, w.heap.size ≤ n → n ≤ W.heap.size → I n pre W → (∃ rest, pre ++ x :: rest = (T.a ++ T.b).flatten) → CallV Try.prog fv #[.string x.1, .string x.2] W (fun e W' => (e = .returned (.bool true) ∧ I n (pre ++ [x]) W' ∧ KeptP (fun k => w.heap.size ≤ k ∧ k < n) W W') ∨ (e = .returned (.bool false) ∧ Ix n (pre ++ [x]) W'))) : Calls Try.prog 62 #[fv, .pointer (some ⟨b, 0, none⟩)] w (fun e w' => (∃ v, e = .returned v) ∧ ((∃ n, w.heap.size ≤ n ∧ I n (T.a ++ T.b).flatten w') ∨ (∃ n pre, w.heap.size ≤ n ∧ (∃ rest, pre ++ rest = (T.a ++ T.b).flatten) ∧ Ix n pre w'))) := by
 have hF := Fr.refl [] w
 refine V.en 20 Try.func62 fun a h1 => ?_
 refine V.sg fun K2 k3 => ?_
 refine V.run h1 [(0, .b hB 0)] 1 1 0 [(5, .pointer (some ⟨t, 0, none⟩))] fun a h4 => ?_
 refine V.cl h4 (Go.Proofs.enters_of Try.func63 (by kernel_rfl) rfl) (items_any w (H) (av) t (T) hT (fun k hk => by have := hHb k hk; omega)) ?_
 rintro _ w10 ⟨A5, c6, rfl, hO7, hF8⟩
 refine ⟨_, rfl, fun a h11 => ?_⟩
 have hsw10 := hF8.size
 have hF_12 := hF.new hF8
 obtain ⟨n, hn⟩ : ∃ n, n = w10.heap.size := ⟨_, rfl⟩
 have hS := hO7.read (Z' := fun k => w.heap.size ≤ k ∧ k < n) (fun _ _ h => h.elim) (fun b hb hl => ⟨hb, by omega⟩)
 have hcn := hT.1.cn
 have hnn := hT.1.nn
 refine V.re h11 [] 1 0 [(7, .int .i64 ((T.n : Nat) : Int)), (8, .int .i64 0)] fun a h13 => k3 _ _ ?_
 refine V.block ?_
 refine V.loop2 (fun (i : Nat) (W0 : World) a_ w_ => En 20 [] a_ [(0, fv), (6, .slice A5 T.n c6), (7, .int .i64 ((T.n : Nat) : Int)), (8, .int .i64 (i : Int))] ∧ Fr [] W0 w_ ∧ SlR itI (fun k => w.heap.size ≤ k ∧ k < n) w_ (.slice A5 T.n c6) ((T.a ++ T.b).flatten) ∧ (i ≤ (T.a ++ T.b).flatten.length) ∧ (w.heap.size ≤ n) ∧ (n ≤ W0.heap.size) ∧ (I n ((T.a ++ T.b).flatten.take i) W0)) (fun (i : Nat) (W0 : World) => (T.a ++ T.b).flatten.length - i) 0 w10 ?_ ?_
 ·
  refine ⟨(h13.eq 8 (v := (.int .i64 0)) (u := (.int .i64 (0 : Int))) (V.int_eq (by omega))).only _, (Fr.refl [] _), hS, (by omega), (by omega), (by omega), (by rw [hn]; exact h0 _ hF_12)⟩
 ·
  rintro i W0 a14 w15 ⟨h16, hFr_17, hS_18, hi, hn0, hnl, hJ⟩
  have hfs19 := hFr_17.size
  refine V.sr h16 [] 1 0 [(9, .bool (decide ((i : Int) < ((T.n : Nat) : Int))))] fun a h22 => ?_
  refine V.seq fun K23 k24 => ?_
  refine V.cp h22 ((i : Int) < ((T.n : Nat) : Int)) (fun ht25 => ?_) (fun ht25 => ?_)
  ·
   refine V.skip ?_
   refine V.then_n (k24 _ _ ?_)
   refine V.seq fun K26 k27 => ?_
   refine V.block ?_
   obtain ⟨g30, o31, hA32, hA32l, hA32z⟩ := hS_18.addr (by omega)
   try dsimp only at hA32z
   obtain ⟨cs33, hok34, hE35⟩ := hS_18.els hA32 (i : Int) (by omega) (by omega)
   refine V.sg fun K28 k29 => ?_
   refine V.run h22 [(0, .ix g30 o31 T.n c6 .i64 (i : Int) 2 hA32)] 1 1 0 [(10, .pointer (some ⟨g30, o31 + (i : Int).toNat * 2, none⟩))] fun a h36 => ?_
   obtain rfl : cs33 = [.string (at_ itI ((T.a ++ T.b).flatten) (i : Int)).1, .string (at_ itI ((T.a ++ T.b).flatten) (i : Int)).2] := hok34
   refine V.run h36 [(0, .ls ⟨g30, o31 + (i : Int).toNat * 2, none⟩ [.string ((at_ itI ((T.a ++ T.b).flatten) (i : Int)).1), .string ((at_ itI ((T.a ++ T.b).flatten) (i : Int)).2)] (hE35.cells 0 _ rfl))] 1 1 0 [(11, .agg #[.string ((at_ itI ((T.a ++ T.b).flatten) (i : Int)).1), .string ((at_ itI ((T.a ++ T.b).flatten) (i : Int)).2)])] fun a h41 => ?_
   refine V.go (V.mk [] trivial (by kernel_rfl) [.string ⟨#[]⟩, .string ⟨#[]⟩] 93 (fun b => .pointer (some ⟨b, 0, none⟩)) (by kernel_rfl) ?_)
   intro w38 b37 heb37 hB39 hF40 hsb37
   have hFr_42 := hFr_17.new hF40
   have hS_43 := hS_18.fr0 hF40
   refine V.pt h41 fun a h45 => ?_
   refine V.go (V.stn b37 0 (.agg #[.string ((at_ itI ((T.a ++ T.b).flatten) (i : Int)).1), .string ((at_ itI ((T.a ++ T.b).flatten) (i : Int)).2)]) [.string ((at_ itI ((T.a ++ T.b).flatten) (i : Int)).1), .string ((at_ itI ((T.a ++ T.b).flatten) (i : Int)).2)] h45.e h45.e rfl rfl (by kernel_rfl) hB39 (by simp) [.string ((at_ itI ((T.a ++ T.b).flatten) (i : Int)).1), .string ((at_ itI ((T.a ++ T.b).flatten) (i : Int)).2)] rfl ?_)
   intro w46 hB47 hF48 hsw46
   have hFr_49 := hFr_42.own hF48 (by simp <;> omega)
   have hS_50 := hS_43.fr hF48 (by simp <;> omega)
   refine V.nt (k29 _ _ ?_)
   refine V.sg fun K52 k53 => ?_
   refine V.run h45 [(2, .b hB47 0), (1, .b hB47 1)] 5 13 15 [(12, fv), (14, .string ((at_ itI ((T.a ++ T.b).flatten) (i : Int)).1)), (16, .string ((at_ itI ((T.a ++ T.b).flatten) (i : Int)).2))] fun a h55 => ?_
   have htk := take_at itI (l := (T.a ++ T.b).flatten) (k := i) (by omega)
   have hcall := hY n ((T.a ++ T.b).flatten.take i) (at_ itI (T.a ++ T.b).flatten (i : Int)) w46 hn0 (by omega) (hI _ _ _ _ hJ hFr_49) ⟨_, by rw [List.append_cons, ← htk]; exact List.take_append_drop (i + 1) _⟩
   refine V.go (V.callV fv #[.string ((at_ itI ((T.a ++ T.b).flatten) (i : Int)).1), .string ((at_ itI ((T.a ++ T.b).flatten) (i : Int)).2)] (h55.e (v := (fv))) (args2 (h55.e (v := (.string ((at_ itI ((T.a ++ T.b).flatten) (i : Int)).1)))) (h55.e (v := (.string ((at_ itI ((T.a ++ T.b).flatten) (i : Int)).2))))) hcall ?_)
   rintro e w54 (⟨rfl, hJ1, hkp⟩ | ⟨rfl, hJx⟩)
   ·
    refine ⟨_, rfl, ?_⟩
    rw [← htk] at hJ1
    have hS56 := hS_50.kept hkp (fun k hk => hk)
    refine V.pt h55 fun a h57 => ?_
    refine V.re h57 [] 1 0 [(18, .bool false)] fun a h58 => k53 _ _ ?_
    refine V.cf h58 ?_
    refine V.skip ?_
    refine V.blk_n ?_
    refine V.then_n (k27 _ _ ?_)
    refine V.rr h58 [(0, .i ((i : Int) + 1))] 19 19 [(8, .int .i64 ((i : Int) + 1))] fun a h59 => ?_
    refine V.then_n ?_
    refine ⟨i + 1, w54, by omega, ?_⟩
    refine ⟨(h59.eq 8 (v := (.int .i64 ((i : Int) + 1))) (u := (.int .i64 ((i + 1) : Int))) (V.int_eq (by omega))).only _, (Fr.refl [] _), hS56, (by omega), (by omega), (by have := hkp.1; omega), hJ1⟩
   ·
    refine ⟨_, rfl, ?_⟩
    rw [← htk] at hJx
    refine V.pt h55 fun a h60 => ?_
    refine V.re h60 [] 1 0 [(18, .bool true)] fun a h61 => k53 _ _ ?_
    refine V.ct h61 ?_
    refine V.ret ?_
    refine V.blk_r ?_
    refine V.then_r ?_
    refine V.then_r ?_
    refine V.blk_r ?_
    refine V.r0 h61 ?_
    exact ⟨⟨_, rfl⟩, .inr ⟨n, _, hn0, ⟨_, List.take_append_drop (i + 1) _⟩, hJx⟩⟩
  ·
   refine V.exit ?_
   refine V.then_e ?_
   refine V.then_e ?_
   refine V.blk_hit ?_
   refine V.e0 h22 ?_
   exact ⟨⟨_, rfl⟩, .inl ⟨n, hn0, by have h := hI _ _ _ _ hJ hFr_17; rwa [List.take_of_length_le (by omega)] at h⟩⟩
end Go.Proofs.Ytalhmegjomfbaaa.S
end
section
namespace Go.V
open Go.Base Go.RowKit
set_option linter.unusedVariables false
set_option linter.unusedSimpArgs false
section
variable {α β : Type}
def mapI (f : ByteArray → α → β) (l : List (ByteArray × α)) : List (ByteArray × β) := l.map fun x => (x.1, f x.1 x.2)
def Tb.mp (f : ByteArray → α → β) (T : Tb α) : Tb β := ⟨T.seed, T.a.map (mapI f), T.b.map (mapI f), T.moved, T.n⟩
def Tb.ks (T : Tb α) : Tb Unit := T.mp fun _ _ => ()
/-- All the keys, in their order. -/
def Tb.keys (T : Tb α) : List ByteArray := (T.a ++ T.b).flatten.map (·.1)
end
end Go.V
end
section
namespace Go.Proofs.Ytalhmegjomfbaaa
open Go.V Go.Base
open Go.RowKit (Below)
attribute [local irreducible] Act.put Act.eval
set_option linter.unusedVariables false
set_option linter.unusedSimpArgs false
set_option maxHeartbeats 4000000
set_option maxRecDepth 20000
/-- Tables of their own: the program's of numbers, one of texts. -/
def Zx (w0 : World) (H : Nat → Prop) : Nat → Prop := fun k => w0.heap.size ≤ k ∧ ¬ H k
def A3 (w0 w : World) (av : List Nat) (t : Nat) (T : Tb Int) (u : Nat) (U : Tb ByteArray) : Prop :=
  ∃ Hu : Nat → Prop, D1 (Zx w0 Hu) w av t T ∧ TabX 91 94 93 S.itI w Hu av u U ∧ ∀ k, Hu k → w0.heap.size ≤ k ∧ k < w.heap.size
def B3 (w0 w : World) (av : List Nat) (t : Nat) (T : Tb Int) (r : Nat) (R : Tb Int) (u : Nat) (U : Tb ByteArray) : Prop :=
  ∃ Hu : Nat → Prop, D2 (Zx w0 Hu) w av t T r R ∧ TabX 91 94 93 S.itI w Hu av u U ∧ ∀ k, Hu k → w0.heap.size ≤ k ∧ k < w.heap.size
section
variable {w0 w w1 w2 : World} {av av' : List Nat} {t r u : Nat} {T R : Tb Int} {U U' : Tb ByteArray}
theorem A3.mk (h : D1 (fun k => w0.heap.size ≤ k) w1 av t T) (h1 : D1 (fun k => w0.heap.size ≤ k) w av t T) (hw : w0.heap.size ≤ w.heap.size) (f : Fr [] w w1) (h2 : TabX 91 94 93 S.itI w1 (gr (fun _ => False) w w1) av u U) : A3 w0 w1 av t T u U := by
  have hs := f.size
  refine ⟨_, ?_, h2, fun k hk => ?_⟩
  · refine (h1.mono (Z' := Zx w0 (gr (fun _ => False) w w1)) fun k hk hz => ⟨hz, fun hq => ?_⟩).fr0 f
    rcases hq with hq | hq
    · exact hq
    · omega
  · rcases hk with hk | hk
    · exact hk.elim
    · exact ⟨by omega, hk.2⟩
theorem A3.fr (h : A3 w0 w av t T u U) {l : List Nat} (f : Fr l w w1) (hl : ∀ k ∈ l, k ∈ av ∨ ¬ w0.heap.size ≤ k) : A3 w0 w1 av t T u U := by
  obtain ⟨Hu, h1, h2, h3⟩ := h
  have hs := f.size
  exact ⟨Hu, h1.fr f fun k hk => (hl k hk).imp id fun q hq => q hq.1, h2.fr f fun k hk => (hl k hk).imp id fun q hq => q (h3 k hq).1, fun k hk => ⟨(h3 k hk).1, by have := (h3 k hk).2; omega⟩⟩
theorem A3.fr0 (h : A3 w0 w av t T u U) (f : Fr [] w w1) : A3 w0 w1 av t T u U := h.fr f fun k hk => by cases hk
theorem A3.alloc (h : A3 w0 w av t T u U) (f : Fr [] w w1) {b : Nat} (hb : b = w.heap.size) (hlt : b < w1.heap.size) : A3 w0 w1 (b :: av) t T u U := by
  obtain ⟨Hu, h1, h2, h3⟩ := h
  have hs := f.size
  exact ⟨Hu, h1.alloc f hb hlt, h2.alloc f hb hlt, fun k hk => ⟨(h3 k hk).1, by have := (h3 k hk).2; omega⟩⟩
theorem A3.sub (h : A3 w0 w av t T u U) (hs : ∀ k ∈ av', k ∈ av) : A3 w0 w av' t T u U := by
  obtain ⟨Hu, h1, h2, h3⟩ := h
  exact ⟨Hu, h1.sub hs, h2.sub hs fun _ _ q => q, h3⟩
theorem A3.avh (h : A3 w0 w av t T u U) : ∀ k ∈ av, k < w.heap.size := by
  obtain ⟨Hu, h1, h2, h3⟩ := h
  exact Go.Proofs.Ytalhmegjomfbaaa.avh h1
theorem A3.two (h : A3 w0 w av t T u U) (f : Fr [] w w1) (h2 : TabX 40 42 60 itI w1 (gr (fun _ => False) w w1) av r R) (hw : w0.heap.size ≤ w.heap.size) : B3 w0 w1 av t T r R u U := by
  obtain ⟨Hu, h1, h3, h4⟩ := h
  have hs := f.size
  exact ⟨Hu, (h1.fr0 f).two f h2 h1 (fun k hk => ⟨by omega, fun hq => by have := (h4 k hq).2; omega⟩), h3.fr0 f, fun k hk => ⟨(h4 k hk).1, by have := (h4 k hk).2; omega⟩⟩
theorem B3.act (h : B3 w0 w av t T r R u U) (N : Nat) (o : OpD) (hgT : Gd T N) (hgU : Gd R 0) (hN : N < 1000000) (ho : o.ok) (hw : w0.heap.size ≤ w.heap.size) :
    Calls Try.prog 16 #[.pointer (some ⟨t, 0, none⟩), .pointer (some ⟨r, 0, none⟩), .agg #[.int .i64 o.kind, .string o.key, .int .i64 o.v, .int .u64 (o.draw : Int)]] w (fun e w' => (∃ b, e = .returned (.bool b)) ∧ A3 w0 w' av t (actT T o) u U ∧ FrP (zn (fun k => w0.heap.size ≤ k) av) w w') := by
  obtain ⟨Hu, h1, h2, h3⟩ := h
  refine (act_new w _ av t r T R N o h1 hgT hgU hN ho fun k hk => ⟨by omega, fun hq => by have := (h3 k hq).2; omega⟩).mono fun e w1 ⟨hb, q1, q2⟩ => ?_
  have hs := q2.size
  exact ⟨hb, ⟨Hu, q1, h2.frP q2 fun k hk => .inr hk.1.2, fun k hk => ⟨(h3 k hk).1, by have := (h3 k hk).2; omega⟩⟩, q2.mono fun k hk => ⟨hk.1.1, hk.2⟩⟩
variable {P : Program} {f : FuncId} {args : Array Value} {e0 : Ending}
theorem A3.rdU {R : Ending → World → Prop} (h : A3 w0 w av t T u U) (hc : ∀ H, TabX 91 94 93 S.itI w H av u U → (∀ k, H k → k < w.heap.size) → Calls P f args w R) : Calls P f args w R := by
  obtain ⟨Hu, h1, h2, h3⟩ := h
  exact hc Hu h2 fun k hk => (h3 k hk).2
end
/-- An act on a table of texts. -/
def actS (U : Tb ByteArray) (o : OpD) : Tb ByteArray :=
  if o.kind = 1 then putT U (keyS o.key) o.key else if o.kind = 2 then tbStep U else if o.kind = 3 then delT U (keyS o.key) else if o.kind = 5 then tbStep U else U
theorem Gd.acts {U : Tb ByteArray} {N : Nat} (h : Gd U N) (hN : N < 1000000) (o : OpD) : Gd (actS U o) (N + 1) := by
  unfold actS
  split
  · exact h.put hN (key_le _) _
  · split
    · exact h.step.raise (Nat.le_succ N)
    · split
      · exact (h.del _).raise (Nat.le_succ N)
      · split
        · exact h.step.raise (Nat.le_succ N)
        · exact h.raise (Nat.le_succ N)
/-- What is known behind so many items told. -/
def anyI (rb nb : Nat) (w0 : World) (n : Nat) (pre : List (ByteArray × ByteArray)) (W : World) : Prop :=
  w0.heap.size ≤ n ∧ n ≤ W.heap.size ∧ Blk W rb [.bool true] 4 ∧ Blk W nb [.int .i64 (pre.length : Int)] 3 ∧ Fr [rb, nb] w0 W
end Go.Proofs.Ytalhmegjomfbaaa
end
section
namespace Go.V
open Go.Plan (FW wpL bind_ok NOk)
open Go.RowKit Go.Base
theorem catg {ro : Option Nat} {P : Program} {Q : Exit → Act → World → Prop} {a : Act} {w : World} {ops : Array Oper} {rest : List Oper} {d ty pos aft g}
    {t t' : TypeId} {x y : Operand} {s u z : ByteArray} (hz : z = s ++ u) (hx : a.eval x = .string s) (hy : a.eval y = .string u) (h : s.size + u.size ≤ 9223372036854775807) (k : L ro P ops Q rest (a.put d (.string z)) w) : St ro P ops Q rest ⟨d, .binOp .add t x y t', ty, pos, aft, g⟩ a w :=
  cat hx hy h (by rw [← hz]; exact k)
end Go.V
end
