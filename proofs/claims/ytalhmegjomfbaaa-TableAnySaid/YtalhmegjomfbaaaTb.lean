/- Walks: buckets, find. -/
import Derived.Test.YtalhmegjomfbaaaProg
import Derived.Test.YtalhmegjomfbaaaTa
import Derived.Test.YtalhmegjomfbaaaUnr
import Derived.Test.YtalhmegjomfbaaaAgg
namespace Go.Proofs.Ytalhmegjomfbaaa
open Go.V Go.Base
open Go.RowKit (Below)
attribute [local irreducible] Act.put Act.eval
set_option linter.unusedVariables false
set_option linter.unusedSimpArgs false
theorem info86 : (Try.prog.info? 86).map (fun i => (i.zero, i.size, i.bytes)) = some (some (.agg #[.string ⟨#[]⟩, .int .i64 0]), 2, 24) := by kernel_rfl
theorem info87 : (Try.prog.info? 87).map (fun i => (i.zero, i.size, i.bytes)) = some (some (.slice none 0 0), 1, 24) := by kernel_rfl
def itI : Rp (ByteArray × Int) := Rp.flat (⟨#[]⟩, 0) 2 (fun x => [.string x.1, .int .i64 x.2]) (fun _ => rfl) (fun x u hu => by simp at hu; rcases hu with rfl | rfl <;> rfl)
theorem bkt_lt (seed : Nat) (k : ByteArray) {n : Nat} (h : 0 < n) : bkt seed n k < n := Nat.mod_lt _ h
theorem miss_step {α : Type} (R : Rp (ByteArray × α)) {l : List (ByteArray × α)} {k : ByteArray} {i : Nat} (h : ∀ (j : Nat) (x : ByteArray × α), j < i → l[j]? = some x → x.1 ≠ k) (hi : i < l.length) (hn : ¬ (at_ R l (i : Int)).1 = k) : ∀ (j : Nat) (x : ByteArray × α), j < i + 1 → l[j]? = some x → x.1 ≠ k := by
  intro j x hj hx
  by_cases hji : j = i
  · subst hji
    have := at_some R (xs := l) (i := (j : Int)) (by omega) (by omega)
    rw [Int.toNat_natCast, hx] at this
    injection this with this
    rw [this]; exact hn
  · exact h j x (by omega) hx
theorem miss_end {α : Type} {l : List (ByteArray × α)} {k : ByteArray} {i : Nat} (h : ∀ (j : Nat) (x : ByteArray × α), j < i → l[j]? = some x → x.1 ≠ k) (hi : l.length ≤ i) : ixI l k = -1 :=
  ixI_miss fun j x hx => h j x (by have := (List.getElem?_eq_some_iff.1 hx).1; omega) hx
theorem hit_end {α : Type} (R : Rp (ByteArray × α)) {l : List (ByteArray × α)} {k : ByteArray} {i : Nat} (h : ∀ (j : Nat) (x : ByteArray × α), j < i → l[j]? = some x → x.1 ≠ k) (hi : i < l.length) (hk : (at_ R l (i : Int)).1 = k) : ixI l k = (i : Int) :=
  ixI_hit hi h (at_some R (xs := l) (i := (i : Int)) (by omega) (by omega)) hk
set_option maxHeartbeats 4000000 in
set_option maxRecDepth 20000 in
theorem made_N (w : World) (t : Nat) (seed n0 n1 c1 gA gB : Nat) (m1 m2 : Value) (hB : Blk w t [.int .u64 (seed : Int), .slice (some ⟨gA, 0, none⟩) n0 n0, .slice none 0 0, m1, m2] 67) : Calls Try.prog 51 #[.pointer (some ⟨t, 0, none⟩)] w (fun e w' => e = .returned (.bool true) ∧ Fr [] w w') := by
 have hF := Fr.refl [] w
 refine V.en 13 Try.func51 fun a h1 => ?_
 refine V.sr h1 [] 2 2 [] fun a h4 => ?_
 refine V.sr h4 [(7, .b hB 1)] 3 12 [(2, .bool true)] fun a h7 => ?_
 refine V.ret ?_
 refine V.r1 h7 (.bool true) ?_
 exact ⟨rfl, hF⟩
set_option maxHeartbeats 4000000 in
set_option maxRecDepth 20000 in
theorem made_M (w : World) (t : Nat) (seed n0 n1 c1 gA gB : Nat) (m1 m2 : Value) (hB : Blk w t [.int .u64 (seed : Int), .slice (some ⟨gA, 0, none⟩) n0 n0, .slice (some ⟨gB, 0, none⟩) n1 n1, m1, m2] 67) : Calls Try.prog 51 #[.pointer (some ⟨t, 0, none⟩)] w (fun e w' => e = .returned (.bool true) ∧ Fr [] w w') := by
 have hF := Fr.refl [] w
 refine V.en 13 Try.func51 fun a h1 => ?_
 refine V.sr h1 [] 2 2 [] fun a h4 => ?_
 refine V.sr h4 [(7, .b hB 1)] 3 12 [(2, .bool true)] fun a h7 => ?_
 refine V.ret ?_
 refine V.r1 h7 (.bool true) ?_
 exact ⟨rfl, hF⟩
set_option maxHeartbeats 4000000 in
set_option maxRecDepth 20000 in
theorem moves_N (w : World) (t : Nat) (seed n0 n1 c1 gA gB : Nat) (m1 m2 : Value) (hB : Blk w t [.int .u64 (seed : Int), .slice (some ⟨gA, 0, none⟩) n0 n0, .slice none 0 0, m1, m2] 67) : Calls Try.prog 65 #[.pointer (some ⟨t, 0, none⟩)] w (fun e w' => e = .returned (.bool false) ∧ Fr [] w w') := by
 have hF := Fr.refl [] w
 refine V.en 9 Try.func65 fun a h1 => ?_
 refine V.sr h1 [] 2 2 [] fun a h4 => ?_
 refine V.sr h4 [(4, .b hB 2)] 3 8 [(2, .bool false)] fun a h7 => ?_
 refine V.ret ?_
 refine V.r1 h7 (.bool false) ?_
 exact ⟨rfl, hF⟩
set_option maxHeartbeats 4000000 in
set_option maxRecDepth 20000 in
theorem moves_M (w : World) (t : Nat) (seed n0 n1 c1 gA gB : Nat) (m1 m2 : Value) (hB : Blk w t [.int .u64 (seed : Int), .slice (some ⟨gA, 0, none⟩) n0 n0, .slice (some ⟨gB, 0, none⟩) n1 n1, m1, m2] 67) : Calls Try.prog 65 #[.pointer (some ⟨t, 0, none⟩)] w (fun e w' => e = .returned (.bool true) ∧ Fr [] w w') := by
 have hF := Fr.refl [] w
 refine V.en 9 Try.func65 fun a h1 => ?_
 refine V.sr h1 [] 2 2 [] fun a h4 => ?_
 refine V.sr h4 [(4, .b hB 2)] 3 8 [(2, .bool true)] fun a h7 => ?_
 refine V.ret ?_
 refine V.r1 h7 (.bool true) ?_
 exact ⟨rfl, hF⟩
set_option maxHeartbeats 4000000 in
set_option maxRecDepth 20000 in
theorem bucket_N0 (w : World) (t : Nat) (seed n0 n1 c1 gA gB : Nat) (m1 m2 : Value) (hB : Blk w t [.int .u64 (seed : Int), .slice (some ⟨gA, 0, none⟩) n0 n0, .slice none 0 0, m1, m2] 67) (k : ByteArray) (hsd : seed < 18446744073709551616) (hk : k.size ≤ 9223372036854775807) (hn : 0 < n0) (hn2 : n0 ≤ 4398046511104) : Calls Try.prog 66 #[.pointer (some ⟨t, 0, none⟩), .int .i64 0, .string k] w (fun e w' => e = .returned (.int .i64 ((bkt seed n0 k : Nat) : Int)) ∧ Fr [] w w') := by
 have hF := Fr.refl [] w
 have hbk := bkt_lt seed k hn
 refine V.en 23 Try.func66 fun a h1 => ?_
 refine V.sr h1 [] 6 6 [] fun a h4 => ?_
 refine V.seq fun K5 k6 => ?_
 refine V.pl [([0,1,2,3,4,6,7,8,9,10,11,12,13],some (5,[11])),([14,15,16],none)] fun w7 hF8 hsw7 => ?_
 have hF_9 := hF.new hF8
 have hB_10 := hB.fr0 hF8
 refine V.pe h4 [(3, .b hB_10 0), (6, .b hB_10 1), (1, .q (.int .u64 ((n0 : Nat) : Int)) (V.w_u64 (by omega) (by omega)))] 7 19 [(10, .int .u64 (seed : Int)), (11, .string k), (17, .pointer (some ⟨t, 1, none⟩)), (20, .int .u64 ((n0 : Nat) : Int))] fun a h11 => ?_
 refine V.cl h11 (Go.Proofs.enters_of Try.func11 (by kernel_rfl) rfl) (hash_any w7 seed k (by omega) (by omega)) ?_
 rintro _ w13 ⟨rfl, hF12⟩
 refine ⟨_, rfl, fun a h14 => ?_⟩
 have hsw13 := hF12.size
 have hF_15 := hF_9.new hF12
 have hB_16 := hB_10.fr0 hF12
 have hhl12 := hashN_lt (seed := seed) (by omega) k
 refine V.eh (fun _ => held_blk (n := 1) (hx := (h11.e (v := (.pointer (some ⟨t, 1, none⟩))))) hB_10 hB_16 (by kernel_rfl) rfl (by simp only [List.length]; omega)) ?_
 refine V.pz h14 [(0, .remN .u64 (hashN seed k) n0), (0, .q (.int .i64 ((bkt seed n0 k : Nat) : Int)) (V.w_i64 (by omega) (by omega)))] 21 22 [(6, .int .i64 ((bkt seed n0 k : Nat) : Int))] fun a h17 => k6 _ _ ?_
 refine V.ret ?_
 refine V.r1 h17 (.int .i64 ((bkt seed n0 k : Nat) : Int)) ?_
 exact ⟨rfl, hF_15⟩
set_option maxHeartbeats 4000000 in
set_option maxRecDepth 20000 in
theorem bucket_M0 (w : World) (t : Nat) (seed n0 n1 c1 gA gB : Nat) (m1 m2 : Value) (hB : Blk w t [.int .u64 (seed : Int), .slice (some ⟨gA, 0, none⟩) n0 n0, .slice (some ⟨gB, 0, none⟩) n1 n1, m1, m2] 67) (k : ByteArray) (hsd : seed < 18446744073709551616) (hk : k.size ≤ 9223372036854775807) (hn : 0 < n0) (hn2 : n0 ≤ 4398046511104) : Calls Try.prog 66 #[.pointer (some ⟨t, 0, none⟩), .int .i64 0, .string k] w (fun e w' => e = .returned (.int .i64 ((bkt seed n0 k : Nat) : Int)) ∧ Fr [] w w') := by
 have hF := Fr.refl [] w
 have hbk := bkt_lt seed k hn
 refine V.en 23 Try.func66 fun a h1 => ?_
 refine V.sr h1 [] 6 6 [] fun a h4 => ?_
 refine V.seq fun K5 k6 => ?_
 refine V.pl [([0,1,2,3,4,6,7,8,9,10,11,12,13],some (5,[11])),([14,15,16],none)] fun w7 hF8 hsw7 => ?_
 have hF_9 := hF.new hF8
 have hB_10 := hB.fr0 hF8
 refine V.pe h4 [(3, .b hB_10 0), (6, .b hB_10 1), (1, .q (.int .u64 ((n0 : Nat) : Int)) (V.w_u64 (by omega) (by omega)))] 7 19 [(10, .int .u64 (seed : Int)), (11, .string k), (17, .pointer (some ⟨t, 1, none⟩)), (20, .int .u64 ((n0 : Nat) : Int))] fun a h11 => ?_
 refine V.cl h11 (Go.Proofs.enters_of Try.func11 (by kernel_rfl) rfl) (hash_any w7 seed k (by omega) (by omega)) ?_
 rintro _ w13 ⟨rfl, hF12⟩
 refine ⟨_, rfl, fun a h14 => ?_⟩
 have hsw13 := hF12.size
 have hF_15 := hF_9.new hF12
 have hB_16 := hB_10.fr0 hF12
 have hhl12 := hashN_lt (seed := seed) (by omega) k
 refine V.eh (fun _ => held_blk (n := 1) (hx := (h11.e (v := (.pointer (some ⟨t, 1, none⟩))))) hB_10 hB_16 (by kernel_rfl) rfl (by simp only [List.length]; omega)) ?_
 refine V.pz h14 [(0, .remN .u64 (hashN seed k) n0), (0, .q (.int .i64 ((bkt seed n0 k : Nat) : Int)) (V.w_i64 (by omega) (by omega)))] 21 22 [(6, .int .i64 ((bkt seed n0 k : Nat) : Int))] fun a h17 => k6 _ _ ?_
 refine V.ret ?_
 refine V.r1 h17 (.int .i64 ((bkt seed n0 k : Nat) : Int)) ?_
 exact ⟨rfl, hF_15⟩
set_option maxHeartbeats 4000000 in
set_option maxRecDepth 20000 in
theorem bucket_M1 (w : World) (t : Nat) (seed n0 n1 c1 gA gB : Nat) (m1 m2 : Value) (hB : Blk w t [.int .u64 (seed : Int), .slice (some ⟨gA, 0, none⟩) n0 n0, .slice (some ⟨gB, 0, none⟩) n1 n1, m1, m2] 67) (k : ByteArray) (hsd : seed < 18446744073709551616) (hk : k.size ≤ 9223372036854775807) (hn : 0 < n1) (hn2 : n1 ≤ 4398046511104) : Calls Try.prog 66 #[.pointer (some ⟨t, 0, none⟩), .int .i64 1, .string k] w (fun e w' => e = .returned (.int .i64 ((bkt seed n1 k : Nat) : Int)) ∧ Fr [] w w') := by
 have hF := Fr.refl [] w
 have hbk := bkt_lt seed k hn
 refine V.en 23 Try.func66 fun a h1 => ?_
 refine V.sr h1 [] 6 6 [] fun a h4 => ?_
 refine V.seq fun K5 k6 => ?_
 refine V.pl [([0,1,2,3,4,6,7,8,9,10,11,12,13],some (5,[11])),([14,15,16],none)] fun w7 hF8 hsw7 => ?_
 have hF_9 := hF.new hF8
 have hB_10 := hB.fr0 hF8
 refine V.pe h4 [(3, .b hB_10 0), (6, .b hB_10 2), (1, .q (.int .u64 ((n1 : Nat) : Int)) (V.w_u64 (by omega) (by omega)))] 7 19 [(10, .int .u64 (seed : Int)), (11, .string k), (17, .pointer (some ⟨t, 2, none⟩)), (20, .int .u64 ((n1 : Nat) : Int))] fun a h11 => ?_
 refine V.cl h11 (Go.Proofs.enters_of Try.func11 (by kernel_rfl) rfl) (hash_any w7 seed k (by omega) (by omega)) ?_
 rintro _ w13 ⟨rfl, hF12⟩
 refine ⟨_, rfl, fun a h14 => ?_⟩
 have hsw13 := hF12.size
 have hF_15 := hF_9.new hF12
 have hB_16 := hB_10.fr0 hF12
 have hhl12 := hashN_lt (seed := seed) (by omega) k
 refine V.eh (fun _ => held_blk (n := 1) (hx := (h11.e (v := (.pointer (some ⟨t, 2, none⟩))))) hB_10 hB_16 (by kernel_rfl) rfl (by simp only [List.length]; omega)) ?_
 refine V.pz h14 [(0, .remN .u64 (hashN seed k) n1), (0, .q (.int .i64 ((bkt seed n1 k : Nat) : Int)) (V.w_i64 (by omega) (by omega)))] 21 22 [(6, .int .i64 ((bkt seed n1 k : Nat) : Int))] fun a h17 => k6 _ _ ?_
 refine V.ret ?_
 refine V.r1 h17 (.int .i64 ((bkt seed n1 k : Nat) : Int)) ?_
 exact ⟨rfl, hF_15⟩
set_option maxHeartbeats 4000000 in
set_option maxRecDepth 20000 in
theorem find1_any (w : World) (kb : Nat) (x : ByteArray) (v : Int) (k : ByteArray) (hB : Blk w kb [.string k] 9) : Calls Try.prog 75 #[.agg #[.string x, .int .i64 v], .pointer (some ⟨kb, 0, none⟩)] w (fun e w' => e = .returned (.bool (decide (x = k))) ∧ Fr [] w w') := by
 have hF := Fr.refl [] w
 refine V.en 8 Try.func75 fun a h1 => ?_
 refine V.sg fun K2 k3 => ?_
 refine V.go (V.mk [(0, .agg #[.string x, .int .i64 v])] ⟨h1.e, trivial⟩ (by kernel_rfl) [.string x, .int .i64 v] 86 (fun b => .pointer (some ⟨b, 0, none⟩)) (by kernel_rfl) ?_)
 intro w5 b4 heb4 hB6 hF7 hsb4
 have hF_8 := hF.new hF7
 have hB_9 := hB.fr0 hF7
 refine V.pt h1 fun a h10 => ?_
 refine V.re h10 [] 3 3 [] fun a h11 => k3 _ _ ?_
 refine V.sr h11 [(1, .b hB6 0), (0, .b hB_9 0), (0, .seq x k)] 4 7 [(3, .bool (decide (x = k)))] fun a h14 => ?_
 refine V.ret ?_
 refine V.r1 h14 (.bool (decide (x = k))) ?_
 exact ⟨congrArg Ending.returned (congrArg Value.bool rfl), hF_8⟩
set_option maxHeartbeats 4000000 in
set_option maxRecDepth 20000 in
theorem ixf_any (w : World) (Z : Nat → Prop) (A0 : Option Addr) (c0 kb : Nat) (l : List (ByteArray × Int)) (k : ByteArray) (hS : SlR itI Z w (.slice A0 l.length c0) l) (hB : Blk w kb [.string k] 9) : Calls Try.prog 74 #[.slice A0 l.length c0, .func (.func 75) #[] #[.pointer (some ⟨kb, 0, none⟩)]] w (fun e w' => e = .returned (.int .i64 (ixI l k)) ∧ Fr [] w w') := by
 have hF := Fr.refl [] w
 have hlen0 := hS.len_le
 refine V.en 19 Try.func74 fun a h1 => ?_
 refine V.sr h1 [] 4 4 [] fun a h4 => ?_
 refine V.seq fun K5 k6 => ?_
 refine V.sr h4 [] 6 6 [(7, .int .i64 ((l.length : Nat) : Int)), (8, .int .i64 0)] fun a h9 => ?_
 refine V.block ?_
 refine V.loop1 (fun (i : Nat) a_ w_ => En 19 [] a_ [(0, .slice A0 l.length c0), (1, .func (.func 75) #[] #[.pointer (some ⟨kb, 0, none⟩)]), (7, .int .i64 ((l.length : Nat) : Int)), (8, .int .i64 (i : Int))] ∧ Fr [] w w_ ∧ SlR itI Z w_ (.slice A0 l.length c0) l ∧ Blk w_ kb [.string k] 9 ∧ (i ≤ l.length) ∧ (∀ (j : Nat) (x : ByteArray × Int), j < i → l[j]? = some x → x.1 ≠ k)) (fun (i : Nat) => l.length - i) 0 ?_ ?_
 ·
  refine ⟨(h9.eq 8 (v := (.int .i64 0)) (u := (.int .i64 (0 : Int))) (V.int_eq (by omega))).only _, hF, hS, hB, (by omega), (fun j x hj => by omega)⟩
 ·
  rintro i a10 w11 ⟨h12, hF_13, hS_14, hB_15, hi, hmiss⟩
  have hfs16 := hF_13.size
  have hlt17 := hB_15.lt
  refine V.sr h12 [] 1 0 [(9, .bool (decide ((i : Int) < ((l.length : Nat) : Int))))] fun a h20 => ?_
  refine V.seq fun K21 k22 => ?_
  refine V.cp h20 ((i : Int) < ((l.length : Nat) : Int)) (fun ht23 => ?_) (fun ht23 => ?_)
  ·
   refine V.skip ?_
   refine V.then_n (k22 _ _ ?_)
   refine V.seq fun K24 k25 => ?_
   refine V.block ?_
   refine V.sr h20 [] 10 10 [(5, .int .i64 (i : Int))] fun a h28 => ?_
   obtain ⟨g31, o32, hA33, hA33l, hA33z⟩ := hS_14.addr (by omega)
   obtain ⟨cs34, hok35, hE36⟩ := hS_14.els hA33 (i : Int) (by omega) (by omega)
   refine V.sg fun K29 k30 => ?_
   refine V.run h28 [(3, .ix g31 o32 l.length c0 .i64 (i : Int) 2 hA33)] 4 12 13 [(11, .func (.func 75) #[] #[.pointer (some ⟨kb, 0, none⟩)]), (14, .pointer (some ⟨g31, o32 + (i : Int).toNat * 2, none⟩))] fun a h37 => ?_
   obtain rfl : cs34 = [.string (at_ itI l (i : Int)).1, .int .i64 (at_ itI l (i : Int)).2] := hok35
   refine V.run h37 [(0, .ls ⟨g31, o32 + (i : Int).toNat * 2, none⟩ [.string ((at_ itI l (i : Int)).1), .int .i64 ((at_ itI l (i : Int)).2)] (hE36.cells 0 _ rfl))] 1 1 0 [(15, .agg #[.string ((at_ itI l (i : Int)).1), .int .i64 ((at_ itI l (i : Int)).2)])] fun a h38 => ?_
   refine V.cl h38 (Go.Proofs.enters_of Try.func75 (by kernel_rfl) rfl) (find1_any w11 kb ((at_ itI l (i : Int)).1) ((at_ itI l (i : Int)).2) k hB_15) ?_
   rintro _ w40 ⟨rfl, hF39⟩
   refine ⟨_, rfl, fun a h41 => ?_⟩
   have hsw40 := hF39.size
   have hF_42 := hF_13.new hF39
   have hS_43 := hS_14.fr0 hF39
   have hB_44 := hB_15.fr0 hF39
   have hE36_45 := hE36.fr0 hF39
   refine V.nt (k30 _ _ ?_)
   refine V.cp h41 (((at_ itI l (i : Int)).1) = k) (fun ht46 => ?_) (fun ht46 => ?_)
   ·
    refine V.sr h41 [] 17 17 [(4, .int .i64 (i : Int))] fun a h49 => ?_
    refine V.ret ?_
    refine V.blk_r ?_
    refine V.then_r ?_
    refine V.then_r ?_
    refine V.blk_r ?_
    refine V.then_r ?_
    refine V.r1 h49 (.int .i64 (i : Int)) ?_
    exact ⟨congrArg Ending.returned (int_eq (hit_end itI hmiss (by omega) ht46).symm), hF_42⟩
   ·
    refine V.skip ?_
    refine V.blk_n ?_
    refine V.then_n (k25 _ _ ?_)
    refine V.rr h41 [(0, .i ((i : Int) + 1))] 18 18 [(8, .int .i64 ((i : Int) + 1))] fun a h50 => ?_
    refine V.then_n ?_
    refine ⟨i + 1, by omega, ?_⟩
    refine ⟨(h50.eq 8 (v := (.int .i64 ((i : Int) + 1))) (u := (.int .i64 ((i + 1) : Int))) (V.int_eq (by omega))).only _, hF_42, hS_43, hB_44, (by omega), (miss_step itI hmiss (by omega) ht46)⟩
  ·
   refine V.exit ?_
   refine V.then_e ?_
   refine V.then_e ?_
   refine V.blk_hit ?_
   refine V.then_n (k6 _ _ ?_)
   refine V.sr h20 [] 1 0 [(4, .int .i64 (-1))] fun a h53 => ?_
   refine V.ret ?_
   refine V.r1 h53 (.int .i64 (-1)) ?_
   exact ⟨congrArg Ending.returned (int_eq (miss_end hmiss (by omega)).symm), hF_13⟩
set_option maxHeartbeats 4000000 in
set_option maxRecDepth 20000 in
theorem find_N (w : World) (H : Nat → Prop) (av : List Nat) (t gA : Nat) (vsA : List Value) (T : Tb Int) (hok : T.Ok) (hT : TabN 67 87 86 itI w H av t gA vsA T) (k : ByteArray) (hk : k.size ≤ 9223372036854775807) (hb : T.b.length = 0) : Calls Try.prog 53 #[.pointer (some ⟨t, 0, none⟩), .string k] w (fun e w' => e = .returned (.tuple #[.agg #[.int .i64 (findT T k).1.1, .int .i64 (findT T k).1.2.1, .int .i64 (findT T k).1.2.2], .bool (findT T k).2]) ∧ Fr [] w w') := by
 have hF := Fr.refl [] w
 obtain ⟨hsd, hpa, hla, hlb, hmv, hmz, hnn, hcn, hks⟩ := hok
 obtain ⟨hB, hRA, hlA, hK, hne, hpt, hpg⟩ := hT
 have hltt := hB.lt
 have hltg := hRA.lt
 refine V.en 42 Try.func53 fun a h1 => ?_
 refine V.sg fun K2 k3 => ?_
 refine V.go (V.mk [(1, .string k)] ⟨h1.e, trivial⟩ (by kernel_rfl) [.string k] 9 (fun b => .pointer (some ⟨b, 0, none⟩)) (by kernel_rfl) ?_)
 intro w5 b4 heb4 hB6 hF7 hsb4
 have hF_8 := hF.new hF7
 have hB_9 := hB.fr0 hF7
 have hRA_10 := hRA.fr0 hF7
 have hK_11 := hK.alloc hF7 heb4 (by omega)
 refine V.pt h1 fun a h12 => ?_
 refine V.go (V.mk [] trivial (by kernel_rfl) [.int .i64 0, .int .i64 0, .int .i64 0] 82 (fun b => .pointer (some ⟨b, 0, none⟩)) (by kernel_rfl) ?_)
 intro w14 b13 heb13 hB15 hF16 hsb13
 have hF_17 := hF_8.new hF16
 have hB_18 := hB_9.fr0 hF16
 have hRA_19 := hRA_10.fr0 hF16
 have hK_20 := hK_11.alloc hF16 heb13 (by omega)
 have hB6_21 := hB6.fr0 hF16
 refine V.pt h12 fun a h22 => ?_
 refine V.re h22 [] 5 5 [] fun a h23 => k3 _ _ ?_
 refine V.seq fun K24 k25 => ?_
 refine V.sr h23 [] 1 0 [(9, .int .i64 0)] fun a h28 => ?_
 refine V.block ?_
 refine V.loopR 3 ?_
 refine V.rnd ?_
 refine V.sr h28 [] 1 0 [(10, .bool true)] fun a h31 => ?_
 refine V.seq fun K32 k33 => ?_
 refine V.ct h31 ?_
 refine V.skip ?_
 refine V.then_n (k33 _ _ ?_)
 refine V.seq fun K34 k35 => ?_
 refine V.block ?_
 refine V.sr h31 [] 11 11 [(6, .int .i64 0)] fun a h38 => ?_
 refine V.seq fun K39 k40 => ?_
 refine V.sr h38 [(5, .b hB_18 1)] 12 17 [(18, .bool false)] fun a h43 => ?_
 refine V.cf h43 ?_
 refine V.skip ?_
 refine V.then_n (k40 _ _ ?_)
 refine V.sg fun K44 k45 => ?_
 refine V.run h43 [(2, .b hB6_21 0)] 3 1 0 [(19, .pointer (some ⟨t, 0, none⟩)), (20, .int .i64 0), (21, .string k)] fun a h46 => ?_
 refine V.cl h46 (Go.Proofs.enters_of Try.func66 (by kernel_rfl) rfl) (bucket_N0 w14 t T.seed T.a.length 0 0 gA 0 (.int .i64 (T.moved : Int)) (.int .i64 (T.n : Int)) hB_18 k (by omega) (by omega) (by omega) (by omega)) ?_
 rintro _ w48 ⟨rfl, hF47⟩
 refine ⟨_, rfl, fun a h49 => ?_⟩
 have hsw48 := hF47.size
 have hF_50 := hF_17.new hF47
 have hB_51 := hB_18.fr0 hF47
 have hRA_52 := hRA_19.fr0 hF47
 have hK_53 := hK_20.fr0 hF47
 have hB6_54 := hB6_21.fr0 hF47
 have hB15_55 := hB15.fr0 hF47
 have hbl47 := bkt_lt T.seed k (n := T.a.length) (by omega)
 refine V.re h49 [] 1 0 [(7, .int .i64 ((bkt T.seed T.a.length k : Nat) : Int))] fun a h56 => k45 _ _ ?_
 obtain ⟨A59, c60, hv61⟩ := hK_53.getA hlA (i := (bkt T.seed T.a.length k)) (by omega) nilS
 have hS62 := hK_53.slA hlA (i := (bkt T.seed T.a.length k)) (by omega) hv61
 refine V.sg fun K57 k58 => ?_
 refine V.run h56 [(5, .b hB_51 1), (1, .ix gA 0 T.a.length T.a.length .i64 ((bkt T.seed T.a.length k : Nat) : Int) 1 rfl), (0, .l ⟨gA, 0 + ((bkt T.seed T.a.length k : Nat) : Int).toNat * 1, none⟩ (.slice A59 ((T.a.getD (bkt T.seed T.a.length k) []).length) c60) ((hRA_52.at (bkt T.seed T.a.length k) nilS (by omega)).trans (congrArg some hv61)))] 10 23 30 [(31, .slice A59 ((T.a.getD (bkt T.seed T.a.length k) []).length) c60), (32, .func (.func 75) #[] #[.pointer (some ⟨b4, 0, none⟩)])] fun a h63 => ?_
 refine V.cl h63 (Go.Proofs.enters_of Try.func74 (by kernel_rfl) rfl) (ixf_any w48 _ A59 c60 b4 (T.a.getD (bkt T.seed T.a.length k) []) k hS62 hB6_54) ?_
 rintro _ w65 ⟨rfl, hF64⟩
 refine ⟨_, rfl, fun a h66 => ?_⟩
 have hsw65 := hF64.size
 have hF_67 := hF_50.new hF64
 have hB_68 := hB_51.fr0 hF64
 have hRA_69 := hRA_52.fr0 hF64
 have hK_70 := hK_53.fr0 hF64
 have hB6_71 := hB6_54.fr0 hF64
 have hB15_72 := hB15_55.fr0 hF64
 have hS62_73 := hS62.fr0 hF64
 have hix64 := ixI_lt (T.a.getD (bkt T.seed T.a.length k) []) k
 refine V.re h66 [] 1 0 [(8, .int .i64 (ixI (T.a.getD (bkt T.seed T.a.length k) []) k))] fun a h74 => k58 _ _ ?_
 refine V.sr h74 [] 34 34 [(35, .bool (decide ((ixI (T.a.getD (bkt T.seed T.a.length k) []) k) ≥ 0)))] fun a h77 => ?_
 refine V.cp h77 ((ixI (T.a.getD (bkt T.seed T.a.length k) []) k) ≥ 0) (fun ht78 => ?_) (fun ht78 => ?_)
 ·
  refine V.sg fun K79 k80 => ?_
  refine V.run h77 [] 4 36 38 [(39, .agg #[.int .i64 0, .int .i64 ((bkt T.seed T.a.length k : Nat) : Int), .int .i64 (ixI (T.a.getD (bkt T.seed T.a.length k) []) k)])] fun a h84 => ?_
  refine V.go (V.stn b13 0 (.agg #[.int .i64 0, .int .i64 ((bkt T.seed T.a.length k : Nat) : Int), .int .i64 (ixI (T.a.getD (bkt T.seed T.a.length k) []) k)]) [.int .i64 0, .int .i64 ((bkt T.seed T.a.length k : Nat) : Int), .int .i64 (ixI (T.a.getD (bkt T.seed T.a.length k) []) k)] h84.e h84.e rfl rfl (by kernel_rfl) hB15_72 (by simp) [.int .i64 0, .int .i64 ((bkt T.seed T.a.length k : Nat) : Int), .int .i64 (ixI (T.a.getD (bkt T.seed T.a.length k) []) k)] rfl ?_)
  intro w81 hB82 hF83 hsw81
  have hF_85 := hF_67.own hF83 (by simp <;> omega)
  have hB_86 := hB_68.fr1 hF83 (by omega)
  have hRA_87 := hRA_69.fr1 hF83 (by omega)
  have hK_88 := hK_70.fr hF83 (by simp)
  have hB6_89 := hB6_71.fr1 hF83 (by omega)
  refine V.re h84 [] 1 0 [(5, .bool true)] fun a h90 => k80 _ _ ?_
  refine V.ret ?_
  refine V.blk_r ?_
  refine V.then_r ?_
  refine V.then_r ?_
  refine V.blk_r ?_
  refine V.then_r ?_
  refine V.retCT h90.sd rfl _ (h90.e (v := (.pointer (some ⟨b13, 0, none⟩)))) (V.run_loadVar_agg (cs := [.int .i64 0, .int .i64 ((bkt T.seed T.a.length k : Nat) : Int), .int .i64 (ixI (T.a.getD (bkt T.seed T.a.length k) []) k)]) (by kernel_rfl) (blk_cells hB82 0 _ rfl)) (h90.e (v := (.bool true))) ?_
  refine ⟨?_, hF_85⟩
  unfold findT
  rw [if_pos (by omega)]
 ·
  refine V.skip ?_
  refine V.blk_n ?_
  refine V.then_n (k35 _ _ ?_)
  refine V.rr h77 [] 40 40 [(9, .int .i64 1)] fun a h91 => ?_
  refine V.then_n ?_
  refine V.rnd ?_
  have h92 := h91.only [(0, .pointer (some ⟨t, 0, none⟩)), (3, .pointer (some ⟨b4, 0, none⟩)), (4, .pointer (some ⟨b13, 0, none⟩)), (9, .int .i64 1)]
  refine V.sr h92 [] 1 0 [(10, .bool true)] fun a h95 => ?_
  refine V.seq fun K96 k97 => ?_
  refine V.ct h95 ?_
  refine V.skip ?_
  refine V.then_n (k97 _ _ ?_)
  refine V.seq fun K98 k99 => ?_
  refine V.block ?_
  refine V.sr h95 [] 11 11 [(6, .int .i64 1)] fun a h102 => ?_
  refine V.seq fun K103 k104 => ?_
  refine V.sr h102 [(5, .b hB_68 2)] 12 17 [(18, .bool true)] fun a h107 => ?_
  refine V.ct h107 ?_
  refine V.exit ?_
  refine V.then_e ?_
  refine V.blk_hit ?_
  refine V.then_n (k99 _ _ ?_)
  refine V.rr h107 [] 40 40 [(9, .int .i64 2)] fun a h108 => ?_
  refine V.then_n ?_
  refine V.rnd ?_
  refine V.sr h108 [] 1 0 [(10, .bool false)] fun a h111 => ?_
  refine V.seq fun K112 k113 => ?_
  refine V.cf h111 ?_
  refine V.exit ?_
  refine V.then_e ?_
  refine V.then_e ?_
  refine V.blk_hit ?_
  refine V.then_n (k25 _ _ ?_)
  refine V.sg fun K114 k115 => ?_
  refine V.run h111 [] 1 1 0 [(41, .agg #[.int .i64 0, .int .i64 0, .int .i64 0])] fun a h119 => ?_
  refine V.go (V.stn b13 0 (.agg #[.int .i64 0, .int .i64 0, .int .i64 0]) [.int .i64 0, .int .i64 0, .int .i64 0] h119.e h119.e rfl rfl (by kernel_rfl) hB15_72 (by simp) [.int .i64 0, .int .i64 0, .int .i64 0] rfl ?_)
  intro w116 hB117 hF118 hsw116
  have hF_120 := hF_67.own hF118 (by simp <;> omega)
  have hB_121 := hB_68.fr1 hF118 (by omega)
  have hRA_122 := hRA_69.fr1 hF118 (by omega)
  have hK_123 := hK_70.fr hF118 (by simp)
  have hB6_124 := hB6_71.fr1 hF118 (by omega)
  refine V.re h119 [] 1 0 [(5, .bool false)] fun a h125 => k115 _ _ ?_
  refine V.ret ?_
  refine V.retCT h125.sd rfl _ (h125.e (v := (.pointer (some ⟨b13, 0, none⟩)))) (V.run_loadVar_agg (cs := [.int .i64 0, .int .i64 0, .int .i64 0]) (by kernel_rfl) (blk_cells hB117 0 _ rfl)) (h125.e (v := (.bool false))) ?_
  refine ⟨?_, hF_120⟩
  unfold findT
  rw [if_neg (by omega), if_neg (by omega)]
set_option maxHeartbeats 4000000 in
set_option maxRecDepth 20000 in
theorem find_M (w : World) (H : Nat → Prop) (av : List Nat) (t gA gB : Nat) (vsA vsB : List Value) (T : Tb Int) (hok : T.Ok) (hT : TabM 67 87 86 itI w H av t gA gB vsA vsB T) (k : ByteArray) (hk : k.size ≤ 9223372036854775807) (hb : T.b.length ≠ 0) : Calls Try.prog 53 #[.pointer (some ⟨t, 0, none⟩), .string k] w (fun e w' => e = .returned (.tuple #[.agg #[.int .i64 (findT T k).1.1, .int .i64 (findT T k).1.2.1, .int .i64 (findT T k).1.2.2], .bool (findT T k).2]) ∧ Fr [] w w') := by
 have hF := Fr.refl [] w
 obtain ⟨hsd, hpa, hla, hlb, hmv, hmz, hnn, hcn, hks⟩ := hok
 obtain ⟨hB, hRA, hRB, hlA, hlB, hK, hne, hne2, hne3, hpt, hpg, hph⟩ := hT
 have hltg2 := hRB.lt
 have hltt := hB.lt
 have hltg := hRA.lt
 refine V.en 42 Try.func53 fun a h1 => ?_
 refine V.sg fun K2 k3 => ?_
 refine V.go (V.mk [(1, .string k)] ⟨h1.e, trivial⟩ (by kernel_rfl) [.string k] 9 (fun b => .pointer (some ⟨b, 0, none⟩)) (by kernel_rfl) ?_)
 intro w5 b4 heb4 hB6 hF7 hsb4
 have hF_8 := hF.new hF7
 have hB_9 := hB.fr0 hF7
 have hRA_10 := hRA.fr0 hF7
 have hRB_11 := hRB.fr0 hF7
 have hK_12 := hK.alloc hF7 heb4 (by omega)
 refine V.pt h1 fun a h13 => ?_
 refine V.go (V.mk [] trivial (by kernel_rfl) [.int .i64 0, .int .i64 0, .int .i64 0] 82 (fun b => .pointer (some ⟨b, 0, none⟩)) (by kernel_rfl) ?_)
 intro w15 b14 heb14 hB16 hF17 hsb14
 have hF_18 := hF_8.new hF17
 have hB_19 := hB_9.fr0 hF17
 have hRA_20 := hRA_10.fr0 hF17
 have hRB_21 := hRB_11.fr0 hF17
 have hK_22 := hK_12.alloc hF17 heb14 (by omega)
 have hB6_23 := hB6.fr0 hF17
 refine V.pt h13 fun a h24 => ?_
 refine V.re h24 [] 5 5 [] fun a h25 => k3 _ _ ?_
 refine V.seq fun K26 k27 => ?_
 refine V.sr h25 [] 1 0 [(9, .int .i64 0)] fun a h30 => ?_
 refine V.block ?_
 refine V.loopR 3 ?_
 refine V.rnd ?_
 refine V.sr h30 [] 1 0 [(10, .bool true)] fun a h33 => ?_
 refine V.seq fun K34 k35 => ?_
 refine V.ct h33 ?_
 refine V.skip ?_
 refine V.then_n (k35 _ _ ?_)
 refine V.seq fun K36 k37 => ?_
 refine V.block ?_
 refine V.sr h33 [] 11 11 [(6, .int .i64 0)] fun a h40 => ?_
 refine V.seq fun K41 k42 => ?_
 refine V.sr h40 [(5, .b hB_19 1)] 12 17 [(18, .bool false)] fun a h45 => ?_
 refine V.cf h45 ?_
 refine V.skip ?_
 refine V.then_n (k42 _ _ ?_)
 refine V.sg fun K46 k47 => ?_
 refine V.run h45 [(2, .b hB6_23 0)] 3 1 0 [(19, .pointer (some ⟨t, 0, none⟩)), (20, .int .i64 0), (21, .string k)] fun a h48 => ?_
 refine V.cl h48 (Go.Proofs.enters_of Try.func66 (by kernel_rfl) rfl) (bucket_M0 w15 t T.seed T.a.length T.b.length 0 gA gB (.int .i64 (T.moved : Int)) (.int .i64 (T.n : Int)) hB_19 k (by omega) (by omega) (by omega) (by omega)) ?_
 rintro _ w50 ⟨rfl, hF49⟩
 refine ⟨_, rfl, fun a h51 => ?_⟩
 have hsw50 := hF49.size
 have hF_52 := hF_18.new hF49
 have hB_53 := hB_19.fr0 hF49
 have hRA_54 := hRA_20.fr0 hF49
 have hRB_55 := hRB_21.fr0 hF49
 have hK_56 := hK_22.fr0 hF49
 have hB6_57 := hB6_23.fr0 hF49
 have hB16_58 := hB16.fr0 hF49
 have hbl49 := bkt_lt T.seed k (n := T.a.length) (by omega)
 refine V.re h51 [] 1 0 [(7, .int .i64 ((bkt T.seed T.a.length k : Nat) : Int))] fun a h59 => k47 _ _ ?_
 obtain ⟨A62, c63, hv64⟩ := hK_56.getA hlA (i := (bkt T.seed T.a.length k)) (by omega) nilS
 have hS65 := hK_56.slA hlA (i := (bkt T.seed T.a.length k)) (by omega) hv64
 refine V.sg fun K60 k61 => ?_
 refine V.run h59 [(5, .b hB_53 1), (1, .ix gA 0 T.a.length T.a.length .i64 ((bkt T.seed T.a.length k : Nat) : Int) 1 rfl), (0, .l ⟨gA, 0 + ((bkt T.seed T.a.length k : Nat) : Int).toNat * 1, none⟩ (.slice A62 ((T.a.getD (bkt T.seed T.a.length k) []).length) c63) ((hRA_54.at (bkt T.seed T.a.length k) nilS (by omega)).trans (congrArg some hv64)))] 10 23 30 [(31, .slice A62 ((T.a.getD (bkt T.seed T.a.length k) []).length) c63), (32, .func (.func 75) #[] #[.pointer (some ⟨b4, 0, none⟩)])] fun a h66 => ?_
 refine V.cl h66 (Go.Proofs.enters_of Try.func74 (by kernel_rfl) rfl) (ixf_any w50 _ A62 c63 b4 (T.a.getD (bkt T.seed T.a.length k) []) k hS65 hB6_57) ?_
 rintro _ w68 ⟨rfl, hF67⟩
 refine ⟨_, rfl, fun a h69 => ?_⟩
 have hsw68 := hF67.size
 have hF_70 := hF_52.new hF67
 have hB_71 := hB_53.fr0 hF67
 have hRA_72 := hRA_54.fr0 hF67
 have hRB_73 := hRB_55.fr0 hF67
 have hK_74 := hK_56.fr0 hF67
 have hB6_75 := hB6_57.fr0 hF67
 have hB16_76 := hB16_58.fr0 hF67
 have hS65_77 := hS65.fr0 hF67
 have hix67 := ixI_lt (T.a.getD (bkt T.seed T.a.length k) []) k
 refine V.re h69 [] 1 0 [(8, .int .i64 (ixI (T.a.getD (bkt T.seed T.a.length k) []) k))] fun a h78 => k61 _ _ ?_
 refine V.sr h78 [] 34 34 [(35, .bool (decide ((ixI (T.a.getD (bkt T.seed T.a.length k) []) k) ≥ 0)))] fun a h81 => ?_
 refine V.cp h81 ((ixI (T.a.getD (bkt T.seed T.a.length k) []) k) ≥ 0) (fun ht82 => ?_) (fun ht82 => ?_)
 ·
  refine V.sg fun K83 k84 => ?_
  refine V.run h81 [] 4 36 38 [(39, .agg #[.int .i64 0, .int .i64 ((bkt T.seed T.a.length k : Nat) : Int), .int .i64 (ixI (T.a.getD (bkt T.seed T.a.length k) []) k)])] fun a h88 => ?_
  refine V.go (V.stn b14 0 (.agg #[.int .i64 0, .int .i64 ((bkt T.seed T.a.length k : Nat) : Int), .int .i64 (ixI (T.a.getD (bkt T.seed T.a.length k) []) k)]) [.int .i64 0, .int .i64 ((bkt T.seed T.a.length k : Nat) : Int), .int .i64 (ixI (T.a.getD (bkt T.seed T.a.length k) []) k)] h88.e h88.e rfl rfl (by kernel_rfl) hB16_76 (by simp) [.int .i64 0, .int .i64 ((bkt T.seed T.a.length k : Nat) : Int), .int .i64 (ixI (T.a.getD (bkt T.seed T.a.length k) []) k)] rfl ?_)
  intro w85 hB86 hF87 hsw85
  have hF_89 := hF_70.own hF87 (by simp <;> omega)
  have hB_90 := hB_71.fr1 hF87 (by omega)
  have hRA_91 := hRA_72.fr1 hF87 (by omega)
  have hRB_92 := hRB_73.fr1 hF87 (by omega)
  have hK_93 := hK_74.fr hF87 (by simp)
  have hB6_94 := hB6_75.fr1 hF87 (by omega)
  refine V.re h88 [] 1 0 [(5, .bool true)] fun a h95 => k84 _ _ ?_
  refine V.ret ?_
  refine V.blk_r ?_
  refine V.then_r ?_
  refine V.then_r ?_
  refine V.blk_r ?_
  refine V.then_r ?_
  refine V.retCT h95.sd rfl _ (h95.e (v := (.pointer (some ⟨b14, 0, none⟩)))) (V.run_loadVar_agg (cs := [.int .i64 0, .int .i64 ((bkt T.seed T.a.length k : Nat) : Int), .int .i64 (ixI (T.a.getD (bkt T.seed T.a.length k) []) k)]) (by kernel_rfl) (blk_cells hB86 0 _ rfl)) (h95.e (v := (.bool true))) ?_
  refine ⟨?_, hF_89⟩
  unfold findT
  rw [if_pos (by omega)]
 ·
  refine V.skip ?_
  refine V.blk_n ?_
  refine V.then_n (k37 _ _ ?_)
  refine V.rr h81 [] 40 40 [(9, .int .i64 1)] fun a h96 => ?_
  refine V.then_n ?_
  refine V.rnd ?_
  have h97 := h96.only [(0, .pointer (some ⟨t, 0, none⟩)), (3, .pointer (some ⟨b4, 0, none⟩)), (4, .pointer (some ⟨b14, 0, none⟩)), (9, .int .i64 1)]
  refine V.sr h97 [] 1 0 [(10, .bool true)] fun a h100 => ?_
  refine V.seq fun K101 k102 => ?_
  refine V.ct h100 ?_
  refine V.skip ?_
  refine V.then_n (k102 _ _ ?_)
  refine V.seq fun K103 k104 => ?_
  refine V.block ?_
  refine V.sr h100 [] 11 11 [(6, .int .i64 1)] fun a h107 => ?_
  refine V.seq fun K108 k109 => ?_
  refine V.sr h107 [(5, .b hB_71 2)] 12 17 [(18, .bool false)] fun a h112 => ?_
  refine V.cf h112 ?_
  refine V.skip ?_
  refine V.then_n (k109 _ _ ?_)
  refine V.sg fun K113 k114 => ?_
  refine V.run h112 [(2, .b hB6_75 0)] 3 1 0 [(19, .pointer (some ⟨t, 0, none⟩)), (20, .int .i64 1), (21, .string k)] fun a h115 => ?_
  refine V.cl h115 (Go.Proofs.enters_of Try.func66 (by kernel_rfl) rfl) (bucket_M1 w68 t T.seed T.a.length T.b.length 0 gA gB (.int .i64 (T.moved : Int)) (.int .i64 (T.n : Int)) hB_71 k (by omega) (by omega) (by omega) (by omega)) ?_
  rintro _ w117 ⟨rfl, hF116⟩
  refine ⟨_, rfl, fun a h118 => ?_⟩
  have hsw117 := hF116.size
  have hF_119 := hF_70.new hF116
  have hB_120 := hB_71.fr0 hF116
  have hRA_121 := hRA_72.fr0 hF116
  have hRB_122 := hRB_73.fr0 hF116
  have hK_123 := hK_74.fr0 hF116
  have hB6_124 := hB6_75.fr0 hF116
  have hB16_125 := hB16_76.fr0 hF116
  have hS65_126 := hS65_77.fr0 hF116
  have hbl116 := bkt_lt T.seed k (n := T.b.length) (by omega)
  refine V.re h118 [] 1 0 [(7, .int .i64 ((bkt T.seed T.b.length k : Nat) : Int))] fun a h127 => k114 _ _ ?_
  obtain ⟨A130, c131, hv132⟩ := hK_123.getB hlA (i := (bkt T.seed T.b.length k)) (by omega) nilS
  have hS133 := hK_123.slB hlA (i := (bkt T.seed T.b.length k)) (by omega) hv132
  refine V.sg fun K128 k129 => ?_
  refine V.run h127 [(5, .b hB_120 2), (1, .ix gB 0 T.b.length T.b.length .i64 ((bkt T.seed T.b.length k : Nat) : Int) 1 rfl), (0, .l ⟨gB, 0 + ((bkt T.seed T.b.length k : Nat) : Int).toNat * 1, none⟩ (.slice A130 ((T.b.getD (bkt T.seed T.b.length k) []).length) c131) ((hRB_122.at (bkt T.seed T.b.length k) nilS (by omega)).trans (congrArg some hv132)))] 10 23 30 [(31, .slice A130 ((T.b.getD (bkt T.seed T.b.length k) []).length) c131), (32, .func (.func 75) #[] #[.pointer (some ⟨b4, 0, none⟩)])] fun a h134 => ?_
  refine V.cl h134 (Go.Proofs.enters_of Try.func74 (by kernel_rfl) rfl) (ixf_any w117 _ A130 c131 b4 (T.b.getD (bkt T.seed T.b.length k) []) k hS133 hB6_124) ?_
  rintro _ w136 ⟨rfl, hF135⟩
  refine ⟨_, rfl, fun a h137 => ?_⟩
  have hsw136 := hF135.size
  have hF_138 := hF_119.new hF135
  have hB_139 := hB_120.fr0 hF135
  have hRA_140 := hRA_121.fr0 hF135
  have hRB_141 := hRB_122.fr0 hF135
  have hK_142 := hK_123.fr0 hF135
  have hB6_143 := hB6_124.fr0 hF135
  have hB16_144 := hB16_125.fr0 hF135
  have hS65_145 := hS65_126.fr0 hF135
  have hS133_146 := hS133.fr0 hF135
  have hix135 := ixI_lt (T.b.getD (bkt T.seed T.b.length k) []) k
  refine V.re h137 [] 1 0 [(8, .int .i64 (ixI (T.b.getD (bkt T.seed T.b.length k) []) k))] fun a h147 => k129 _ _ ?_
  refine V.sr h147 [] 34 34 [(35, .bool (decide ((ixI (T.b.getD (bkt T.seed T.b.length k) []) k) ≥ 0)))] fun a h150 => ?_
  refine V.cp h150 ((ixI (T.b.getD (bkt T.seed T.b.length k) []) k) ≥ 0) (fun ht151 => ?_) (fun ht151 => ?_)
  ·
   refine V.sg fun K152 k153 => ?_
   refine V.run h150 [] 4 36 38 [(39, .agg #[.int .i64 1, .int .i64 ((bkt T.seed T.b.length k : Nat) : Int), .int .i64 (ixI (T.b.getD (bkt T.seed T.b.length k) []) k)])] fun a h157 => ?_
   refine V.go (V.stn b14 0 (.agg #[.int .i64 1, .int .i64 ((bkt T.seed T.b.length k : Nat) : Int), .int .i64 (ixI (T.b.getD (bkt T.seed T.b.length k) []) k)]) [.int .i64 1, .int .i64 ((bkt T.seed T.b.length k : Nat) : Int), .int .i64 (ixI (T.b.getD (bkt T.seed T.b.length k) []) k)] h157.e h157.e rfl rfl (by kernel_rfl) hB16_144 (by simp) [.int .i64 1, .int .i64 ((bkt T.seed T.b.length k : Nat) : Int), .int .i64 (ixI (T.b.getD (bkt T.seed T.b.length k) []) k)] rfl ?_)
   intro w154 hB155 hF156 hsw154
   have hF_158 := hF_138.own hF156 (by simp <;> omega)
   have hB_159 := hB_139.fr1 hF156 (by omega)
   have hRA_160 := hRA_140.fr1 hF156 (by omega)
   have hRB_161 := hRB_141.fr1 hF156 (by omega)
   have hK_162 := hK_142.fr hF156 (by simp)
   have hB6_163 := hB6_143.fr1 hF156 (by omega)
   refine V.re h157 [] 1 0 [(5, .bool true)] fun a h164 => k153 _ _ ?_
   refine V.ret ?_
   refine V.blk_r ?_
   refine V.then_r ?_
   refine V.then_r ?_
   refine V.blk_r ?_
   refine V.then_r ?_
   refine V.retCT h164.sd rfl _ (h164.e (v := (.pointer (some ⟨b14, 0, none⟩)))) (V.run_loadVar_agg (cs := [.int .i64 1, .int .i64 ((bkt T.seed T.b.length k : Nat) : Int), .int .i64 (ixI (T.b.getD (bkt T.seed T.b.length k) []) k)]) (by kernel_rfl) (blk_cells hB155 0 _ rfl)) (h164.e (v := (.bool true))) ?_
   refine ⟨?_, hF_158⟩
   unfold findT
   rw [if_neg (by omega), if_pos ⟨by omega, by omega⟩]
  ·
   refine V.skip ?_
   refine V.blk_n ?_
   refine V.then_n (k104 _ _ ?_)
   refine V.rr h150 [] 40 40 [(9, .int .i64 2)] fun a h165 => ?_
   refine V.then_n ?_
   refine V.rnd ?_
   have h166 := h165.only [(0, .pointer (some ⟨t, 0, none⟩)), (3, .pointer (some ⟨b4, 0, none⟩)), (4, .pointer (some ⟨b14, 0, none⟩)), (9, .int .i64 2)]
   refine V.sr h166 [] 1 0 [(10, .bool false)] fun a h169 => ?_
   refine V.seq fun K170 k171 => ?_
   refine V.cf h169 ?_
   refine V.exit ?_
   refine V.then_e ?_
   refine V.then_e ?_
   refine V.blk_hit ?_
   refine V.then_n (k27 _ _ ?_)
   refine V.sg fun K172 k173 => ?_
   refine V.run h169 [] 1 1 0 [(41, .agg #[.int .i64 0, .int .i64 0, .int .i64 0])] fun a h177 => ?_
   refine V.go (V.stn b14 0 (.agg #[.int .i64 0, .int .i64 0, .int .i64 0]) [.int .i64 0, .int .i64 0, .int .i64 0] h177.e h177.e rfl rfl (by kernel_rfl) hB16_144 (by simp) [.int .i64 0, .int .i64 0, .int .i64 0] rfl ?_)
   intro w174 hB175 hF176 hsw174
   have hF_178 := hF_138.own hF176 (by simp <;> omega)
   have hB_179 := hB_139.fr1 hF176 (by omega)
   have hRA_180 := hRA_140.fr1 hF176 (by omega)
   have hRB_181 := hRB_141.fr1 hF176 (by omega)
   have hK_182 := hK_142.fr hF176 (by simp)
   have hB6_183 := hB6_143.fr1 hF176 (by omega)
   refine V.re h177 [] 1 0 [(5, .bool false)] fun a h184 => k173 _ _ ?_
   refine V.ret ?_
   refine V.retCT h184.sd rfl _ (h184.e (v := (.pointer (some ⟨b14, 0, none⟩)))) (V.run_loadVar_agg (cs := [.int .i64 0, .int .i64 0, .int .i64 0]) (by kernel_rfl) (blk_cells hB175 0 _ rfl)) (h184.e (v := (.bool false))) ?_
   refine ⟨?_, hF_178⟩
   unfold findT
   rw [if_neg (by omega), if_neg (by omega)]
end Go.Proofs.Ytalhmegjomfbaaa
