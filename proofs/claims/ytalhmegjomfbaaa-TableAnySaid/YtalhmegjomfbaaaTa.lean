/- Walks: hashes, key. -/
import Derived.Test.YtalhmegjomfbaaaProg
import Derived.Test.YtalhmegjomfbaaaTab
import Derived.Test.YtalhmegjomfbaaaRun
namespace Go.Proofs.Ytalhmegjomfbaaa
open Go.V Go.Base
open Go.RowKit (Below)
attribute [local irreducible] Act.put Act.eval
set_option linter.unusedVariables false
set_option linter.unusedSimpArgs false
/-- What the laws look at of a key: at most 100 bytes. -/
def keyS (s : ByteArray) : ByteArray := if s.size > 100 then s.extract 0 100 else s
theorem keyS_le (s : ByteArray) : (keyS s).size ≤ 100 := by
  unfold keyS; split
  · rw [ByteArray.size_extract]; omega
  · omega
set_option maxHeartbeats 4000000 in
set_option maxRecDepth 20000 in
theorem hash_any (w : World) (seed : Nat) (s : ByteArray) (hsd : seed < 18446744073709551616) (hs : s.size ≤ 9223372036854775807) : Calls Try.prog 11 #[.int .u64 (seed : Int), .string s] w (fun e w' => e = .returned (.int .u64 ((hashN seed s : Nat) : Int)) ∧ Fr [] w w') := by
 have hF := Fr.refl [] w
 refine V.en 23 Try.func11 fun a h1 => ?_
 refine V.sr h1 [] 4 4 [] fun a h4 => ?_
 refine V.sr h4 [(1, .q (.int .u64 ((hseed seed : Nat) : Int)) (V.b_xor_u64 14695981039346656037 seed (by omega) hsd))] 7 8 [(5, .int .u64 ((hseed seed : Nat) : Int))] fun a h7 => ?_
 refine V.seq fun K8 k9 => ?_
 refine V.sr h7 [] 9 9 [(10, .int .i64 (s.size : Int)), (11, .int .i64 0)] fun a h12 => ?_
 refine V.block ?_
 refine V.loop2 (fun (k : Nat) (h : Nat) a_ w_ => En 23 [] a_ [(1, .string s), (5, .int .u64 (h : Int)), (10, .int .i64 (s.size : Int)), (11, .int .i64 (k : Int))] ∧ Fr [] w w_ ∧ (k ≤ s.size) ∧ (hashI (hseed seed) ((ints s).take k) = h) ∧ (h < 18446744073709551616)) (fun (k : Nat) (h : Nat) => s.size - k) 0 (hseed seed) ?_ ?_
 ·
  refine ⟨((h12.eq 5 (v := (.int .u64 ((hseed seed : Nat) : Int))) (u := (.int .u64 ((hseed seed) : Int))) (V.int_eq (by omega))).eq 11 (v := (.int .i64 0)) (u := (.int .i64 (0 : Int))) (V.int_eq (by omega))).only _, hF, (by omega), rfl, (hseed_lt hsd)⟩
 ·
  rintro k h a13 w14 ⟨h15, hF_16, hk, hh, hlt⟩
  have hfs17 := hF_16.size
  have hbl : (byt s (k : Int)).toNat < 256 := (byt s (k : Int)).toNat_lt
  refine V.sr h15 [] 1 0 [(12, .bool (decide ((k : Int) < (s.size : Int))))] fun a h20 => ?_
  refine V.seq fun K21 k22 => ?_
  refine V.cp h20 ((k : Int) < (s.size : Int)) (fun ht23 => ?_) (fun ht23 => ?_)
  ·
   refine V.skip ?_
   refine V.then_n (k22 _ _ ?_)
   refine V.seq fun K24 k25 => ?_
   refine V.block ?_
   refine V.sr h20 [] 13 13 [(6, .int .i64 (k : Int))] fun a h28 => ?_
   have hb29 := byt_lt s (k : Int)
   refine V.rr h28 [(3, .ixs s .i64 (k : Int)), (0, .q (.int .u64 (bi s (k : Int))) (V.w_u64 (by omega) (by omega))), (0, .q (.int .u64 ((h ^^^ (byt s (k : Int)).toNat : Nat) : Int)) (V.b_xor_u64 h (byt s (k : Int)).toNat hlt (by omega))), (0, .q (.int .u64 ((hstep h (byt s (k : Int)).toNat : Nat) : Int)) (V.b_mul_u64 (h ^^^ (byt s (k : Int)).toNat) 1099511628211))] 14 20 [(5, .int .u64 ((hstep h (byt s (k : Int)).toNat : Nat) : Int))] fun a h30 => ?_
   refine V.blk_n ?_
   refine V.then_n (k25 _ _ ?_)
   refine V.rr h30 [(0, .i ((k : Int) + 1))] 21 21 [(11, .int .i64 ((k : Int) + 1))] fun a h31 => ?_
   refine V.then_n ?_
   refine ⟨k + 1, hstep h (byt s (k : Int)).toNat, by omega, ?_⟩
   refine ⟨((h31.eq 5 (v := (.int .u64 ((hstep h (byt s (k : Int)).toNat : Nat) : Int))) (u := (.int .u64 ((hstep h (byt s (k : Int)).toNat) : Int))) (V.int_eq (by omega))).eq 11 (v := (.int .i64 ((k : Int) + 1))) (u := (.int .i64 ((k + 1) : Int))) (V.int_eq (by omega))).only _, hF_16, (by omega), (hash_step (by omega) hh), (hstep_lt _ _)⟩
  ·
   refine V.exit ?_
   refine V.then_e ?_
   refine V.then_e ?_
   refine V.blk_hit ?_
   refine V.then_n (k9 _ _ ?_)
   refine V.sr h20 [] 22 22 [(4, .int .u64 (h : Int))] fun a h34 => ?_
   refine V.ret ?_
   refine V.r1 h34 (.int .u64 (h : Int)) ?_
   exact ⟨congrArg Ending.returned (int_eq (by rw [hash_end (by omega) hh]; rfl)), hF_16⟩
set_option maxHeartbeats 4000000 in
set_option maxRecDepth 20000 in
theorem rhash_any (w : World) (seed : Nat) (s : ByteArray) (hsd : seed < 18446744073709551616) (hs : s.size ≤ 9223372036854775807) : Calls Try.prog 12 #[.int .u64 (seed : Int), .string s] w (fun e w' => e = .returned (.int .u64 ((hashN seed s : Nat) : Int)) ∧ Fr [] w w') := by
 have hF := Fr.refl [] w
 refine V.en 24 Try.func12 fun a h1 => ?_
 refine V.sr h1 [] 4 4 [] fun a h4 => ?_
 refine V.sr h4 [(1, .q (.int .u64 ((hseed seed : Nat) : Int)) (V.b_xor_u64 14695981039346656037 seed (by omega) hsd))] 7 8 [(5, .int .u64 ((hseed seed : Nat) : Int))] fun a h7 => ?_
 refine V.seq fun K8 k9 => ?_
 refine V.sr h7 [] 1 0 [(6, .int .i64 0)] fun a h12 => ?_
 refine V.block ?_
 refine V.loop2 (fun (k : Nat) (h : Nat) a_ w_ => En 24 [] a_ [(1, .string s), (5, .int .u64 (h : Int)), (6, .int .i64 (k : Int))] ∧ Fr [] w w_ ∧ (k ≤ s.size) ∧ (hashI (hseed seed) ((ints s).take k) = h) ∧ (h < 18446744073709551616)) (fun (k : Nat) (h : Nat) => s.size - k) 0 (hseed seed) ?_ ?_
 ·
  refine ⟨((h12.eq 5 (v := (.int .u64 ((hseed seed : Nat) : Int))) (u := (.int .u64 ((hseed seed) : Int))) (V.int_eq (by omega))).eq 6 (v := (.int .i64 0)) (u := (.int .i64 (0 : Int))) (V.int_eq (by omega))).only _, hF, (by omega), rfl, (hseed_lt hsd)⟩
 ·
  rintro k h a13 w14 ⟨h15, hF_16, hk, hh, hlt⟩
  have hfs17 := hF_16.size
  have hbl : (byt s (k : Int)).toNat < 256 := (byt s (k : Int)).toNat_lt
  refine V.seq fun K18 k19 => ?_
  refine V.sr h15 [] 9 11 [(12, .bool (decide ((k : Int) < (s.size : Int))))] fun a h22 => ?_
  refine V.cp h22 ((k : Int) < (s.size : Int)) (fun ht23 => ?_) (fun ht23 => ?_)
  ·
   refine V.skip ?_
   refine V.then_n (k19 _ _ ?_)
   refine V.seq fun K24 k25 => ?_
   refine V.block ?_
   have hb28 := byt_lt s (k : Int)
   refine V.sr h22 [(3, .ixs s .i64 (k : Int)), (0, .q (.int .u64 (bi s (k : Int))) (V.w_u64 (by omega) (by omega))), (0, .q (.int .u64 ((h ^^^ (byt s (k : Int)).toNat : Nat) : Int)) (V.b_xor_u64 h (byt s (k : Int)).toNat hlt (by omega)))] 15 20 [(5, .int .u64 ((h ^^^ (byt s (k : Int)).toNat : Nat) : Int))] fun a h29 => ?_
   refine V.rr h29 [(1, .q (.int .u64 ((hstep h (byt s (k : Int)).toNat : Nat) : Int)) (V.b_mul_u64 (h ^^^ (byt s (k : Int)).toNat) 1099511628211))] 21 22 [(5, .int .u64 ((hstep h (byt s (k : Int)).toNat : Nat) : Int))] fun a h30 => ?_
   refine V.blk_n ?_
   refine V.then_n (k25 _ _ ?_)
   refine V.rr h30 [(1, .i ((k : Int) + 1))] 13 14 [(6, .int .i64 ((k : Int) + 1))] fun a h31 => ?_
   refine V.then_n ?_
   refine ⟨k + 1, hstep h (byt s (k : Int)).toNat, by omega, ?_⟩
   refine ⟨((h31.eq 5 (v := (.int .u64 ((hstep h (byt s (k : Int)).toNat : Nat) : Int))) (u := (.int .u64 ((hstep h (byt s (k : Int)).toNat) : Int))) (V.int_eq (by omega))).eq 6 (v := (.int .i64 ((k : Int) + 1))) (u := (.int .i64 ((k + 1) : Int))) (V.int_eq (by omega))).only _, hF_16, (by omega), (hash_step (by omega) hh), (hstep_lt _ _)⟩
  ·
   refine V.exit ?_
   refine V.then_e ?_
   refine V.then_e ?_
   refine V.blk_hit ?_
   refine V.then_n (k9 _ _ ?_)
   refine V.sr h22 [] 23 23 [(4, .int .u64 (h : Int))] fun a h34 => ?_
   refine V.ret ?_
   refine V.r1 h34 (.int .u64 (h : Int)) ?_
   exact ⟨congrArg Ending.returned (int_eq (by rw [hash_end (by omega) hh]; rfl)), hF_16⟩
set_option maxHeartbeats 4000000 in
set_option maxRecDepth 20000 in
theorem key_any (w : World) (s : ByteArray) : Calls Try.prog 10 #[.string s] w (fun e w' => e = .returned (.string (keyS s)) ∧ Fr [] w w') := by
 have hF := Fr.refl [] w
 refine V.en 9 Try.func10 fun a h1 => ?_
 refine V.sr h1 [] 2 2 [] fun a h4 => ?_
 refine V.seq fun K5 k6 => ?_
 refine V.sr h4 [] 3 4 [(5, .bool (decide ((s.size : Int) > 100)))] fun a h9 => ?_
 refine V.cp h9 ((s.size : Int) > 100) (fun ht10 => ?_) (fun ht10 => ?_)
 ·
  refine V.sr h9 [(1, .sl s 0 100)] 6 7 [(2, .string (s.extract (0 : Int).toNat (100 : Int).toNat))] fun a h13 => ?_
  refine V.ret ?_
  refine V.then_r ?_
  refine V.r1 h13 (.string (s.extract (0 : Int).toNat (100 : Int).toNat)) ?_
  refine ⟨congrArg Ending.returned (congrArg Value.string ?_), hF⟩
  unfold keyS; rw [if_pos (by omega)]; rfl
 ·
  refine V.skip ?_
  refine V.then_n (k6 _ _ ?_)
  refine V.sr h9 [] 8 8 [(2, .string s)] fun a h16 => ?_
  refine V.ret ?_
  refine V.r1 h16 (.string s) ?_
  refine ⟨congrArg Ending.returned (congrArg Value.string ?_), hF⟩
  unfold keyS; rw [if_neg (by omega)]
end Go.Proofs.Ytalhmegjomfbaaa
