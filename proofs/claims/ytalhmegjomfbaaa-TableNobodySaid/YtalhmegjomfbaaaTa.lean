/- Walks: hashes, key. -/
import Derived.Test.YtalhmegjomfbaaaProg
import Derived.Test.YtalhmegjomfbaaaTab
namespace Go.Proofs.Ytalhmegjomfbaaa
open Go.V Go.Base
open Go.RowKit (Below)
attribute [local irreducible] Act.put Act.eval
set_option linter.unusedVariables false
set_option linter.unusedSimpArgs false
/-- What the laws look at of a key: at most 100 bytes. -/
def keyS (s : ByteArray) : ByteArray := if s.size > 100 then s.extract 0 100 else s
theorem keyS_le (s : ByteArray) : (keyS s).size ≤ 100 := by
  unfold keyS; split
  · rw [ByteArray.size_extract]; omega
  · omega
set_option maxHeartbeats 4000000 in
set_option maxRecDepth 20000 in
theorem hash_any (w : World) (seed : Nat) (s : ByteArray) (hsd : seed < 18446744073709551616) (hs : s.size ≤ 9223372036854775807) : Calls Try.prog 11 #[.int .u64 (seed : Int), .string s] w (fun e w' => e = .returned (.int .u64 ((hashN seed s : Nat) : Int)) ∧ Fr [] w w') := by
 have hF := Fr.refl [] w
 refine V.enter 23 Try.func11 rfl rfl ?_
 intro a hz ha
 have s0 : a.eval (.tmp 0) = (.int .u64 (seed : Int)) := ha 0 _ rfl
 have s1 : a.eval (.tmp 1) = (.string s) := ha 1 _ rfl
 clear ha
 refine V.seq (fun K1 hK2 => ?_)
 refine V.rg ?_
 refine V.ga evc ?_
 refine V.nil ?_
 refine V.then_n (hK2 _ _ ?_)
 refine V.seq (fun K3 hK4 => ?_)
 refine V.rg ?_
 refine V.gm (o1 rfl s0) ?_
 refine V.go (V.xor64 14695981039346656037 seed evc (sm hz.p1 rfl) (by omega) hsd ?_)
 refine V.ga (v := (.int .u64 ((hseed seed : Nat) : Int))) (sm hz.p2 rfl) ?_
 refine V.nil ?_
 refine V.then_n (hK4 _ _ ?_)
 refine V.flushW hz.p4 (fun a5 hz6 up7 => ?_)
 have s1_8 := up7 1 _ (o4 rfl s1)
 have s5_9 : a5.eval (.tmp 5) = (.int .u64 ((hseed seed : Nat) : Int)) := up7 _ _ (sm hz.p2.p1 rfl)
 clear up7
 refine V.seq (fun K10 hK11 => ?_)
 refine V.seq (fun K12 hK13 => ?_)
 refine V.rg ?_
 refine V.gm (s1_8) ?_
 refine V.ge_ [(9, .string s)] ⟨(sm hz6 rfl), trivial⟩ (.int .i64 (s.size : Int)) ?_
 refine V.gm evc ?_
 refine V.nil ?_
 refine V.then_n (hK13 _ _ ?_)
 refine V.block ?_
 refine V.loop2 (fun (k : Nat) (h : Nat) a_ w_ => Sz 23 a_ ∧ a_.eval (.tmp 1) = (.string s) ∧ a_.eval (.tmp 5) = (.int .u64 (h : Int)) ∧ a_.eval (.tmp 10) = (.int .i64 (s.size : Int)) ∧ a_.eval (.tmp 11) = (.int .i64 (k : Int)) ∧ Fr [] w w_ ∧ (k ≤ s.size) ∧ (hashI (hseed seed) ((ints s).take k) = h) ∧ (h < 18446744073709551616)) (fun (k : Nat) (h : Nat) => s.size - k) 0 (hseed seed) ?_ ?_
 ·
  refine ⟨hz6.p2.p1, ?_, ?_, ?_, ?_, hF, (by omega), rfl, (hseed_lt hsd)⟩
  · exact (o2 rfl (o1 rfl s1_8))
  · exact Eq.trans (o2 rfl (o1 rfl s5_9)) (V.int_eq (by omega))
  · exact Eq.trans (o1 rfl (sm hz6.p1 rfl)) (V.int_eq (by omega))
  · exact Eq.trans (sm hz6.p2 rfl) (V.int_eq (by omega))
 ·
  rintro k h a14 w15 ⟨hz16, s1_17, s5_18, s10_19, s11_20, hF_21, hk, hh, hlt⟩
  have hfs22 := hF_21.size
  have hbl : (byt s (k : Int)).toNat < 256 := (byt s (k : Int)).toNat_lt
  refine V.seq (fun K23 hK24 => ?_)
  refine V.rg ?_
  refine V.ge_ [(11, .int .i64 (k : Int)), (10, .int .i64 (s.size : Int))] ⟨(s11_20), (s10_19), trivial⟩ (.bool (decide ((k : Int) < (s.size : Int)))) ?_
  refine V.nil ?_
  refine V.then_n (hK24 _ _ ?_)
  refine V.seq (fun K25 hK26 => ?_)
  refine V.condP (p := (k : Int) < (s.size : Int)) (sm hz16 rfl) (fun ht27 => ?_) (fun ht27 => ?_)
  ·
   refine V.skip ?_
   refine V.then_n (hK26 _ _ ?_)
   refine V.seq (fun K28 hK29 => ?_)
   refine V.block ?_
   refine V.seq (fun K30 hK31 => ?_)
   refine V.rg ?_
   refine V.gm (o1 rfl s11_20) ?_
   refine V.ga (sm hz16.p1 rfl) ?_
   refine V.nil ?_
   refine V.then_n (hK31 _ _ ?_)
   refine V.rg ?_
   refine V.gm (o2 rfl (o1 rfl s5_18)) ?_
   refine V.gm (o4 rfl s1_17) ?_
   refine V.gm (o2 rfl (sm hz16.p2 rfl)) ?_
   refine V.go (V.ixs s .i64 (k : Int) (o1 rfl (sm hz16.p4 rfl)) (sm hz16.p4.p1 rfl) (by omega) (by omega) (by kernel_rfl) ?_)
   have hb32 := byt_lt s (k : Int)
   refine V.gf_ [(17, .int .u8 (bi s (k : Int)))] ⟨(sm hz16.p4.p2 rfl), trivial⟩ (.int .u64 (IntKind.u64.wrap (bi s (k : Int)))) (.int .u64 (bi s (k : Int))) (V.w_u64 (by omega) (by omega)) ?_
   refine V.go (V.xor64 h (byt s (k : Int)).toNat (o4 rfl (sm hz16.p2.p1 rfl)) (sm hz16.p4.p2.p1 rfl) hlt (by omega) ?_)
   refine V.go (V.mulw64 (h ^^^ (byt s (k : Int)).toNat) 1099511628211 (sm hz16.p8 rfl) evc  ?_)
   refine V.ga (v := (.int .u64 ((hstep h (byt s (k : Int)).toNat : Nat) : Int))) (sm hz16.p8.p1 rfl) ?_
   refine V.nil ?_
   refine V.blk_n ?_
   refine V.then_n (hK29 _ _ ?_)
   refine V.flushW hz16.p8.p2.p1 (fun a33 hz34 up35 => ?_)
   have s1_36 := up35 1 _ (o8 rfl (o2 rfl (o1 rfl s1_17)))
   have s5_37 : a33.eval (.tmp 5) = (.int .u64 ((hstep h (byt s (k : Int)).toNat : Nat) : Int)) := up35 _ _ (sm hz16.p8.p2 rfl)
   have s10_38 := up35 10 _ (o8 rfl (o2 rfl (o1 rfl s10_19)))
   have s11_39 := up35 11 _ (o8 rfl (o2 rfl (o1 rfl s11_20)))
   clear up35
   refine V.rg ?_
   refine V.gf_ [(11, .int .i64 (k : Int))] ⟨(s11_39), trivial⟩ (.int .i64 (IntKind.i64.wrap ((k : Int) + 1))) (.int .i64 ((k : Int) + 1)) (V.w_i64 (by omega) (by omega)) ?_
   refine V.gm (sm hz34 rfl) ?_
   refine V.nil ?_
   refine V.then_n ?_
   refine ⟨k + 1, hstep h (byt s (k : Int)).toNat, by omega, ?_⟩
   refine ⟨hz34.p2, ?_, ?_, ?_, ?_, hF_21, (by omega), (hash_step (by omega) hh), (hstep_lt _ _)⟩
   · exact (o2 rfl s1_36)
   · exact Eq.trans (o2 rfl s5_37) (V.int_eq (by omega))
   · exact Eq.trans (o2 rfl s10_38) (V.int_eq (by omega))
   · exact Eq.trans (sm hz34.p1 rfl) (V.int_eq (by omega))
  ·
   refine V.exit ?_
   refine V.then_e ?_
   refine V.then_e ?_
   refine V.blk_hit ?_
   refine V.then_n (hK11 _ _ ?_)
   refine V.seq (fun K40 hK41 => ?_)
   refine V.rg ?_
   refine V.gm (o1 rfl s5_18) ?_
   refine V.ga (sm hz16.p1 rfl) ?_
   refine V.nil ?_
   refine V.then_n (hK41 _ _ ?_)
   refine V.ret ?_
   refine V.ret1 hz16.p2.p1 rfl (sm hz16.p2 rfl) ?_
   exact ⟨congrArg Ending.returned (int_eq (by rw [hash_end (by omega) hh]; rfl)), hF_21⟩
set_option maxHeartbeats 4000000 in
set_option maxRecDepth 20000 in
theorem rhash_any (w : World) (seed : Nat) (s : ByteArray) (hsd : seed < 18446744073709551616) (hs : s.size ≤ 9223372036854775807) : Calls Try.prog 12 #[.int .u64 (seed : Int), .string s] w (fun e w' => e = .returned (.int .u64 ((hashN seed s : Nat) : Int)) ∧ Fr [] w w') := by
 have hF := Fr.refl [] w
 refine V.enter 24 Try.func12 rfl rfl ?_
 intro a hz ha
 have s0 : a.eval (.tmp 0) = (.int .u64 (seed : Int)) := ha 0 _ rfl
 have s1 : a.eval (.tmp 1) = (.string s) := ha 1 _ rfl
 clear ha
 refine V.seq (fun K1 hK2 => ?_)
 refine V.rg ?_
 refine V.ga evc ?_
 refine V.nil ?_
 refine V.then_n (hK2 _ _ ?_)
 refine V.seq (fun K3 hK4 => ?_)
 refine V.rg ?_
 refine V.gm (o1 rfl s0) ?_
 refine V.go (V.xor64 14695981039346656037 seed evc (sm hz.p1 rfl) (by omega) hsd ?_)
 refine V.ga (v := (.int .u64 ((hseed seed : Nat) : Int))) (sm hz.p2 rfl) ?_
 refine V.nil ?_
 refine V.then_n (hK4 _ _ ?_)
 refine V.flushW hz.p4 (fun a5 hz6 up7 => ?_)
 have s1_8 := up7 1 _ (o4 rfl s1)
 have s5_9 : a5.eval (.tmp 5) = (.int .u64 ((hseed seed : Nat) : Int)) := up7 _ _ (sm hz.p2.p1 rfl)
 clear up7
 refine V.seq (fun K10 hK11 => ?_)
 refine V.seq (fun K12 hK13 => ?_)
 refine V.rg ?_
 refine V.ga evc ?_
 refine V.nil ?_
 refine V.then_n (hK13 _ _ ?_)
 refine V.block ?_
 refine V.loop2 (fun (k : Nat) (h : Nat) a_ w_ => Sz 24 a_ ∧ a_.eval (.tmp 1) = (.string s) ∧ a_.eval (.tmp 5) = (.int .u64 (h : Int)) ∧ a_.eval (.tmp 6) = (.int .i64 (k : Int)) ∧ Fr [] w w_ ∧ (k ≤ s.size) ∧ (hashI (hseed seed) ((ints s).take k) = h) ∧ (h < 18446744073709551616)) (fun (k : Nat) (h : Nat) => s.size - k) 0 (hseed seed) ?_ ?_
 ·
  refine ⟨hz6.p1, ?_, ?_, ?_, hF, (by omega), rfl, (hseed_lt hsd)⟩
  · exact (o1 rfl s1_8)
  · exact Eq.trans (o1 rfl s5_9) (V.int_eq (by omega))
  · exact Eq.trans (sm hz6 rfl) (V.int_eq (by omega))
 ·
  rintro k h a14 w15 ⟨hz16, s1_17, s5_18, s6_19, hF_20, hk, hh, hlt⟩
  have hfs21 := hF_20.size
  have hbl : (byt s (k : Int)).toNat < 256 := (byt s (k : Int)).toNat_lt
  refine V.seq (fun K22 hK23 => ?_)
  refine V.seq (fun K24 hK25 => ?_)
  refine V.rg ?_
  refine V.gm (s6_19) ?_
  refine V.gm (o1 rfl s1_17) ?_
  refine V.ge_ [(10, .string s)] ⟨(sm hz16.p1 rfl), trivial⟩ (.int .i64 (s.size : Int)) ?_
  refine V.ge_ [(9, .int .i64 (k : Int)), (11, .int .i64 (s.size : Int))] ⟨(o2 rfl (sm hz16 rfl)), (sm hz16.p2 rfl), trivial⟩ (.bool (decide ((k : Int) < (s.size : Int)))) ?_
  refine V.nil ?_
  refine V.then_n (hK25 _ _ ?_)
  refine V.flushW hz16.p4 (fun a26 hz27 up28 => ?_)
  have s1_29 := up28 1 _ (o4 rfl s1_17)
  have s5_30 := up28 5 _ (o4 rfl s5_18)
  have s6_31 := up28 6 _ (o4 rfl s6_19)
  have s12_32 := up28 12 _ (sm hz16.p2.p1 rfl)
  clear up28
  refine V.condP (p := (k : Int) < (s.size : Int)) (s12_32) (fun ht33 => ?_) (fun ht33 => ?_)
  ·
   refine V.skip ?_
   refine V.then_n (hK23 _ _ ?_)
   refine V.seq (fun K34 hK35 => ?_)
   refine V.block ?_
   refine V.seq (fun K36 hK37 => ?_)
   refine V.rg ?_
   refine V.gm (s5_30) ?_
   refine V.gm (o1 rfl s1_29) ?_
   refine V.gm (o2 rfl s6_31) ?_
   refine V.go (V.ixs s .i64 (k : Int) (o1 rfl (sm hz27.p1 rfl)) (sm hz27.p2 rfl) (by omega) (by omega) (by kernel_rfl) ?_)
   have hb38 := byt_lt s (k : Int)
   refine V.gf_ [(18, .int .u8 (bi s (k : Int)))] ⟨(sm hz27.p2.p1 rfl), trivial⟩ (.int .u64 (IntKind.u64.wrap (bi s (k : Int)))) (.int .u64 (bi s (k : Int))) (V.w_u64 (by omega) (by omega)) ?_
   refine V.go (V.xor64 h (byt s (k : Int)).toNat (o4 rfl (sm hz27 rfl)) (sm hz27.p4 rfl) hlt (by omega) ?_)
   refine V.ga (v := (.int .u64 ((h ^^^ (byt s (k : Int)).toNat : Nat) : Int))) (sm hz27.p4.p1 rfl) ?_
   refine V.nil ?_
   refine V.then_n (hK37 _ _ ?_)
   refine V.flushW hz27.p4.p2.p1 (fun a39 hz40 up41 => ?_)
   have s1_42 := up41 1 _ (o4 rfl (o2 rfl (o1 rfl s1_29)))
   have s5_43 : a39.eval (.tmp 5) = (.int .u64 ((h ^^^ (byt s (k : Int)).toNat : Nat) : Int)) := up41 _ _ (sm hz27.p4.p2 rfl)
   have s6_44 := up41 6 _ (o4 rfl (o2 rfl (o1 rfl s6_31)))
   clear up41
   refine V.rg ?_
   refine V.gm (v := (.int .u64 ((h ^^^ (byt s (k : Int)).toNat : Nat) : Int))) (s5_43) ?_
   refine V.go (V.mulw64 (h ^^^ (byt s (k : Int)).toNat) 1099511628211 (sm hz40 rfl) evc  ?_)
   refine V.ga (v := (.int .u64 ((hstep h (byt s (k : Int)).toNat : Nat) : Int))) (sm hz40.p1 rfl) ?_
   refine V.nil ?_
   refine V.blk_n ?_
   refine V.then_n (hK35 _ _ ?_)
   refine V.rg ?_
   refine V.gm (o2 rfl (o1 rfl s6_44)) ?_
   refine V.gf_ [(13, .int .i64 (k : Int))] ⟨(sm hz40.p2.p1 rfl), trivial⟩ (.int .i64 (IntKind.i64.wrap ((k : Int) + 1))) (.int .i64 ((k : Int) + 1)) (V.w_i64 (by omega) (by omega)) ?_
   refine V.ga (sm hz40.p4 rfl) ?_
   refine V.nil ?_
   refine V.then_n ?_
   refine ⟨k + 1, hstep h (byt s (k : Int)).toNat, by omega, ?_⟩
   refine ⟨hz40.p4.p2, ?_, ?_, ?_, hF_20, (by omega), (hash_step (by omega) hh), (hstep_lt _ _)⟩
   · exact (o4 rfl (o2 rfl s1_42))
   · exact Eq.trans (o2 rfl (o1 rfl (sm hz40.p2 rfl))) (V.int_eq (by omega))
   · exact Eq.trans (sm hz40.p4.p1 rfl) (V.int_eq (by omega))
  ·
   refine V.exit ?_
   refine V.then_e ?_
   refine V.then_e ?_
   refine V.blk_hit ?_
   refine V.then_n (hK11 _ _ ?_)
   refine V.seq (fun K45 hK46 => ?_)
   refine V.rg ?_
   refine V.gm (s5_30) ?_
   refine V.ga (sm hz27 rfl) ?_
   refine V.nil ?_
   refine V.then_n (hK46 _ _ ?_)
   refine V.ret ?_
   refine V.ret1 hz27.p2 rfl (sm hz27.p1 rfl) ?_
   exact ⟨congrArg Ending.returned (int_eq (by rw [hash_end (by omega) hh]; rfl)), hF_20⟩
set_option maxHeartbeats 4000000 in
set_option maxRecDepth 20000 in
theorem key_any (w : World) (s : ByteArray) : Calls Try.prog 10 #[.string s] w (fun e w' => e = .returned (.string (keyS s)) ∧ Fr [] w w') := by
 have hF := Fr.refl [] w
 refine V.enter 9 Try.func10 rfl rfl ?_
 intro a hz ha
 have s0 : a.eval (.tmp 0) = (.string s) := ha 0 _ rfl
 clear ha
 refine V.seq (fun K1 hK2 => ?_)
 refine V.rg ?_
 refine V.ga evc ?_
 refine V.nil ?_
 refine V.then_n (hK2 _ _ ?_)
 refine V.seq (fun K3 hK4 => ?_)
 refine V.seq (fun K5 hK6 => ?_)
 refine V.rg ?_
 refine V.gm (o1 rfl s0) ?_
 refine V.ge_ [(3, .string s)] ⟨(sm hz.p1 rfl), trivial⟩ (.int .i64 (s.size : Int)) ?_
 refine V.ge_ [(4, .int .i64 (s.size : Int))] ⟨(sm hz.p2 rfl), trivial⟩ (.bool (decide ((s.size : Int) > 100))) ?_
 refine V.nil ?_
 refine V.then_n (hK6 _ _ ?_)
 refine V.flushW hz.p4 (fun a7 hz8 up9 => ?_)
 have s0_10 := up9 0 _ (o4 rfl s0)
 have s5_11 := up9 5 _ (sm hz.p2.p1 rfl)
 clear up9
 refine V.condP (p := (s.size : Int) > 100) (s5_11) (fun ht12 => ?_) (fun ht12 => ?_)
 ·
  refine V.seq (fun K13 hK14 => ?_)
  refine V.rg ?_
  refine V.gm (s0_10) ?_
  refine V.go (V.sls s 0 100 (sm hz8 rfl) rfl ⟨_, evc⟩ (by omega) (by omega) (by omega) (by kernel_rfl) ?_)
  refine V.ga (sm hz8.p1 rfl) ?_
  refine V.nil ?_
  refine V.then_n (hK14 _ _ ?_)
  refine V.ret ?_
  refine V.then_r ?_
  refine V.ret1 hz8.p2.p1 rfl (sm hz8.p2 rfl) ?_
  refine ⟨congrArg Ending.returned (congrArg Value.string ?_), hF⟩
  unfold keyS; rw [if_pos (by omega)]; rfl
 ·
  refine V.skip ?_
  refine V.then_n (hK4 _ _ ?_)
  refine V.seq (fun K15 hK16 => ?_)
  refine V.rg ?_
  refine V.gm (s0_10) ?_
  refine V.ga (sm hz8 rfl) ?_
  refine V.nil ?_
  refine V.then_n (hK16 _ _ ?_)
  refine V.ret ?_
  refine V.ret1 hz8.p2 rfl (sm hz8.p1 rfl) ?_
  refine ⟨congrArg Ending.returned (congrArg Value.string ?_), hF⟩
  unfold keyS; rw [if_neg (by omega)]
end Go.Proofs.Ytalhmegjomfbaaa
