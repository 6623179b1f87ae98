/- Walks: TableHashes. -/
import Derived.Test.YtalhmegjomfbaaaProg
import Derived.Test.YtalhmegjomfbaaaTg
namespace Go.Proofs.Ytalhmegjomfbaaa
open Go.V Go.Base
open Go.RowKit (Below)
attribute [local irreducible] Act.put Act.eval
set_option linter.unusedVariables false
set_option linter.unusedSimpArgs false
set_option maxHeartbeats 4000000 in
set_option maxRecDepth 20000 in
theorem tableHashes_any (w : World) (seed : Nat) (s : ByteArray) (hsd : seed < 18446744073709551616) : Calls Try.prog 3 #[.int .u64 (seed : Int), .string s] w (fun e w' => e = .returned (.bool true) ∧ Fr [] w w') := by
 have hF := Fr.refl [] w
 refine V.enter 17 Try.func3 rfl rfl ?_
 intro a hz ha
 have s0 : a.eval (.tmp 0) = (.int .u64 (seed : Int)) := ha 0 _ rfl
 have s1 : a.eval (.tmp 1) = (.string s) := ha 1 _ rfl
 clear ha
 refine V.seq (fun K1 hK2 => ?_)
 refine V.rg ?_
 refine V.ga evc ?_
 refine V.nil ?_
 refine V.then_n (hK2 _ _ ?_)
 refine V.seq (fun K3 hK4 => ?_)
 refine V.rg ?_
 refine V.gm (o1 rfl s1) ?_
 refine V.go (V.call 10 #[] #[.string s] evf (args1 (sm hz.p1 rfl)) (Go.Proofs.enters_of Try.func10 (by kernel_rfl) rfl) (key_any w s) ?_)
 rintro _ w6 ⟨rfl, hF5⟩
 refine ⟨_, rfl, ?_⟩
 have hsw6 := hF5.size
 have hF_7 := hF.new hF5
 have hkey5 := keyS_le s
 refine V.ga (v := (.string (keyS s))) (sm hz.p2 rfl) ?_
 refine V.nil ?_
 refine V.then_n (hK4 _ _ ?_)
 refine V.flushW hz.p4 (fun a8 hz9 up10 => ?_)
 have s0_11 := up10 0 _ (o4 rfl s0)
 have s1_12 : a8.eval (.tmp 1) = (.string (keyS s)) := up10 _ _ (sm hz.p2.p1 rfl)
 clear up10
 refine V.seq (fun K13 hK14 => ?_)
 refine V.rg ?_
 refine V.gm (s0_11) ?_
 refine V.gm (v := (.string (keyS s))) (o1 rfl s1_12) ?_
 refine V.go (V.call 11 #[] #[.int .u64 (seed : Int), .string (keyS s)] evf (args2 (o1 rfl (sm hz9 rfl)) (sm hz9.p1 rfl)) (Go.Proofs.enters_of Try.func11 (by kernel_rfl) rfl) (hash_any w6 seed (keyS s) (by omega) (by omega)) ?_)
 rintro _ w16 ⟨rfl, hF15⟩
 refine ⟨_, rfl, ?_⟩
 have hsw16 := hF15.size
 have hF_17 := hF_7.new hF15
 have hhl15 := hashN_lt (seed := seed) (by omega) (keyS s)
 refine V.gm (o2 rfl (o1 rfl s0_11)) ?_
 refine V.gm (v := (.string (keyS s))) (o4 rfl s1_12) ?_
 refine V.go (V.call 12 #[] #[.int .u64 (seed : Int), .string (keyS s)] evf (args2 (o1 rfl (sm hz9.p2.p1 rfl)) (sm hz9.p4 rfl)) (Go.Proofs.enters_of Try.func12 (by kernel_rfl) rfl) (rhash_any w16 seed (keyS s) (by omega) (by omega)) ?_)
 rintro _ w19 ⟨rfl, hF18⟩
 refine ⟨_, rfl, ?_⟩
 have hsw19 := hF18.size
 have hF_20 := hF_17.new hF18
 have hhl18 := hashN_lt (seed := seed) (by omega) (keyS s)
 refine V.gf_ [(9, .int .u64 ((hashN seed (keyS s) : Nat) : Int)), (12, .int .u64 ((hashN seed (keyS s) : Nat) : Int))] ⟨(o2 rfl (o1 rfl (sm hz9.p2 rfl))), (sm hz9.p4.p1 rfl), trivial⟩ (.bool (((hashN seed (keyS s) : Nat) : Int) == ((hashN seed (keyS s) : Nat) : Int))) (.bool (decide (((hashN seed (keyS s) : Nat) : Int) = ((hashN seed (keyS s) : Nat) : Int)))) V.t_eql ?_
 refine V.gm (sm hz9.p4.p2 rfl) ?_
 by_cases hg21 : ((hashN seed (keyS s) : Nat) : Int) = ((hashN seed (keyS s) : Nat) : Int)
 ·
  refine V.flushL hz9.p8 (fun a22 hz23 up24 => ?_)
  have s14_25 := up24 14 _ (sm hz9.p4.p2.p1 rfl)
  clear up24
  have s14_26 := ((s14_25).trans (dt hg21))
  refine V.go_on 14 (by kernel_rfl) (s14_26) (V.call 13 #[] #[] evf (args0) (Go.Proofs.enters_of Try.func13 (by kernel_rfl) rfl) (alive_any w19) ?_)
  rintro _ w28 ⟨rfl, hF27⟩
  refine ⟨_, rfl, ?_⟩
  have hsw28 := hF27.size
  have hF_29 := hF_20.new hF27
  refine V.go (V.pk_t (o1 rfl s14_26) (v := (.bool true)) (sm hz23 rfl) ?_)
  refine V.ga (v := (.bool true)) (sm hz23.p1 rfl) ?_
  refine V.nil ?_
  refine V.then_n (hK14 _ _ ?_)
  refine V.ret ?_
  refine V.ret1 hz23.p2.p1 rfl (sm hz23.p2 rfl) ?_
  exact ⟨rfl, hF_29⟩
 ·
  refine V.flushL hz9.p8 (fun a30 hz31 up32 => ?_)
  have s14_33 := up32 14 _ (sm hz9.p4.p2.p1 rfl)
  clear up32
  have s14_34 := ((s14_33).trans (df hg21))
  refine V.go_off 14 (by kernel_rfl) (s14_34) (by kernel_rfl) ?_
  refine V.go (V.pk_f (o1 rfl s14_34) (v := (.bool false)) evc ?_)
  refine V.ga (sm hz31.p1 rfl) ?_
  refine V.nil ?_
  refine V.then_n (hK14 _ _ ?_)
  refine V.ret ?_
  refine V.ret1 hz31.p2.p1 rfl (sm hz31.p2 rfl) ?_
  exact absurd rfl hg21
theorem wf_u64 {n : Int} (h : (Lit.int .u64 n).wf = true) : 0 ≤ n ∧ n < 18446744073709551616 := by
  unfold Lit.wf at h
  have h1 : IntKind.u64.min = 0 := by decide
  have h2 : IntKind.u64.max = 18446744073709551615 := by decide
  simp [h1, h2] at h; omega
theorem wf_i64 {n : Int} (h : (Lit.int .i64 n).wf = true) : -9223372036854775808 ≤ n ∧ n ≤ 9223372036854775807 := by
  unfold Lit.wf at h
  have h1 : IntKind.i64.min = -9223372036854775808 := by decide
  have h2 : IntKind.i64.max = 9223372036854775807 := by decide
  simp [h1, h2] at h; omega
end Go.Proofs.Ytalhmegjomfbaaa
