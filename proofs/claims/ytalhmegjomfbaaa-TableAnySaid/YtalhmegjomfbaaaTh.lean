/- Walks: TableHashes. -/
import Derived.Test.YtalhmegjomfbaaaProg
import Derived.Test.YtalhmegjomfbaaaTg
namespace Go.Proofs.Ytalhmegjomfbaaa
open Go.V Go.Base
open Go.RowKit (Below)
attribute [local irreducible] Act.put Act.eval
set_option linter.unusedVariables false
set_option linter.unusedSimpArgs false
set_option maxHeartbeats 4000000 in
set_option maxRecDepth 20000 in
theorem tableHashes_any (w : World) (seed : Nat) (s : ByteArray) (hsd : seed < 18446744073709551616) : Calls Try.prog 3 #[.int .u64 (seed : Int), .string s] w (fun e w' => e = .returned (.bool true) ∧ Fr [] w w') := by
 have hF := Fr.refl [] w
 refine V.en 17 Try.func3 fun a h1 => ?_
 refine V.sr h1 [] 4 4 [] fun a h4 => ?_
 refine V.sg fun K5 k6 => ?_
 refine V.run h4 [] 1 1 0 [(5, .string s)] fun a h7 => ?_
 refine V.cl h7 (Go.Proofs.enters_of Try.func10 (by kernel_rfl) rfl) (key_any w s) ?_
 rintro _ w9 ⟨rfl, hF8⟩
 refine ⟨_, rfl, fun a h10 => ?_⟩
 have hsw9 := hF8.size
 have hF_11 := hF.new hF8
 have hkey8 := keyS_le s
 refine V.re h10 [] 1 0 [(1, .string (keyS s))] fun a h12 => k6 _ _ ?_
 refine V.sg fun K13 k14 => ?_
 refine V.run h12 [] 2 1 0 [(7, .int .u64 (seed : Int)), (8, .string (keyS s))] fun a h15 => ?_
 refine V.cl h15 (Go.Proofs.enters_of Try.func11 (by kernel_rfl) rfl) (hash_any w9 seed (keyS s) (by omega) (by omega)) ?_
 rintro _ w17 ⟨rfl, hF16⟩
 refine ⟨_, rfl, fun a h18 => ?_⟩
 have hsw17 := hF16.size
 have hF_19 := hF_11.new hF16
 have hhl16 := hashN_lt (seed := seed) (by omega) (keyS s)
 refine V.run h18 [] 2 1 0 [(10, .int .u64 (seed : Int)), (11, .string (keyS s))] fun a h20 => ?_
 refine V.cl h20 (Go.Proofs.enters_of Try.func12 (by kernel_rfl) rfl) (rhash_any w17 seed (keyS s) (by omega) (by omega)) ?_
 rintro _ w22 ⟨rfl, hF21⟩
 refine ⟨_, rfl, fun a h23 => ?_⟩
 have hsw22 := hF21.size
 have hF_24 := hF_19.new hF21
 have hhl21 := hashN_lt (seed := seed) (by omega) (keyS s)
 refine V.run h23 [(0, .eq ((hashN seed (keyS s) : Nat) : Int) ((hashN seed (keyS s) : Nat) : Int))] 2 13 13 [(14, .bool (decide (((hashN seed (keyS s) : Nat) : Int) = ((hashN seed (keyS s) : Nat) : Int))))] fun a h25 => ?_
 by_cases hg26 : ((hashN seed (keyS s) : Nat) : Int) = ((hashN seed (keyS s) : Nat) : Int)
 ·
  have h27 := h25.kt 14 hg26
  refine V.clg h27 (Go.Proofs.enters_of Try.func13 (by kernel_rfl) rfl) (alive_any w22) ?_
  rintro _ w29 ⟨rfl, hF28⟩
  refine ⟨_, rfl, fun a h30 => ?_⟩
  have hsw29 := hF28.size
  have hF_31 := hF_24.new hF28
  refine V.re h30 [] 16 16 [(4, .bool true)] fun a h32 => k14 _ _ ?_
  refine V.ret ?_
  refine V.r1 h32 (.bool true) ?_
  exact ⟨rfl, hF_31⟩
 ·
  have h33 := h25.kf 14 hg26
  refine V.re h33 [] 15 16 [(4, .bool false)] fun a h34 => k14 _ _ ?_
  refine V.ret ?_
  refine V.r1 h34 (.bool false) ?_
  exact absurd rfl hg26
theorem wf_u64 {n : Int} (h : (Lit.int .u64 n).wf = true) : 0 ≤ n ∧ n < 18446744073709551616 := by
  unfold Lit.wf at h
  have h1 : IntKind.u64.min = 0 := by decide
  have h2 : IntKind.u64.max = 18446744073709551615 := by decide
  simp [h1, h2] at h; omega
theorem wf_i64 {n : Int} (h : (Lit.int .i64 n).wf = true) : -9223372036854775808 ≤ n ∧ n ≤ 9223372036854775807 := by
  unfold Lit.wf at h
  have h1 : IntKind.i64.min = -9223372036854775808 := by decide
  have h2 : IntKind.i64.max = 9223372036854775807 := by decide
  simp [h1, h2] at h; omega
end Go.Proofs.Ytalhmegjomfbaaa
