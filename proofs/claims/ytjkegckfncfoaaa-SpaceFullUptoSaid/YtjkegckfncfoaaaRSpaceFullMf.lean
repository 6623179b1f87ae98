/- a key that a space has takes another end, and stays the one that it is, for arguments of at most 2^20 values and letters. -/
import Derived.Test.YtjkegckfncfoaaaRows
import Derived.Test.YtjkegckfncfoaaaMf6
import Derived.WalkKit
import Derived.ProofKit
import Derived.OpenShut
import Derived.JoinedCond
namespace Go.Proofs.Ytjkegckfncfoaaa.ofSpaceFull
open Go.ChangeShapes Go.WideShapes Go.ChangeAt Go.RowKit Go.Base Go.V
open Go.ChangeMaps (open_string shut_string)
set_option linter.unusedVariables false
set_option linter.unusedSimpArgs false
theorem wf_u8 {n : Int} (h : (Lit.int .u8 n).wf = true) : 0 ≤ n ∧ n ≤ 255 := by
  unfold Lit.wf at h
  have h1 : IntKind.u8.min = 0 := by decide
  have h2 : IntKind.u8.max = 255 := by decide
  simp [h1, h2] at h; omega
theorem own : ownKnob Try.prog.godebug = none := by kernel_rfl
theorem laidOut : laidOutB Try.prog = true := by kernel_rfl
set_option maxRecDepth 100000 in
theorem lifted (os : Os) (started : os.Started) (H : Type) (enc : TypeId × Value → H) (F : Stop.Interp) :
    ReturnsInHanded {} Try.checked os 4 .any ((Rows.OpenSpec.upto Rows.spaceFullSpec).pre6 enc Try.prog Try.f4 Rows.spaceFullUptoRow.domain false) (((Rows.OpenSpec.upto Rows.spaceFullSpec).at F).post enc Try.prog Try.f4 false true false false) := by
  refine returnsInHanded_of_cond (C := Try.checked) (s := Rows.OpenSpec.upto Rows.spaceFullSpec) (k := Rows.uptoSmall) rfl own started (by kernel_rfl) Try.func4
    (OpenSpec.witness (enc := enc) (C := Try.checked) (s := Rows.OpenSpec.upto Rows.spaceFullSpec) (k := Rows.uptoSmall) rfl false ⟨#[], #[.int .u8 0, .string ⟨#[]⟩, .agg #[.int .i64 0, .string ⟨#[]⟩, .slice none 0 0, .slice none 0 0, .slice none 0 0]], []⟩ 8 (by kernel_rfl) (by kernel_rfl) (by kernel_rfl)
      (x := ([.lit (.int .u8 0), .lit (.string []), .agg [.lit (.int .i64 0), .lit (.string []), .nil, .nil, .nil]], [], [])) (by kernel_rfl) rfl (by kernel_rfl)) ?_
  intro W base args ds gs before hval0 hW hcnd hk _
  have hval : ∀ (j : Nat) t v, Try.f4.params[j]? = some t → args[j]? = some v → Value.okWide Try.prog W .any base t v := hval0
  have hW' := hW
  obtain ⟨p, q, hA0, hV, rfl, hfz, hnd⟩ := hW
  have hA : DataW.TrodAll enc Try.prog W 0 (fun _ => true) true Try.f4.params.toList args.toList ds p := hA0
  rw [Try.params4] at hA hval
  obtain ⟨v0, vs0, d0, ds0, p0, q0, hargs, rfl, rfl, h0, r0⟩ := trodAll_cons hA
  obtain ⟨v1, vs1, d1, ds1, p1, q1, rfl, rfl, rfl, h1, r1⟩ := trodAll_cons r0
  obtain ⟨v2, vs2, d2, ds2, p2, q2, rfl, rfl, rfl, h2, r2⟩ := trodAll_cons r1
  obtain ⟨rfl, rfl, rfl⟩ := trodAll_nil r2
  obtain rfl : args = #[v0, v1, v2] := by cases args; simp_all
  obtain ⟨rfl, rfl⟩ := trodVars_none hV
  obtain ⟨n0, rfl, rfl, rfl, hw0⟩ := open_int Try.underlying5 (hval 0 5 v0 rfl rfl) h0
  have hu0 : 0 ≤ n0 ∧ n0 ≤ 255 := wf_u8 hw0
  obtain ⟨s1, rfl, rfl, rfl, hs1⟩ := open_string Try.underlying9 (hval 1 9 v1 rfl rfl) h1
  obtain ⟨cs2, rfl⟩ := okw_st Try.underlying27 (hval 2 27 v2 rfl rfl)
  have hlt2 : ∀ x ∈ p2, x.block < W.heap.size := fun x hx => hW'.lt x (by simp [hx])
  obtain ⟨fu2, hd2⟩ := id h2
  obtain ⟨k2, s2, Al2, cl2, l2, Az2, cz2, z2, Ah2, ch2, h92, hq2, hSl2, hSz2, hSh2, hK2⟩ := val_el hd2 hlt2
  obtain rfl : cs2 = #[.int .i64 k2, .string s2, .slice Al2 l2.length cl2, .slice Az2 z2.length cz2, .slice Ah2 h92.length ch2] := by apply Array.ext'; simpa [Value.cells] using hq2
  obtain ⟨hki2, hbs2, ⟨hbl2, hml2⟩, ⟨hbz2, hmz2⟩, hbh2, hmh2⟩ := hK2
  have hb1 : s1.size ≤ 1048576 := by have h := of_decide_eq_true hk; simp [Rows.uptoBulkAll, Rows.uptoBulk] at h; omega
  have hB2 : Rows.uptoBulk d2 ≤ 1048576 := by have h := of_decide_eq_true hk; simp only [Rows.uptoBulkAll, List.append_nil, List.cons_append, List.nil_append] at h; omega
  dsimp only at hbs2 hbl2 hbz2 hbh2
  clear hA0 hval0
  simp only [List.append_nil] at hW'
  refine (spaceFull_any W n0 hu0 s1 hb1 k2 s2 Al2 cl2 l2 hSl2 Az2 cz2 z2 hSz2 Ah2 ch2 h92 hSh2 (by omega) (by omega) (by omega) (fun x hx => Nat.le_trans (hmz2 x hx).1 hB2)).mono fun e W' ⟨he, hf⟩ => ?_
  subst he
  exact ⟨_, rfl, _, _, _, [], _, [], hW', (trodAll_cons_mk (shut_bool Try.underlying4 true) trodAll_mk0), (trodAll_cons_mk (shut_int Try.underlying5 hw0) (trodAll_cons_mk (shut_string Try.underlying9 hs1) (trodAll_cons_mk (Below.trod laidOut (by kernel_rfl) (of_decide_eq_true (by kernel_rfl)) h2 hf.below0 hlt2) trodAll_mk0))), rfl, hf.below0.frame _, fun h => by cases h⟩
theorem holds : Rows.SpaceFullUptoSaid :=
  OpenClaim.holds_of_cond 4 Try.f4 rfl rfl rfl rfl rfl rfl rfl ⟨rfl, rfl, rfl, rfl, rfl⟩ rfl rfl rfl rfl rfl (by kernel_rfl) Try.func4 (by kernel_rfl)
    (of_decide_eq_true (by kernel_rfl)) (by unfold Func.isWrapper; first | (rw [if_pos (by decide +kernel)]; kernel_rfl) | (rw [if_neg (by decide +kernel)]; exact ⟨rfl, rfl⟩))
    (fun os started H enc _ F => lifted os started H enc F)
end Go.Proofs.Ytjkegckfncfoaaa.ofSpaceFull
namespace Go.Proofs.Ytjkegckfncfoaaa
theorem spaceFullUpto_holds : Rows.SpaceFullUptoSaid := ofSpaceFull.holds
end Go.Proofs.Ytjkegckfncfoaaa
