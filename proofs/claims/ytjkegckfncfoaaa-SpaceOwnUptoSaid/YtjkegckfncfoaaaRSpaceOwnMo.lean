/- a space shares nothing with what it is given or with what it tells, for arguments of at most 2^20 values and letters. -/
import Derived.Test.YtjkegckfncfoaaaRows
import Derived.Test.YtjkegckfncfoaaaMo6
import Derived.WalkKit
import Derived.ProofKit
import Derived.OpenShut
import Derived.JoinedCond
namespace Go.Proofs.Ytjkegckfncfoaaa.ofSpaceOwn
open Go.ChangeShapes Go.WideShapes Go.ChangeAt Go.RowKit Go.Base Go.V
open Go.ChangeMaps (open_string shut_string)
set_option linter.unusedVariables false
set_option linter.unusedSimpArgs false
theorem own : ownKnob Try.prog.godebug = none := by kernel_rfl
theorem laidOut : laidOutB Try.prog = true := by kernel_rfl
set_option maxRecDepth 100000 in
theorem lifted (os : Os) (started : os.Started) (H : Type) (enc : TypeId × Value → H) (F : Stop.Interp) :
    ReturnsInHanded {} Try.checked os 3 .any ((Rows.OpenSpec.upto Rows.spaceOwnSpec).pre6 enc Try.prog Try.f3 Rows.spaceOwnUptoRow.domain false) (((Rows.OpenSpec.upto Rows.spaceOwnSpec).at F).post enc Try.prog Try.f3 false true false false) := by
  refine returnsInHanded_of_cond (C := Try.checked) (s := Rows.OpenSpec.upto Rows.spaceOwnSpec) (k := Rows.uptoSmall) rfl own started (by kernel_rfl) Try.func3
    (OpenSpec.witness (enc := enc) (C := Try.checked) (s := Rows.OpenSpec.upto Rows.spaceOwnSpec) (k := Rows.uptoSmall) rfl false ⟨#[], #[.agg #[.int .i64 0, .string ⟨#[]⟩, .slice none 0 0, .slice none 0 0, .slice none 0 0]], []⟩ 8 (by kernel_rfl) (by kernel_rfl) (by kernel_rfl)
      (x := ([.agg [.lit (.int .i64 0), .lit (.string []), .nil, .nil, .nil]], [], [])) (by kernel_rfl) rfl (by kernel_rfl)) ?_
  intro W base args ds gs before hval0 hW hcnd hk _
  have hval : ∀ (j : Nat) t v, Try.f3.params[j]? = some t → args[j]? = some v → Value.okWide Try.prog W .any base t v := hval0
  have hW' := hW
  obtain ⟨p, q, hA0, hV, rfl, hfz, hnd⟩ := hW
  have hA : DataW.TrodAll enc Try.prog W 0 (fun _ => true) true Try.f3.params.toList args.toList ds p := hA0
  rw [Try.params3] at hA hval
  obtain ⟨v0, vs0, d0, ds0, p0, q0, hargs, rfl, rfl, h0, r0⟩ := trodAll_cons hA
  obtain ⟨rfl, rfl, rfl⟩ := trodAll_nil r0
  obtain rfl : args = #[v0] := by cases args; simp_all
  obtain ⟨rfl, rfl⟩ := trodVars_none hV
  obtain ⟨cs0, rfl⟩ := okw_st Try.underlying27 (hval 0 27 v0 rfl rfl)
  have hlt0 : ∀ x ∈ p0, x.block < W.heap.size := fun x hx => hW'.lt x (by simp [hx])
  obtain ⟨fu0, hd0⟩ := id h0
  obtain ⟨k0, s0, Al0, cl0, l0, Az0, cz0, z0, Ah0, ch0, h90, hq0, hSl0, hSz0, hSh0, hK0⟩ := val_el hd0 hlt0
  obtain rfl : cs0 = #[.int .i64 k0, .string s0, .slice Al0 l0.length cl0, .slice Az0 z0.length cz0, .slice Ah0 h90.length ch0] := by apply Array.ext'; simpa [Value.cells] using hq0
  obtain ⟨hki0, hbs0, ⟨hbl0, hml0⟩, ⟨hbz0, hmz0⟩, hbh0, hmh0⟩ := hK0
  have hB0 : Rows.uptoBulk d0 ≤ 1048576 := by have h := of_decide_eq_true hk; simp only [Rows.uptoBulkAll, List.append_nil, List.cons_append, List.nil_append] at h; omega
  dsimp only at hbs0 hbl0 hbz0 hbh0
  clear hA0 hval0
  simp only [List.append_nil] at hW'
  refine (spaceOwn_any W k0 s0 Al0 cl0 l0 hSl0 Az0 cz0 z0 hSz0 Ah0 ch0 h90 hSh0 (by omega) (by omega) (by omega) (fun x hx => Nat.le_trans (hmz0 x hx).1 hB0)).mono fun e W' ⟨he, hf⟩ => ?_
  subst he
  exact ⟨_, rfl, _, _, _, [], _, [], hW', (trodAll_cons_mk (shut_bool Try.underlying4 true) trodAll_mk0), (trodAll_cons_mk (Below.trod laidOut (by kernel_rfl) (of_decide_eq_true (by kernel_rfl)) h0 hf.below0 hlt0) trodAll_mk0), rfl, hf.below0.frame _, fun h => by cases h⟩
theorem holds : Rows.SpaceOwnUptoSaid :=
  OpenClaim.holds_of_cond 3 Try.f3 rfl rfl rfl rfl rfl rfl rfl ⟨rfl, rfl, rfl, rfl, rfl⟩ rfl rfl rfl rfl rfl (by kernel_rfl) Try.func3 (by kernel_rfl)
    (of_decide_eq_true (by kernel_rfl)) (by unfold Func.isWrapper; first | (rw [if_pos (by decide +kernel)]; kernel_rfl) | (rw [if_neg (by decide +kernel)]; exact ⟨rfl, rfl⟩))
    (fun os started H enc _ F => lifted os started H enc F)
end Go.Proofs.Ytjkegckfncfoaaa.ofSpaceOwn
namespace Go.Proofs.Ytjkegckfncfoaaa
theorem spaceOwnUpto_holds : Rows.SpaceOwnUptoSaid := ofSpaceOwn.holds
end Go.Proofs.Ytjkegckfncfoaaa
