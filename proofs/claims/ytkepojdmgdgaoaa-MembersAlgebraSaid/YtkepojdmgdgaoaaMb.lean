/- Walks: Of. -/
import Derived.Test.YtkepojdmgdgaoaaProg
import Derived.Test.YtkepojdmgdgaoaaMa
namespace Go.Proofs.Ytkepojdmgdgaoaa
open Go.V Go.Base
open Go.RowKit (Below)
attribute [local irreducible] Act.put Act.eval
set_option linter.unusedVariables false
set_option linter.unusedSimpArgs false
set_option maxHeartbeats 4000000 in
set_option maxRecDepth 20000 in
theorem of_any (w : World) (Al : Option Addr) (cl : Nat) (l : List ByteArray) (hSl : SlR Rp.str (fun k => k < w.heap.size) w (.slice Al l.length cl) l) (hl : l.length ≤ 1099511627776) : Calls Try.prog 11 #[.slice Al l.length cl] w (fun e w' => ∃ A' c', e = .returned (.slice A' (setOf l).length c') ∧ OwR Rp.str NoZ w' w.heap.size 9 (.slice A' (setOf l).length c') (setOf l) ∧ Fr [] w w') := by
 have hF := Fr.refl [] w
 refine V.en 10 Try.func11 fun a h1 => ?_
 refine V.sr h1 [] 2 2 [] fun a h4 => ?_
 refine V.sg fun K5 k6 => ?_
 refine V.run h4 [] 1 1 0 [(4, .slice Al l.length cl)] fun a h7 => ?_
 refine V.cl h7 (Go.Proofs.enters_of Try.func35 (by kernel_rfl) rfl) (clone_any w (fun k => k < w.heap.size) Al cl l hSl (by omega)) ?_
 rintro _ w12 ⟨A8, c9, rfl, hO10, hF11⟩
 refine ⟨_, rfl, fun a h13 => ?_⟩
 have hsw12 := hF11.size
 have hF_14 := hF.new hF11
 have hSl_15 := hSl.fr0 hF11
 have hO10q := hO10.rebase (base' := w.heap.size) (by omega)
 refine V.re h13 [] 1 0 [(3, .slice A8 l.length c9)] fun a h16 => k6 _ _ ?_
 refine V.seq fun K17 k18 => ?_
 rcases own_cases hO10q with ⟨rfl, rfl, hz20⟩ | ⟨g19, rfl⟩
 ·
  refine V.rg ?_
  refine V.run h16 [] 1 1 0 [(6, .slice none l.length 0)] fun a h21 => ?_
  refine V.cl h21 (Go.Proofs.enters_of Try.func36 (by kernel_rfl) rfl) (sort_none none 0 l.length hz20) ?_
  rintro _ w23 ⟨rfl, hF22⟩
  refine ⟨_, rfl, fun a h24 => ?_⟩
  have hsw23 := hF22.size
  have hF_25 := hF_14.new hF22
  have hSl_26 := hSl_15.fr0 hF22
  refine V.nt (k18 _ _ ?_)
  refine V.sg fun K27 k28 => ?_
  refine V.run h24 [] 1 1 0 [(8, .slice none l.length 0)] fun a h29 => ?_
  refine V.cl h29 (Go.Proofs.enters_of Try.func37 (by kernel_rfl) rfl) (compact_none none 0 l.length hz20) ?_
  rintro _ w31 ⟨rfl, hF30⟩
  refine ⟨_, rfl, fun a h32 => ?_⟩
  have hsw31 := hF30.size
  have hF_33 := hF_25.new hF30
  have hSl_34 := hSl_26.fr0 hF30
  refine V.re h32 [] 1 0 [(2, .slice none 0 0)] fun a h35 => k28 _ _ ?_
  refine V.ret ?_
  refine V.r1 h35 (.slice none 0 0) ?_
  exact ⟨_, _, congrArg Ending.returned (sl_eq (by rw [List.eq_nil_of_length_eq_zero hz20, setOf_nil]; rfl)), by rw [List.eq_nil_of_length_eq_zero hz20, setOf_nil]; exact OwR.nil .., hF_33⟩
 ·
  have hltg := (hO10q.lt g19 rfl)
  refine V.rg ?_
  refine V.run h16 [] 1 1 0 [(6, .slice (some ⟨g19, 0, none⟩) l.length c9)] fun a h36 => ?_
  refine V.cl h36 (Go.Proofs.enters_of Try.func36 (by kernel_rfl) rfl) (sort_any hO10q (by omega)) ?_
  rintro _ w39 ⟨rfl, hO38, hF37⟩
  refine ⟨_, rfl, fun a h40 => ?_⟩
  have hsw39 := hF37.size
  have hF_41 := hF_14.own hF37 (by simp <;> omega)
  have hSl_42 := hSl_15.fr hF37 (by simp <;> omega)
  refine V.nt (k18 _ _ ?_)
  refine V.sg fun K43 k44 => ?_
  refine V.run h40 [] 1 1 0 [(8, .slice (some ⟨g19, 0, none⟩) l.length c9)] fun a h45 => ?_
  refine V.cl h45 (Go.Proofs.enters_of Try.func37 (by kernel_rfl) rfl) (compact_any (sortS l) _ (by rw [sort_len]) hO38 (by omega)) ?_
  rintro _ w48 ⟨rfl, hO47, hF46⟩
  refine ⟨_, rfl, fun a h49 => ?_⟩
  have hsw48 := hF46.size
  have hF_50 := hF_41.own hF46 (by simp <;> omega)
  have hSl_51 := hSl_42.fr hF46 (by simp <;> omega)
  refine V.re h49 [] 1 0 [(2, .slice (some ⟨g19, 0, none⟩) (((Lib.compact (sortS l)).map ofL).length) c9)] fun a h52 => k44 _ _ ?_
  refine V.ret ?_
  refine V.r1 h52 (.slice (some ⟨g19, 0, none⟩) (((Lib.compact (sortS l)).map ofL).length) c9) ?_
  exact ⟨_, _, rfl, hO47, hF_50⟩
end Go.Proofs.Ytkepojdmgdgaoaa
