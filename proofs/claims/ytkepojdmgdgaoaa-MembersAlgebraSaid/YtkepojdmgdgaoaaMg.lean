/- Walks: a set of three. -/
import Derived.Test.YtkepojdmgdgaoaaProg
import Derived.Test.YtkepojdmgdgaoaaMd
import Derived.Test.YtkepojdmgdgaoaaMf
namespace Go.Proofs.Ytkepojdmgdgaoaa
open Go.V Go.Base
open Go.RowKit (Below)
attribute [local irreducible] Act.put Act.eval
set_option linter.unusedVariables false
set_option linter.unusedSimpArgs false
theorem lit3 {w : World} {b : Nat} {x y z : ByteArray} (hB : Blk w b [.string x, .string y, .string z] 9) : SlR Rp.str (fun _ => True) w (.slice (some ⟨b, 0, none⟩) 3 3) [x, y, z] := by
  refine ⟨_, 3, rfl, by simp, by simp, fun i u hi => ?_⟩
  have hlt : i < 3 := by have := (List.getElem?_eq_some_iff.1 hi).1; simpa using this
  refine ⟨b, 0, [.string u], rfl, trivial, hB.lt, rfl, fun j v hj => ?_⟩
  cases j with
  | zero =>
    simp at hj
    subst hj
    have h1 : Rp.str.sz = 1 := rfl
    rw [h1, Nat.mul_one, Nat.zero_add, Nat.add_zero]
    refine hB.at i ?_
    match i, hlt with
    | 0, _ => simp at hi; simp [hi]
    | 1, _ => simp at hi; simp [hi]
    | 2, _ => simp at hi; simp [hi]
  | succ j => simp at hj
set_option maxHeartbeats 4000000 in
set_option maxRecDepth 20000 in
theorem awake_any (w : World)  : Calls Try.prog 10 #[] w (fun e w' => e = .returned (.bool true) ∧ Fr [] w w') := by
 have hF := Fr.refl [] w
 have hlB : awB.length = 3 := rfl
 have hlC : awC.length = 2 := rfl
 refine V.en 51 Try.func10 fun a h1 => ?_
 refine V.sr h1 [] 0 0 [] fun a h4 => ?_
 refine V.sg fun K5 k6 => ?_
 refine V.go (V.mk [] trivial (by kernel_rfl) [.string ⟨#[98]⟩, .string ⟨#[97]⟩, .string ⟨#[98]⟩] 9 (fun b => .slice (some ⟨b, 0, none⟩) 3 3) (by kernel_rfl) ?_)
 intro w8 b7 heb7 hB9 hF10 hsb7
 have hF_11 := hF.new hF10
 refine V.pt h4 fun a h12 => ?_
 refine V.cl (av := #[.slice (some ⟨b7, 0, none⟩) 3 3]) h12 (Go.Proofs.enters_of Try.func11 (by kernel_rfl) rfl) (by (have h := of_any w8 _ _ [⟨#[98]⟩, ⟨#[97]⟩, ⟨#[98]⟩] (lit3 hB9).old (by decide); rw [aw_of] at h; exact h)) ?_
 rintro _ w17 ⟨A13, c14, rfl, hO15, hF16⟩
 refine ⟨_, rfl, fun a h18 => ?_⟩
 have hsw17 := hF16.size
 have hF_19 := hF_11.new hF16
 have hB9_20 := hB9.fr0 hF16
 have hO15q := hO15.rebase (base' := w.heap.size) (by omega)
 refine V.go (V.mk [] trivial (by kernel_rfl) [.string ⟨#[98]⟩, .string ⟨#[99]⟩, .string ⟨#[99]⟩] 9 (fun b => .slice (some ⟨b, 0, none⟩) 3 3) (by kernel_rfl) ?_)
 intro w22 b21 heb21 hB23 hF24 hsb21
 have hF_25 := hF_19.new hF24
 have hB9_26 := hB9_20.fr0 hF24
 have hO15q_27 := hO15q.fr0 hF24
 refine V.pt h18 fun a h28 => ?_
 have hS29 := hO15q_27.is
 refine V.cl (av := #[.slice A13 2 c14, .slice (some ⟨b21, 0, none⟩) 3 3]) h28 (Go.Proofs.enters_of Try.func24 (by kernel_rfl) rfl) (by (have h := add_any w22 _ _ awA hS29.old _ _ [⟨#[98]⟩, ⟨#[99]⟩, ⟨#[99]⟩] (lit3 hB23).old (by decide) (by decide); rw [aw_add, aw_addN, chk_inc awA_inc] at h; exact h)) ?_
 rintro _ w34 ⟨A30, c31, rfl, hO32, hF33⟩
 refine ⟨_, rfl, fun a h35 => ?_⟩
 have hsw34 := hF33.size
 have hF_36 := hF_25.new hF33
 have hB9_37 := hB9_26.fr0 hF33
 have hO15q_38 := hO15q_27.fr0 hF33
 have hB23_39 := hB23.fr0 hF33
 have hS29_40 := hS29.fr0 hF33
 have hO32q := hO32.rebase (base' := w.heap.size) (by omega)
 refine V.re h35 [] 6 13 [(1, .slice A30 3 c31), (2, .int .i64 1), (3, .int .i64 0)] fun a h41 => k6 _ _ ?_
 refine V.sg fun K42 k43 => ?_
 refine V.run h41 [] 1 1 0 [(15, .slice A30 3 c31)] fun a h44 => ?_
 have hS45 := hO32q.is
 refine V.cl (av := #[.slice A30 3 c31, .int .i64 2, .int .u64 5]) h44 (Go.Proofs.enters_of Try.func13 (by kernel_rfl) rfl) (by (have h := some_any w34 _ _ awB hS45.old 2 (by decide) 5 (by decide) (by decide); rw [aw_some, aw_someE] at h; exact h)) ?_
 rintro _ w50 ⟨A46, c47, rfl, hO48, hF49⟩
 refine ⟨_, rfl, fun a h51 => ?_⟩
 have hsw50 := hF49.size
 have hF_52 := hF_36.new hF49
 have hB9_53 := hB9_37.fr0 hF49
 have hO15q_54 := hO15q_38.fr0 hF49
 have hB23_55 := hB23_39.fr0 hF49
 have hS29_56 := hS29_40.fr0 hF49
 have hO32q_57 := hO32q.fr0 hF49
 have hS45_58 := hS45.fr0 hF49
 have hO48q := hO48.rebase (base' := w.heap.size) (by omega)
 refine V.re h51 [] 14 18 [(4, .slice A46 2 c47), (5, .int .i64 0)] fun a h59 => k43 _ _ ?_
 obtain ⟨g62, o63, hA64, hA64l, hA64z⟩ := hS45_58.addr (by omega)
 obtain ⟨cs65, hok66, hE67⟩ := hS45_58.els hA64 (2 : Int) (by omega) (by omega)
 obtain rfl : cs65 = [.string ⟨#[99]⟩] := hok66
 have hS68 := hO48q.is
 obtain ⟨g69, o70, hA71, hA71l, hA71z⟩ := hS68.addr (by omega)
 obtain ⟨cs72, hok73, hE74⟩ := hS68.els hA71 (0 : Int) (by omega) (by omega)
 obtain rfl : cs72 = [.string ⟨#[99]⟩] := hok73
 refine V.sr h59 [(17, .ix g62 o63 3 c31 .i64 2 1 hA64), (0, .l ⟨g62, o63 + (2 : Int).toNat * 1, none⟩ (.string ⟨#[99]⟩) (hE67.at 0 rfl)), (0, .q (.bool true) (V.t_ssame ⟨#[99]⟩)), (8, .ix g69 o70 2 c47 .i64 0 1 hA71), (0, .l ⟨g69, o70 + (0 : Int).toNat * 1, none⟩ (.string ⟨#[99]⟩) (hE74.at 0 rfl)), (0, .q (.bool true) (V.t_ssame ⟨#[99]⟩))] 19 50 [(0, .bool true)] fun a h75 => ?_
 refine V.ret ?_
 refine V.r1 h75 (.bool true) ?_
 exact ⟨rfl, hF_52⟩
end Go.Proofs.Ytkepojdmgdgaoaa
