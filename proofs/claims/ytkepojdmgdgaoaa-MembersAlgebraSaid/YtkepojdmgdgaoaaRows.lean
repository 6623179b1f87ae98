/-
  No cell of these rows narrows 'for every input' (looked for: loops, veiled, ifaces, maps, wideKeys, modest, calm, conditions, laid).
  DERIVED. THE GIVEN ROWS OF THIS SEAT. 7 by the template 'for every input the law returns true; each argument reads behind the call as it read before'; 0 by the template 'total and deterministic' (their statements: YtkepojdmgdgaoaaTotals.lean).
  GIVEN WITH THE SEED: the statements are not yours to turn. If you find one false, say at which input.
  Laid BY PROGRAM, IN A SANDBOX (cutbox-rows.mjs): the forced cells as the released guide's own fill.sh prints them over the translation 0057fbc2ee02ccc0… (all of the seat's roots in one cut). By AI agents, Wed Nov 11 2026. No macro, syntax, notation, axiom, sorry.
-/
import Derived.Test.YtkepojdmgdgaoaaChecked
import GoSem.Claim
import GoSem.ClaimJoined
import GoSem.ClaimMapViews
import Derived.JoinedTies
import Derived.KernelRfl
namespace Go.Proofs.Ytkepojdmgdgaoaa
/- THE CELL 'sum', in the pinned program and in every row, IS THE sha256 OF THE DUMP (.gsa) THAT YtkepojdmgdgaoaaProg.lean LOADS. Nothing in Lean hashes anything: it is a label: what it is worth is what the hold of that sum in a sandbox is worth. -/
noncomputable def Try.pinned : Pinned := { name := "ytkepojdmgdgaoaa", sum := "0057fbc2ee02ccc09552964302aab69298d2be4225c828413ebd659118c7e9f1", checked := Try.checked }
namespace Rows
def none {H : Type} : Left H := { results := [], args := [] }

/-- 'millpondlaw08.MembersSome': WHATEVER THE INPUT: true; the input reads as it did. -/
def membersSomeSpec : ChangeSpec := { name := "membersSome", fn := fun _ => fun
  | [d1, d2, d3] => { results := [.lit (.bool true)], args := [d1, d2, d3] }
  | _ => none }
def membersSomeRow : OpenClaim := { program := "ytkepojdmgdgaoaa", sum := "0057fbc2ee02ccc09552964302aab69298d2be4225c828413ebd659118c7e9f1", func := "millpond/millpondlaw08.MembersSome", spec := "membersSome", recurses := true, apart := false }
def MembersSomeSaid : Prop := membersSomeRow.holds Try.pinned (OpenSpec.ofChange membersSomeSpec)

/-- ITS FALSE NEIGHBOUR: 'it returns false'. Refute it at one input. -/
def membersSomeWrong : ChangeSpec := { name := "membersSome", fn := fun _ => fun
  | [d1, d2, d3] => { results := [.lit (.bool false)], args := [d1, d2, d3] }
  | _ => none }
def MembersSomeWrongFalsely : Prop := membersSomeRow.holds Try.pinned (OpenSpec.ofChange membersSomeWrong)

/-- 'millpondlaw08.MembersDraws': WHATEVER THE INPUT: true; the input reads as it did. -/
def membersDrawsSpec : ChangeSpec := { name := "membersDraws", fn := fun _ => fun
  | [d1, d2, d3] => { results := [.lit (.bool true)], args := [d1, d2, d3] }
  | _ => none }
def membersDrawsRow : OpenClaim := { program := "ytkepojdmgdgaoaa", sum := "0057fbc2ee02ccc09552964302aab69298d2be4225c828413ebd659118c7e9f1", func := "millpond/millpondlaw08.MembersDraws", spec := "membersDraws", recurses := true, apart := false }
def MembersDrawsSaid : Prop := membersDrawsRow.holds Try.pinned (OpenSpec.ofChange membersDrawsSpec)

/-- ITS FALSE NEIGHBOUR: 'it returns false'. Refute it at one input. -/
def membersDrawsWrong : ChangeSpec := { name := "membersDraws", fn := fun _ => fun
  | [d1, d2, d3] => { results := [.lit (.bool false)], args := [d1, d2, d3] }
  | _ => none }
def MembersDrawsWrongFalsely : Prop := membersDrawsRow.holds Try.pinned (OpenSpec.ofChange membersDrawsWrong)

/-- 'millpondlaw08.MembersMakes': WHATEVER THE INPUT: true; the input reads as it did. -/
def membersMakesSpec : ChangeSpec := { name := "membersMakes", fn := fun _ => fun
  | [d1, d2, d3] => { results := [.lit (.bool true)], args := [d1, d2, d3] }
  | _ => none }
def membersMakesRow : OpenClaim := { program := "ytkepojdmgdgaoaa", sum := "0057fbc2ee02ccc09552964302aab69298d2be4225c828413ebd659118c7e9f1", func := "millpond/millpondlaw08.MembersMakes", spec := "membersMakes", recurses := true, apart := false }
def MembersMakesSaid : Prop := membersMakesRow.holds Try.pinned (OpenSpec.ofChange membersMakesSpec)

/-- ITS FALSE NEIGHBOUR: 'it returns false'. Refute it at one input. -/
def membersMakesWrong : ChangeSpec := { name := "membersMakes", fn := fun _ => fun
  | [d1, d2, d3] => { results := [.lit (.bool false)], args := [d1, d2, d3] }
  | _ => none }
def MembersMakesWrongFalsely : Prop := membersMakesRow.holds Try.pinned (OpenSpec.ofChange membersMakesWrong)

/-- 'millpondlaw08.MembersChanges': WHATEVER THE INPUT: true; the input reads as it did. -/
def membersChangesSpec : ChangeSpec := { name := "membersChanges", fn := fun _ => fun
  | [d1, d2] => { results := [.lit (.bool true)], args := [d1, d2] }
  | _ => none }
def membersChangesRow : OpenClaim := { program := "ytkepojdmgdgaoaa", sum := "0057fbc2ee02ccc09552964302aab69298d2be4225c828413ebd659118c7e9f1", func := "millpond/millpondlaw08.MembersChanges", spec := "membersChanges", unfollowed := true, recurses := true, apart := false }
def MembersChangesSaid : Prop := membersChangesRow.holds Try.pinned (OpenSpec.ofChange membersChangesSpec)

/-- ITS FALSE NEIGHBOUR: 'it returns false'. Refute it at one input. -/
def membersChangesWrong : ChangeSpec := { name := "membersChanges", fn := fun _ => fun
  | [d1, d2] => { results := [.lit (.bool false)], args := [d1, d2] }
  | _ => none }
def MembersChangesWrongFalsely : Prop := membersChangesRow.holds Try.pinned (OpenSpec.ofChange membersChangesWrong)

/-- 'millpondlaw08.MembersOwn': WHATEVER THE INPUT: true; the input reads as it did. -/
def membersOwnSpec : ChangeSpec := { name := "membersOwn", fn := fun _ => fun
  | [d1, d2] => { results := [.lit (.bool true)], args := [d1, d2] }
  | _ => none }
def membersOwnRow : OpenClaim := { program := "ytkepojdmgdgaoaa", sum := "0057fbc2ee02ccc09552964302aab69298d2be4225c828413ebd659118c7e9f1", func := "millpond/millpondlaw08.MembersOwn", spec := "membersOwn", unfollowed := true, recurses := true, apart := false }
def MembersOwnSaid : Prop := membersOwnRow.holds Try.pinned (OpenSpec.ofChange membersOwnSpec)

/-- ITS FALSE NEIGHBOUR: 'it returns false'. Refute it at one input. -/
def membersOwnWrong : ChangeSpec := { name := "membersOwn", fn := fun _ => fun
  | [d1, d2] => { results := [.lit (.bool false)], args := [d1, d2] }
  | _ => none }
def MembersOwnWrongFalsely : Prop := membersOwnRow.holds Try.pinned (OpenSpec.ofChange membersOwnWrong)

/-- 'millpondlaw08.MembersMany': WHATEVER THE INPUT: true; the input reads as it did. -/
def membersManySpec : ChangeSpec := { name := "membersMany", fn := fun _ => fun
  | [d] => { results := [.lit (.bool true)], args := [d] }
  | _ => none }
def membersManyRow : OpenClaim := { program := "ytkepojdmgdgaoaa", sum := "0057fbc2ee02ccc09552964302aab69298d2be4225c828413ebd659118c7e9f1", func := "millpond/millpondlaw08.MembersMany", spec := "membersMany", unfollowed := true, recurses := true, apart := false }
def MembersManySaid : Prop := membersManyRow.holds Try.pinned (OpenSpec.ofChange membersManySpec)

/-- ITS FALSE NEIGHBOUR: 'it returns false'. Refute it at one input. -/
def membersManyWrong : ChangeSpec := { name := "membersMany", fn := fun _ => fun
  | [d] => { results := [.lit (.bool false)], args := [d] }
  | _ => none }
def MembersManyWrongFalsely : Prop := membersManyRow.holds Try.pinned (OpenSpec.ofChange membersManyWrong)

/-- 'millpondlaw08.MembersAlgebra': WHATEVER THE INPUT: true; the input reads as it did. -/
def membersAlgebraSpec : ChangeSpec := { name := "membersAlgebra", fn := fun _ => fun
  | [d1, d2, d3] => { results := [.lit (.bool true)], args := [d1, d2, d3] }
  | _ => none }
def membersAlgebraRow : OpenClaim := { program := "ytkepojdmgdgaoaa", sum := "0057fbc2ee02ccc09552964302aab69298d2be4225c828413ebd659118c7e9f1", func := "millpond/millpondlaw08.MembersAlgebra", spec := "membersAlgebra", unfollowed := true, recurses := true, apart := false }
def MembersAlgebraSaid : Prop := membersAlgebraRow.holds Try.pinned (OpenSpec.ofChange membersAlgebraSpec)

/-- ITS FALSE NEIGHBOUR: 'it returns false'. Refute it at one input. -/
def membersAlgebraWrong : ChangeSpec := { name := "membersAlgebra", fn := fun _ => fun
  | [d1, d2, d3] => { results := [.lit (.bool false)], args := [d1, d2, d3] }
  | _ => none }
def MembersAlgebraWrongFalsely : Prop := membersAlgebraRow.holds Try.pinned (OpenSpec.ofChange membersAlgebraWrong)

/- THE SECOND FORM. 'bulk': how many values and letters a reading holds, each counted each time it is reached (what is shared counts as often as it is met; a slice's spare places count too). A statement '..UptoSaid' is the law's where the arguments, and the package variables that the reading takes, are together of bulk at most 1048576: NARROWER than '..Said'. Prove '..Said' where nothing that the law and all that it calls make is longer than what came in: it says more and counts as full. Else prove '..UptoSaid'. A law counts once. -/
mutual
def uptoBulk {H : Type} : DataW H → Nat
  | .lit (.string bytes) => bytes.length + 1
  | .lit _ => 1
  | .nil => 1
  | .ptr d => uptoBulk d + 1
  | .slice elems spare => uptoBulkAll elems + uptoBulkAll spare + 1
  | .agg parts => uptoBulkAll parts + 1
  | .iface _ d => uptoBulk d + 1
  | .map entries => uptoBulkEntries entries + 1
  | .held _ => 1
def uptoBulkAll {H : Type} : List (DataW H) → Nat
  | [] => 0
  | d :: r => uptoBulk d + uptoBulkAll r
def uptoBulkEntries {H : Type} : List (Lit × DataW H) → Nat
  | [] => 0
  | x :: r => uptoBulkEntry x + uptoBulkEntries r
def uptoBulkEntry {H : Type} : Lit × DataW H → Nat
  | (.string bytes, d) => bytes.length + uptoBulk d + 1
  | (_, d) => uptoBulk d + 1
 end
def uptoSmall : (H : Type) → List (DataW H) → Bool := fun _ ds => decide (uptoBulkAll ds ≤ 1048576)
def OpenSpec.upto (s : _root_.Go.ChangeSpec) : _root_.Go.OpenSpec := { _root_.Go.OpenSpec.ofChange s with cond := some uptoSmall }

/-- 'millpondlaw08.MembersSome', WHERE WHAT IT READS IS OF BULK AT MOST 1048576: true; the input reads as it did. -/
def membersSomeUptoRow : OpenClaim := { program := "ytkepojdmgdgaoaa", sum := "0057fbc2ee02ccc09552964302aab69298d2be4225c828413ebd659118c7e9f1", func := "millpond/millpondlaw08.MembersSome", spec := "membersSome", recurses := true, apart := false, narrowed := true }
def MembersSomeUptoSaid : Prop := membersSomeUptoRow.holds Try.pinned (OpenSpec.upto membersSomeSpec)

/-- 'millpondlaw08.MembersDraws', WHERE WHAT IT READS IS OF BULK AT MOST 1048576: true; the input reads as it did. -/
def membersDrawsUptoRow : OpenClaim := { program := "ytkepojdmgdgaoaa", sum := "0057fbc2ee02ccc09552964302aab69298d2be4225c828413ebd659118c7e9f1", func := "millpond/millpondlaw08.MembersDraws", spec := "membersDraws", recurses := true, apart := false, narrowed := true }
def MembersDrawsUptoSaid : Prop := membersDrawsUptoRow.holds Try.pinned (OpenSpec.upto membersDrawsSpec)

/-- 'millpondlaw08.MembersMakes', WHERE WHAT IT READS IS OF BULK AT MOST 1048576: true; the input reads as it did. -/
def membersMakesUptoRow : OpenClaim := { program := "ytkepojdmgdgaoaa", sum := "0057fbc2ee02ccc09552964302aab69298d2be4225c828413ebd659118c7e9f1", func := "millpond/millpondlaw08.MembersMakes", spec := "membersMakes", recurses := true, apart := false, narrowed := true }
def MembersMakesUptoSaid : Prop := membersMakesUptoRow.holds Try.pinned (OpenSpec.upto membersMakesSpec)

/-- 'millpondlaw08.MembersChanges', WHERE WHAT IT READS IS OF BULK AT MOST 1048576: true; the input reads as it did. -/
def membersChangesUptoRow : OpenClaim := { program := "ytkepojdmgdgaoaa", sum := "0057fbc2ee02ccc09552964302aab69298d2be4225c828413ebd659118c7e9f1", func := "millpond/millpondlaw08.MembersChanges", spec := "membersChanges", unfollowed := true, recurses := true, apart := false, narrowed := true }
def MembersChangesUptoSaid : Prop := membersChangesUptoRow.holds Try.pinned (OpenSpec.upto membersChangesSpec)

/-- 'millpondlaw08.MembersOwn', WHERE WHAT IT READS IS OF BULK AT MOST 1048576: true; the input reads as it did. -/
def membersOwnUptoRow : OpenClaim := { program := "ytkepojdmgdgaoaa", sum := "0057fbc2ee02ccc09552964302aab69298d2be4225c828413ebd659118c7e9f1", func := "millpond/millpondlaw08.MembersOwn", spec := "membersOwn", unfollowed := true, recurses := true, apart := false, narrowed := true }
def MembersOwnUptoSaid : Prop := membersOwnUptoRow.holds Try.pinned (OpenSpec.upto membersOwnSpec)

/-- 'millpondlaw08.MembersMany', WHERE WHAT IT READS IS OF BULK AT MOST 1048576: true; the input reads as it did. -/
def membersManyUptoRow : OpenClaim := { program := "ytkepojdmgdgaoaa", sum := "0057fbc2ee02ccc09552964302aab69298d2be4225c828413ebd659118c7e9f1", func := "millpond/millpondlaw08.MembersMany", spec := "membersMany", unfollowed := true, recurses := true, apart := false, narrowed := true }
def MembersManyUptoSaid : Prop := membersManyUptoRow.holds Try.pinned (OpenSpec.upto membersManySpec)

/-- 'millpondlaw08.MembersAlgebra', WHERE WHAT IT READS IS OF BULK AT MOST 1048576: true; the input reads as it did. -/
def membersAlgebraUptoRow : OpenClaim := { program := "ytkepojdmgdgaoaa", sum := "0057fbc2ee02ccc09552964302aab69298d2be4225c828413ebd659118c7e9f1", func := "millpond/millpondlaw08.MembersAlgebra", spec := "membersAlgebra", unfollowed := true, recurses := true, apart := false, narrowed := true }
def MembersAlgebraUptoSaid : Prop := membersAlgebraUptoRow.holds Try.pinned (OpenSpec.upto membersAlgebraSpec)

end Rows
end Go.Proofs.Ytkepojdmgdgaoaa
