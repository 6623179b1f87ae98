/-
  No cell of these rows narrows 'for every input' (looked for: loops, veiled, ifaces, maps, wideKeys, modest, calm, conditions, laid).
  DERIVED. THE GIVEN ROWS OF THIS SEAT. 7 by the template 'for every input the law returns true; each argument reads behind the call as it read before'; 0 by the template 'total and deterministic' (their statements: YtalhmegjomfbaaaTotals.lean).
  GIVEN WITH THE SEED: the statements are not yours to turn. If you find one false, say at which input.
  Laid BY PROGRAM, IN A SANDBOX (cutbox-rows.mjs): the forced cells as the released guide's own fill.sh prints them over the translation 5ccbb09fa5409bfd… (all of the seat's roots in one cut). By AI agents, Wed Nov 11 2026. No macro, syntax, notation, axiom, sorry.
-/
import Derived.Test.YtalhmegjomfbaaaChecked
import GoSem.Claim
import GoSem.ClaimJoined
import GoSem.ClaimMapViews
import Derived.JoinedTies
import Derived.KernelRfl
namespace Go.Proofs.Ytalhmegjomfbaaa
/- THE CELL 'sum', in the pinned program and in every row, IS THE sha256 OF THE DUMP (.gsa) THAT YtalhmegjomfbaaaProg.lean LOADS. Nothing in Lean hashes anything: it is a label: what it is worth is what the hold of that sum in a sandbox is worth. -/
noncomputable def Try.pinned : Pinned := { name := "ytalhmegjomfbaaa", sum := "5ccbb09fa5409bfd11da3131c1942c4784bac68164c455de1ffbb6947ffdd7f6", checked := Try.checked }
namespace Rows
def none {H : Type} : Left H := { results := [], args := [] }

/-- 'millpondlaw05.TableHashes': WHATEVER THE INPUT: true; the input reads as it did. -/
def tableHashesSpec : ChangeSpec := { name := "tableHashes", fn := fun _ => fun
  | [d1, d2] => { results := [.lit (.bool true)], args := [d1, d2] }
  | _ => none }
def tableHashesRow : OpenClaim := { program := "ytalhmegjomfbaaa", sum := "5ccbb09fa5409bfd11da3131c1942c4784bac68164c455de1ffbb6947ffdd7f6", func := "millpond/millpondlaw05.TableHashes", spec := "tableHashes", unfollowed := true, recurses := true, apart := false }
def TableHashesSaid : Prop := tableHashesRow.holds Try.pinned (OpenSpec.ofChange tableHashesSpec)

/-- ITS FALSE NEIGHBOUR: 'it returns false'. Refute it at one input. -/
def tableHashesWrong : ChangeSpec := { name := "tableHashes", fn := fun _ => fun
  | [d1, d2] => { results := [.lit (.bool false)], args := [d1, d2] }
  | _ => none }
def TableHashesWrongFalsely : Prop := tableHashesRow.holds Try.pinned (OpenSpec.ofChange tableHashesWrong)

/-- 'millpondlaw05.TableRuns': WHATEVER THE INPUT: true; the input reads as it did. -/
def tableRunsSpec : ChangeSpec := { name := "tableRuns", fn := fun _ => fun
  | [d1, d2] => { results := [.lit (.bool true)], args := [d1, d2] }
  | _ => none }
def tableRunsRow : OpenClaim := { program := "ytalhmegjomfbaaa", sum := "5ccbb09fa5409bfd11da3131c1942c4784bac68164c455de1ffbb6947ffdd7f6", func := "millpond/millpondlaw05.TableRuns", spec := "tableRuns", unfollowed := true, recurses := true, apart := false }
def TableRunsSaid : Prop := tableRunsRow.holds Try.pinned (OpenSpec.ofChange tableRunsSpec)

/-- ITS FALSE NEIGHBOUR: 'it returns false'. Refute it at one input. -/
def tableRunsWrong : ChangeSpec := { name := "tableRuns", fn := fun _ => fun
  | [d1, d2] => { results := [.lit (.bool false)], args := [d1, d2] }
  | _ => none }
def TableRunsWrongFalsely : Prop := tableRunsRow.holds Try.pinned (OpenSpec.ofChange tableRunsWrong)

/-- 'millpondlaw05.TableValues': WHATEVER THE INPUT: true; the input reads as it did. -/
def tableValuesSpec : ChangeSpec := { name := "tableValues", fn := fun _ => fun
  | [d1, d2, d3] => { results := [.lit (.bool true)], args := [d1, d2, d3] }
  | _ => none }
def tableValuesRow : OpenClaim := { program := "ytalhmegjomfbaaa", sum := "5ccbb09fa5409bfd11da3131c1942c4784bac68164c455de1ffbb6947ffdd7f6", func := "millpond/millpondlaw05.TableValues", spec := "tableValues", unfollowed := true, recurses := true, apart := false }
def TableValuesSaid : Prop := tableValuesRow.holds Try.pinned (OpenSpec.ofChange tableValuesSpec)

/-- ITS FALSE NEIGHBOUR: 'it returns false'. Refute it at one input. -/
def tableValuesWrong : ChangeSpec := { name := "tableValues", fn := fun _ => fun
  | [d1, d2, d3] => { results := [.lit (.bool false)], args := [d1, d2, d3] }
  | _ => none }
def TableValuesWrongFalsely : Prop := tableValuesRow.holds Try.pinned (OpenSpec.ofChange tableValuesWrong)

/-- 'millpondlaw05.TableGrows': WHATEVER THE INPUT: true; the input reads as it did. -/
def tableGrowsSpec : ChangeSpec := { name := "tableGrows", fn := fun _ => fun
  | [d1, d2] => { results := [.lit (.bool true)], args := [d1, d2] }
  | _ => none }
def tableGrowsRow : OpenClaim := { program := "ytalhmegjomfbaaa", sum := "5ccbb09fa5409bfd11da3131c1942c4784bac68164c455de1ffbb6947ffdd7f6", func := "millpond/millpondlaw05.TableGrows", spec := "tableGrows", unfollowed := true, recurses := true, apart := false }
def TableGrowsSaid : Prop := tableGrowsRow.holds Try.pinned (OpenSpec.ofChange tableGrowsSpec)

/-- ITS FALSE NEIGHBOUR: 'it returns false'. Refute it at one input. -/
def tableGrowsWrong : ChangeSpec := { name := "tableGrows", fn := fun _ => fun
  | [d1, d2] => { results := [.lit (.bool false)], args := [d1, d2] }
  | _ => none }
def TableGrowsWrongFalsely : Prop := tableGrowsRow.holds Try.pinned (OpenSpec.ofChange tableGrowsWrong)

/-- 'millpondlaw05.TableAny': WHATEVER THE INPUT: true; the input reads as it did. -/
def tableAnySpec : ChangeSpec := { name := "tableAny", fn := fun _ => fun
  | [d1, d2] => { results := [.lit (.bool true)], args := [d1, d2] }
  | _ => none }
def tableAnyRow : OpenClaim := { program := "ytalhmegjomfbaaa", sum := "5ccbb09fa5409bfd11da3131c1942c4784bac68164c455de1ffbb6947ffdd7f6", func := "millpond/millpondlaw05.TableAny", spec := "tableAny", unfollowed := true, recurses := true, apart := false }
def TableAnySaid : Prop := tableAnyRow.holds Try.pinned (OpenSpec.ofChange tableAnySpec)

/-- ITS FALSE NEIGHBOUR: 'it returns false'. Refute it at one input. -/
def tableAnyWrong : ChangeSpec := { name := "tableAny", fn := fun _ => fun
  | [d1, d2] => { results := [.lit (.bool false)], args := [d1, d2] }
  | _ => none }
def TableAnyWrongFalsely : Prop := tableAnyRow.holds Try.pinned (OpenSpec.ofChange tableAnyWrong)

/-- 'millpondlaw05.TableMaps': WHATEVER THE INPUT: true; the input reads as it did. -/
def tableMapsSpec : ChangeSpec := { name := "tableMaps", fn := fun _ => fun
  | [d1, d2, d3] => { results := [.lit (.bool true)], args := [d1, d2, d3] }
  | _ => none }
def tableMapsRow : OpenClaim := { program := "ytalhmegjomfbaaa", sum := "5ccbb09fa5409bfd11da3131c1942c4784bac68164c455de1ffbb6947ffdd7f6", func := "millpond/millpondlaw05.TableMaps", spec := "tableMaps", unfollowed := true, recurses := true, apart := false }
def TableMapsSaid : Prop := tableMapsRow.holds Try.pinned (OpenSpec.ofChange tableMapsSpec)

/-- ITS FALSE NEIGHBOUR: 'it returns false'. Refute it at one input. -/
def tableMapsWrong : ChangeSpec := { name := "tableMaps", fn := fun _ => fun
  | [d1, d2, d3] => { results := [.lit (.bool false)], args := [d1, d2, d3] }
  | _ => none }
def TableMapsWrongFalsely : Prop := tableMapsRow.holds Try.pinned (OpenSpec.ofChange tableMapsWrong)

/-- 'millpondlaw05.TableNobody': WHATEVER THE INPUT: true; the input reads as it did. -/
def tableNobodySpec : ChangeSpec := { name := "tableNobody", fn := fun _ => fun
  | [d1, d2] => { results := [.lit (.bool true)], args := [d1, d2] }
  | _ => none }
def tableNobodyRow : OpenClaim := { program := "ytalhmegjomfbaaa", sum := "5ccbb09fa5409bfd11da3131c1942c4784bac68164c455de1ffbb6947ffdd7f6", func := "millpond/millpondlaw05.TableNobody", spec := "tableNobody", unfollowed := true, recurses := true, apart := false }
def TableNobodySaid : Prop := tableNobodyRow.holds Try.pinned (OpenSpec.ofChange tableNobodySpec)

/-- ITS FALSE NEIGHBOUR: 'it returns false'. Refute it at one input. -/
def tableNobodyWrong : ChangeSpec := { name := "tableNobody", fn := fun _ => fun
  | [d1, d2] => { results := [.lit (.bool false)], args := [d1, d2] }
  | _ => none }
def TableNobodyWrongFalsely : Prop := tableNobodyRow.holds Try.pinned (OpenSpec.ofChange tableNobodyWrong)

/- THE SECOND FORM. 'bulk': how many values and letters a reading holds, each counted each time it is reached (what is shared counts as often as it is met; a slice's spare places count too). A statement '..UptoSaid' is the law's where the arguments, and the package variables that the reading takes, are together of bulk at most 1048576: NARROWER than '..Said'. Prove '..Said' where nothing that the law and all that it calls make is longer than what came in: it says more and counts as full. Else prove '..UptoSaid'. A law counts once. -/
mutual
def uptoBulk {H : Type} : DataW H → Nat
  | .lit (.string bytes) => bytes.length + 1
  | .lit _ => 1
  | .nil => 1
  | .ptr d => uptoBulk d + 1
  | .slice elems spare => uptoBulkAll elems + uptoBulkAll spare + 1
  | .agg parts => uptoBulkAll parts + 1
  | .iface _ d => uptoBulk d + 1
  | .map entries => uptoBulkEntries entries + 1
  | .held _ => 1
def uptoBulkAll {H : Type} : List (DataW H) → Nat
  | [] => 0
  | d :: r => uptoBulk d + uptoBulkAll r
def uptoBulkEntries {H : Type} : List (Lit × DataW H) → Nat
  | [] => 0
  | x :: r => uptoBulkEntry x + uptoBulkEntries r
def uptoBulkEntry {H : Type} : Lit × DataW H → Nat
  | (.string bytes, d) => bytes.length + uptoBulk d + 1
  | (_, d) => uptoBulk d + 1
 end
def uptoSmall : (H : Type) → List (DataW H) → Bool := fun _ ds => decide (uptoBulkAll ds ≤ 1048576)
def OpenSpec.upto (s : _root_.Go.ChangeSpec) : _root_.Go.OpenSpec := { _root_.Go.OpenSpec.ofChange s with cond := some uptoSmall }

/-- 'millpondlaw05.TableHashes', WHERE WHAT IT READS IS OF BULK AT MOST 1048576: true; the input reads as it did. -/
def tableHashesUptoRow : OpenClaim := { program := "ytalhmegjomfbaaa", sum := "5ccbb09fa5409bfd11da3131c1942c4784bac68164c455de1ffbb6947ffdd7f6", func := "millpond/millpondlaw05.TableHashes", spec := "tableHashes", unfollowed := true, recurses := true, apart := false, narrowed := true }
def TableHashesUptoSaid : Prop := tableHashesUptoRow.holds Try.pinned (OpenSpec.upto tableHashesSpec)

/-- 'millpondlaw05.TableRuns', WHERE WHAT IT READS IS OF BULK AT MOST 1048576: true; the input reads as it did. -/
def tableRunsUptoRow : OpenClaim := { program := "ytalhmegjomfbaaa", sum := "5ccbb09fa5409bfd11da3131c1942c4784bac68164c455de1ffbb6947ffdd7f6", func := "millpond/millpondlaw05.TableRuns", spec := "tableRuns", unfollowed := true, recurses := true, apart := false, narrowed := true }
def TableRunsUptoSaid : Prop := tableRunsUptoRow.holds Try.pinned (OpenSpec.upto tableRunsSpec)

/-- 'millpondlaw05.TableValues', WHERE WHAT IT READS IS OF BULK AT MOST 1048576: true; the input reads as it did. -/
def tableValuesUptoRow : OpenClaim := { program := "ytalhmegjomfbaaa", sum := "5ccbb09fa5409bfd11da3131c1942c4784bac68164c455de1ffbb6947ffdd7f6", func := "millpond/millpondlaw05.TableValues", spec := "tableValues", unfollowed := true, recurses := true, apart := false, narrowed := true }
def TableValuesUptoSaid : Prop := tableValuesUptoRow.holds Try.pinned (OpenSpec.upto tableValuesSpec)

/-- 'millpondlaw05.TableGrows', WHERE WHAT IT READS IS OF BULK AT MOST 1048576: true; the input reads as it did. -/
def tableGrowsUptoRow : OpenClaim := { program := "ytalhmegjomfbaaa", sum := "5ccbb09fa5409bfd11da3131c1942c4784bac68164c455de1ffbb6947ffdd7f6", func := "millpond/millpondlaw05.TableGrows", spec := "tableGrows", unfollowed := true, recurses := true, apart := false, narrowed := true }
def TableGrowsUptoSaid : Prop := tableGrowsUptoRow.holds Try.pinned (OpenSpec.upto tableGrowsSpec)

/-- 'millpondlaw05.TableAny', WHERE WHAT IT READS IS OF BULK AT MOST 1048576: true; the input reads as it did. -/
def tableAnyUptoRow : OpenClaim := { program := "ytalhmegjomfbaaa", sum := "5ccbb09fa5409bfd11da3131c1942c4784bac68164c455de1ffbb6947ffdd7f6", func := "millpond/millpondlaw05.TableAny", spec := "tableAny", unfollowed := true, recurses := true, apart := false, narrowed := true }
def TableAnyUptoSaid : Prop := tableAnyUptoRow.holds Try.pinned (OpenSpec.upto tableAnySpec)

/-- 'millpondlaw05.TableMaps', WHERE WHAT IT READS IS OF BULK AT MOST 1048576: true; the input reads as it did. -/
def tableMapsUptoRow : OpenClaim := { program := "ytalhmegjomfbaaa", sum := "5ccbb09fa5409bfd11da3131c1942c4784bac68164c455de1ffbb6947ffdd7f6", func := "millpond/millpondlaw05.TableMaps", spec := "tableMaps", unfollowed := true, recurses := true, apart := false, narrowed := true }
def TableMapsUptoSaid : Prop := tableMapsUptoRow.holds Try.pinned (OpenSpec.upto tableMapsSpec)

/-- 'millpondlaw05.TableNobody', WHERE WHAT IT READS IS OF BULK AT MOST 1048576: true; the input reads as it did. -/
def tableNobodyUptoRow : OpenClaim := { program := "ytalhmegjomfbaaa", sum := "5ccbb09fa5409bfd11da3131c1942c4784bac68164c455de1ffbb6947ffdd7f6", func := "millpond/millpondlaw05.TableNobody", spec := "tableNobody", unfollowed := true, recurses := true, apart := false, narrowed := true }
def TableNobodyUptoSaid : Prop := tableNobodyUptoRow.holds Try.pinned (OpenSpec.upto tableNobodySpec)

end Rows
end Go.Proofs.Ytalhmegjomfbaaa
