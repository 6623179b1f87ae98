/-
  No cell of these rows narrows 'for every input' (looked for: loops, veiled, ifaces, maps, wideKeys, modest, calm, conditions, laid).
  DERIVED. THE GIVEN ROWS OF THIS SEAT. 4 by the template 'for every input the law returns true; each argument reads behind the call as it read before'; 0 by the template 'total and deterministic' (their statements: YtjkegckfncfoaaaGreatTotals.lean).
  GIVEN WITH THE SEED: the statements are not yours to turn. If you find one false, say at which input.
  Laid BY PROGRAM, IN A SANDBOX (cutbox-rows.mjs): the forced cells as the released guide's own fill.sh prints them over the translation a8cf7e5c439e74e5… (all of the seat's roots in one cut). By AI agents, Wed Nov 11 2026. No macro, syntax, notation, axiom, sorry.
-/
import Derived.Test.YtjkegckfncfoaaaGreatChecked
import GoSem.Claim
import GoSem.ClaimJoined
import GoSem.ClaimMapViews
import Derived.JoinedTies
import Derived.KernelRfl
namespace Go.Proofs.YtjkegckfncfoaaaGreat
/- THE CELL 'sum', in the pinned program and in every row, IS THE sha256 OF THE DUMP (.gsa) THAT YtjkegckfncfoaaaGreatProg.lean LOADS. Nothing in Lean hashes anything: it is a label: what it is worth is what the hold of that sum in a sandbox is worth. -/
noncomputable def Tryz.pinned : Pinned := { name := "ytjkegckfncfoaaagreat", sum := "a8cf7e5c439e74e5f7871f1e03313920e8be4cbd659c8a97904713ad24f86f42", checked := Tryz.checked }
namespace Rows
def none {H : Type} : Left H := { results := [], args := [] }

/-- 'millpondlaw10.SpaceSeen': WHATEVER THE INPUT: true; the input reads as it did. -/
def spaceSeenSpec : ChangeSpec := { name := "spaceSeen", fn := fun _ => fun
  | [d1, d2, d3] => { results := [.lit (.bool true)], args := [d1, d2, d3] }
  | _ => none }
def spaceSeenRow : OpenClaim := { program := "ytjkegckfncfoaaagreat", sum := "a8cf7e5c439e74e5f7871f1e03313920e8be4cbd659c8a97904713ad24f86f42", func := "millpond/millpondlaw10.SpaceSeen", spec := "spaceSeen", inPlace := ["internal/bytealg.abigen_runtime_cmpstring"], unfollowed := true, recurses := true, apart := false }
def SpaceSeenSaid : Prop := spaceSeenRow.holds Tryz.pinned (OpenSpec.ofChange spaceSeenSpec)

/-- ITS FALSE NEIGHBOUR: 'it returns false'. Refute it at one input. -/
def spaceSeenWrong : ChangeSpec := { name := "spaceSeen", fn := fun _ => fun
  | [d1, d2, d3] => { results := [.lit (.bool false)], args := [d1, d2, d3] }
  | _ => none }
def SpaceSeenWrongFalsely : Prop := spaceSeenRow.holds Tryz.pinned (OpenSpec.ofChange spaceSeenWrong)

/-- 'millpondlaw10.SpaceTold': WHATEVER THE INPUT: true; the input reads as it did. -/
def spaceToldSpec : ChangeSpec := { name := "spaceTold", fn := fun _ => fun
  | [d1, d2] => { results := [.lit (.bool true)], args := [d1, d2] }
  | _ => none }
def spaceToldRow : OpenClaim := { program := "ytjkegckfncfoaaagreat", sum := "a8cf7e5c439e74e5f7871f1e03313920e8be4cbd659c8a97904713ad24f86f42", func := "millpond/millpondlaw10.SpaceTold", spec := "spaceTold", inPlace := ["internal/bytealg.abigen_runtime_cmpstring"], unfollowed := true, recurses := true, apart := false }
def SpaceToldSaid : Prop := spaceToldRow.holds Tryz.pinned (OpenSpec.ofChange spaceToldSpec)

/-- ITS FALSE NEIGHBOUR: 'it returns false'. Refute it at one input. -/
def spaceToldWrong : ChangeSpec := { name := "spaceTold", fn := fun _ => fun
  | [d1, d2] => { results := [.lit (.bool false)], args := [d1, d2] }
  | _ => none }
def SpaceToldWrongFalsely : Prop := spaceToldRow.holds Tryz.pinned (OpenSpec.ofChange spaceToldWrong)

/-- 'millpondlaw10.SpaceNobody': WHATEVER THE INPUT: true; the input reads as it did. -/
def spaceNobodySpec : ChangeSpec := { name := "spaceNobody", fn := fun _ => fun
  | [d1, d2, d3] => { results := [.lit (.bool true)], args := [d1, d2, d3] }
  | _ => none }
def spaceNobodyRow : OpenClaim := { program := "ytjkegckfncfoaaagreat", sum := "a8cf7e5c439e74e5f7871f1e03313920e8be4cbd659c8a97904713ad24f86f42", func := "millpond/millpondlaw10.SpaceNobody", spec := "spaceNobody", inPlace := ["internal/bytealg.abigen_runtime_cmpstring"], unfollowed := true, recurses := true, apart := false }
def SpaceNobodySaid : Prop := spaceNobodyRow.holds Tryz.pinned (OpenSpec.ofChange spaceNobodySpec)

/-- ITS FALSE NEIGHBOUR: 'it returns false'. Refute it at one input. -/
def spaceNobodyWrong : ChangeSpec := { name := "spaceNobody", fn := fun _ => fun
  | [d1, d2, d3] => { results := [.lit (.bool false)], args := [d1, d2, d3] }
  | _ => none }
def SpaceNobodyWrongFalsely : Prop := spaceNobodyRow.holds Tryz.pinned (OpenSpec.ofChange spaceNobodyWrong)

/-- 'millpondlaw10.SpaceRuns': WHATEVER THE INPUT: true; the input reads as it did. -/
def spaceRunsSpec : ChangeSpec := { name := "spaceRuns", fn := fun _ => fun
  | [d1, d2] => { results := [.lit (.bool true)], args := [d1, d2] }
  | _ => none }
def spaceRunsRow : OpenClaim := { program := "ytjkegckfncfoaaagreat", sum := "a8cf7e5c439e74e5f7871f1e03313920e8be4cbd659c8a97904713ad24f86f42", func := "millpond/millpondlaw10.SpaceRuns", spec := "spaceRuns", inPlace := ["internal/bytealg.abigen_runtime_cmpstring"], unfollowed := true, recurses := true, apart := false }
def SpaceRunsSaid : Prop := spaceRunsRow.holds Tryz.pinned (OpenSpec.ofChange spaceRunsSpec)

/-- ITS FALSE NEIGHBOUR: 'it returns false'. Refute it at one input. -/
def spaceRunsWrong : ChangeSpec := { name := "spaceRuns", fn := fun _ => fun
  | [d1, d2] => { results := [.lit (.bool false)], args := [d1, d2] }
  | _ => none }
def SpaceRunsWrongFalsely : Prop := spaceRunsRow.holds Tryz.pinned (OpenSpec.ofChange spaceRunsWrong)

/- THE SECOND FORM. 'bulk': how many values and letters a reading holds, each counted each time it is reached (what is shared counts as often as it is met; a slice's spare places count too). A statement '..UptoSaid' is the law's where the arguments, and the package variables that the reading takes, are together of bulk at most 1048576: NARROWER than '..Said'. Prove '..Said' where nothing that the law and all that it calls make is longer than what came in: it says more and counts as full. Else prove '..UptoSaid'. A law counts once. -/
mutual
def uptoBulk {H : Type} : DataW H → Nat
  | .lit (.string bytes) => bytes.length + 1
  | .lit _ => 1
  | .nil => 1
  | .ptr d => uptoBulk d + 1
  | .slice elems spare => uptoBulkAll elems + uptoBulkAll spare + 1
  | .agg parts => uptoBulkAll parts + 1
  | .iface _ d => uptoBulk d + 1
  | .map entries => uptoBulkEntries entries + 1
  | .held _ => 1
def uptoBulkAll {H : Type} : List (DataW H) → Nat
  | [] => 0
  | d :: r => uptoBulk d + uptoBulkAll r
def uptoBulkEntries {H : Type} : List (Lit × DataW H) → Nat
  | [] => 0
  | x :: r => uptoBulkEntry x + uptoBulkEntries r
def uptoBulkEntry {H : Type} : Lit × DataW H → Nat
  | (.string bytes, d) => bytes.length + uptoBulk d + 1
  | (_, d) => uptoBulk d + 1
 end
def uptoSmall : (H : Type) → List (DataW H) → Bool := fun _ ds => decide (uptoBulkAll ds ≤ 1048576)
def OpenSpec.upto (s : _root_.Go.ChangeSpec) : _root_.Go.OpenSpec := { _root_.Go.OpenSpec.ofChange s with cond := some uptoSmall }

/-- 'millpondlaw10.SpaceSeen', WHERE WHAT IT READS IS OF BULK AT MOST 1048576: true; the input reads as it did. -/
def spaceSeenUptoRow : OpenClaim := { program := "ytjkegckfncfoaaagreat", sum := "a8cf7e5c439e74e5f7871f1e03313920e8be4cbd659c8a97904713ad24f86f42", func := "millpond/millpondlaw10.SpaceSeen", spec := "spaceSeen", inPlace := ["internal/bytealg.abigen_runtime_cmpstring"], unfollowed := true, recurses := true, apart := false, narrowed := true }
def SpaceSeenUptoSaid : Prop := spaceSeenUptoRow.holds Tryz.pinned (OpenSpec.upto spaceSeenSpec)

/-- 'millpondlaw10.SpaceTold', WHERE WHAT IT READS IS OF BULK AT MOST 1048576: true; the input reads as it did. -/
def spaceToldUptoRow : OpenClaim := { program := "ytjkegckfncfoaaagreat", sum := "a8cf7e5c439e74e5f7871f1e03313920e8be4cbd659c8a97904713ad24f86f42", func := "millpond/millpondlaw10.SpaceTold", spec := "spaceTold", inPlace := ["internal/bytealg.abigen_runtime_cmpstring"], unfollowed := true, recurses := true, apart := false, narrowed := true }
def SpaceToldUptoSaid : Prop := spaceToldUptoRow.holds Tryz.pinned (OpenSpec.upto spaceToldSpec)

/-- 'millpondlaw10.SpaceNobody', WHERE WHAT IT READS IS OF BULK AT MOST 1048576: true; the input reads as it did. -/
def spaceNobodyUptoRow : OpenClaim := { program := "ytjkegckfncfoaaagreat", sum := "a8cf7e5c439e74e5f7871f1e03313920e8be4cbd659c8a97904713ad24f86f42", func := "millpond/millpondlaw10.SpaceNobody", spec := "spaceNobody", inPlace := ["internal/bytealg.abigen_runtime_cmpstring"], unfollowed := true, recurses := true, apart := false, narrowed := true }
def SpaceNobodyUptoSaid : Prop := spaceNobodyUptoRow.holds Tryz.pinned (OpenSpec.upto spaceNobodySpec)

/-- 'millpondlaw10.SpaceRuns', WHERE WHAT IT READS IS OF BULK AT MOST 1048576: true; the input reads as it did. -/
def spaceRunsUptoRow : OpenClaim := { program := "ytjkegckfncfoaaagreat", sum := "a8cf7e5c439e74e5f7871f1e03313920e8be4cbd659c8a97904713ad24f86f42", func := "millpond/millpondlaw10.SpaceRuns", spec := "spaceRuns", inPlace := ["internal/bytealg.abigen_runtime_cmpstring"], unfollowed := true, recurses := true, apart := false, narrowed := true }
def SpaceRunsUptoSaid : Prop := spaceRunsUptoRow.holds Tryz.pinned (OpenSpec.upto spaceRunsSpec)

end Rows
end Go.Proofs.YtjkegckfncfoaaaGreat
