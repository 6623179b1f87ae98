/-
  No cell of these rows narrows 'for every input' (looked for: loops, veiled, ifaces, maps, wideKeys, modest, calm, conditions, laid).
  DERIVED. THE GIVEN ROWS OF THIS SEAT. 6 by the template 'for every input the law returns true; each argument reads behind the call as it read before'; 0 by the template 'total and deterministic' (their statements: YtmlohijidjbbjaaTotals.lean).
  GIVEN WITH THE SEED: the statements are not yours to turn. If you find one false, say at which input.
  Laid BY PROGRAM, IN A SANDBOX (cutbox-rows.mjs): the forced cells as the released guide's own fill.sh prints them over the translation 29de4b3f3e5cbb8f… (all of the seat's roots in one cut). By AI agents, Wed Nov 11 2026. No macro, syntax, notation, axiom, sorry.
-/
import Derived.Test.YtmlohijidjbbjaaChecked
import GoSem.Claim
import GoSem.ClaimJoined
import GoSem.ClaimMapViews
import Derived.JoinedTies
import Derived.KernelRfl
namespace Go.Proofs.Ytmlohijidjbbjaa
/- THE CELL 'sum', in the pinned program and in every row, IS THE sha256 OF THE DUMP (.gsa) THAT YtmlohijidjbbjaaProg.lean LOADS. Nothing in Lean hashes anything: it is a label: what it is worth is what the hold of that sum in a sandbox is worth. -/
noncomputable def Try.pinned : Pinned := { name := "ytmlohijidjbbjaa", sum := "29de4b3f3e5cbb8fb047c40319211d199be0ddd97e265794892679cc8a0a4233", checked := Try.checked }
namespace Rows
def none {H : Type} : Left H := { results := [], args := [] }

/-- 'millpondlaw04.GlobMatches': WHATEVER THE INPUT: true; the input reads as it did. -/
def globMatchesSpec : ChangeSpec := { name := "globMatches", fn := fun _ => fun
  | [d1, d2, d3] => { results := [.lit (.bool true)], args := [d1, d2, d3] }
  | _ => none }
def globMatchesRow : OpenClaim := { program := "ytmlohijidjbbjaa", sum := "29de4b3f3e5cbb8fb047c40319211d199be0ddd97e265794892679cc8a0a4233", func := "millpond/millpondlaw04.GlobMatches", spec := "globMatches", unfollowed := true, recurses := true, apart := false }
def GlobMatchesSaid : Prop := globMatchesRow.holds Try.pinned (OpenSpec.ofChange globMatchesSpec)

/-- ITS FALSE NEIGHBOUR: 'it returns false'. Refute it at one input. -/
def globMatchesWrong : ChangeSpec := { name := "globMatches", fn := fun _ => fun
  | [d1, d2, d3] => { results := [.lit (.bool false)], args := [d1, d2, d3] }
  | _ => none }
def GlobMatchesWrongFalsely : Prop := globMatchesRow.holds Try.pinned (OpenSpec.ofChange globMatchesWrong)

/-- 'millpondlaw04.GlobBehind': WHATEVER THE INPUT: true; the input reads as it did. -/
def globBehindSpec : ChangeSpec := { name := "globBehind", fn := fun _ => fun
  | [d1, d2, d3, d4] => { results := [.lit (.bool true)], args := [d1, d2, d3, d4] }
  | _ => none }
def globBehindRow : OpenClaim := { program := "ytmlohijidjbbjaa", sum := "29de4b3f3e5cbb8fb047c40319211d199be0ddd97e265794892679cc8a0a4233", func := "millpond/millpondlaw04.GlobBehind", spec := "globBehind", unfollowed := true, recurses := true, apart := false }
def GlobBehindSaid : Prop := globBehindRow.holds Try.pinned (OpenSpec.ofChange globBehindSpec)

/-- ITS FALSE NEIGHBOUR: 'it returns false'. Refute it at one input. -/
def globBehindWrong : ChangeSpec := { name := "globBehind", fn := fun _ => fun
  | [d1, d2, d3, d4] => { results := [.lit (.bool false)], args := [d1, d2, d3, d4] }
  | _ => none }
def GlobBehindWrongFalsely : Prop := globBehindRow.holds Try.pinned (OpenSpec.ofChange globBehindWrong)

/-- 'millpondlaw04.GlobFilters': WHATEVER THE INPUT: true; the input reads as it did. -/
def globFiltersSpec : ChangeSpec := { name := "globFilters", fn := fun _ => fun
  | [d1, d2] => { results := [.lit (.bool true)], args := [d1, d2] }
  | _ => none }
def globFiltersRow : OpenClaim := { program := "ytmlohijidjbbjaa", sum := "29de4b3f3e5cbb8fb047c40319211d199be0ddd97e265794892679cc8a0a4233", func := "millpond/millpondlaw04.GlobFilters", spec := "globFilters", unfollowed := true, recurses := true, apart := false }
def GlobFiltersSaid : Prop := globFiltersRow.holds Try.pinned (OpenSpec.ofChange globFiltersSpec)

/-- ITS FALSE NEIGHBOUR: 'it returns false'. Refute it at one input. -/
def globFiltersWrong : ChangeSpec := { name := "globFilters", fn := fun _ => fun
  | [d1, d2] => { results := [.lit (.bool false)], args := [d1, d2] }
  | _ => none }
def GlobFiltersWrongFalsely : Prop := globFiltersRow.holds Try.pinned (OpenSpec.ofChange globFiltersWrong)

/-- 'millpondlaw04.GlobHeads': WHATEVER THE INPUT: true; the input reads as it did. -/
def globHeadsSpec : ChangeSpec := { name := "globHeads", fn := fun _ => fun
  | [d1, d2] => { results := [.lit (.bool true)], args := [d1, d2] }
  | _ => none }
def globHeadsRow : OpenClaim := { program := "ytmlohijidjbbjaa", sum := "29de4b3f3e5cbb8fb047c40319211d199be0ddd97e265794892679cc8a0a4233", func := "millpond/millpondlaw04.GlobHeads", spec := "globHeads", unfollowed := true, recurses := true, apart := false }
def GlobHeadsSaid : Prop := globHeadsRow.holds Try.pinned (OpenSpec.ofChange globHeadsSpec)

/-- ITS FALSE NEIGHBOUR: 'it returns false'. Refute it at one input. -/
def globHeadsWrong : ChangeSpec := { name := "globHeads", fn := fun _ => fun
  | [d1, d2] => { results := [.lit (.bool false)], args := [d1, d2] }
  | _ => none }
def GlobHeadsWrongFalsely : Prop := globHeadsRow.holds Try.pinned (OpenSpec.ofChange globHeadsWrong)

/-- 'millpondlaw04.GlobParts': WHATEVER THE INPUT: true; the input reads as it did. -/
def globPartsSpec : ChangeSpec := { name := "globParts", fn := fun _ => fun
  | [d] => { results := [.lit (.bool true)], args := [d] }
  | _ => none }
def globPartsRow : OpenClaim := { program := "ytmlohijidjbbjaa", sum := "29de4b3f3e5cbb8fb047c40319211d199be0ddd97e265794892679cc8a0a4233", func := "millpond/millpondlaw04.GlobParts", spec := "globParts", unfollowed := true, recurses := true, apart := false }
def GlobPartsSaid : Prop := globPartsRow.holds Try.pinned (OpenSpec.ofChange globPartsSpec)

/-- ITS FALSE NEIGHBOUR: 'it returns false'. Refute it at one input. -/
def globPartsWrong : ChangeSpec := { name := "globParts", fn := fun _ => fun
  | [d] => { results := [.lit (.bool false)], args := [d] }
  | _ => none }
def GlobPartsWrongFalsely : Prop := globPartsRow.holds Try.pinned (OpenSpec.ofChange globPartsWrong)

/-- 'millpondlaw04.GlobQuotes': WHATEVER THE INPUT: true; the input reads as it did. -/
def globQuotesSpec : ChangeSpec := { name := "globQuotes", fn := fun _ => fun
  | [d1, d2] => { results := [.lit (.bool true)], args := [d1, d2] }
  | _ => none }
def globQuotesRow : OpenClaim := { program := "ytmlohijidjbbjaa", sum := "29de4b3f3e5cbb8fb047c40319211d199be0ddd97e265794892679cc8a0a4233", func := "millpond/millpondlaw04.GlobQuotes", spec := "globQuotes", inPlace := ["internal/bytealg.IndexByteString", "internal/abi.NoEscape"], unfollowed := true, recurses := true, apart := false }
def GlobQuotesSaid : Prop := globQuotesRow.holds Try.pinned (OpenSpec.ofChange globQuotesSpec)

/-- ITS FALSE NEIGHBOUR: 'it returns false'. Refute it at one input. -/
def globQuotesWrong : ChangeSpec := { name := "globQuotes", fn := fun _ => fun
  | [d1, d2] => { results := [.lit (.bool false)], args := [d1, d2] }
  | _ => none }
def GlobQuotesWrongFalsely : Prop := globQuotesRow.holds Try.pinned (OpenSpec.ofChange globQuotesWrong)

/- THE SECOND FORM. 'bulk': how many values and letters a reading holds, each counted each time it is reached (what is shared counts as often as it is met; a slice's spare places count too). A statement '..UptoSaid' is the law's where the arguments, and the package variables that the reading takes, are together of bulk at most 1048576: NARROWER than '..Said'. Prove '..Said' where nothing that the law and all that it calls make is longer than what came in: it says more and counts as full. Else prove '..UptoSaid'. A law counts once. -/
mutual
def uptoBulk {H : Type} : DataW H → Nat
  | .lit (.string bytes) => bytes.length + 1
  | .lit _ => 1
  | .nil => 1
  | .ptr d => uptoBulk d + 1
  | .slice elems spare => uptoBulkAll elems + uptoBulkAll spare + 1
  | .agg parts => uptoBulkAll parts + 1
  | .iface _ d => uptoBulk d + 1
  | .map entries => uptoBulkEntries entries + 1
  | .held _ => 1
def uptoBulkAll {H : Type} : List (DataW H) → Nat
  | [] => 0
  | d :: r => uptoBulk d + uptoBulkAll r
def uptoBulkEntries {H : Type} : List (Lit × DataW H) → Nat
  | [] => 0
  | x :: r => uptoBulkEntry x + uptoBulkEntries r
def uptoBulkEntry {H : Type} : Lit × DataW H → Nat
  | (.string bytes, d) => bytes.length + uptoBulk d + 1
  | (_, d) => uptoBulk d + 1
 end
def uptoSmall : (H : Type) → List (DataW H) → Bool := fun _ ds => decide (uptoBulkAll ds ≤ 1048576)
def OpenSpec.upto (s : _root_.Go.ChangeSpec) : _root_.Go.OpenSpec := { _root_.Go.OpenSpec.ofChange s with cond := some uptoSmall }

/-- 'millpondlaw04.GlobMatches', WHERE WHAT IT READS IS OF BULK AT MOST 1048576: true; the input reads as it did. -/
def globMatchesUptoRow : OpenClaim := { program := "ytmlohijidjbbjaa", sum := "29de4b3f3e5cbb8fb047c40319211d199be0ddd97e265794892679cc8a0a4233", func := "millpond/millpondlaw04.GlobMatches", spec := "globMatches", unfollowed := true, recurses := true, apart := false, narrowed := true }
def GlobMatchesUptoSaid : Prop := globMatchesUptoRow.holds Try.pinned (OpenSpec.upto globMatchesSpec)

/-- 'millpondlaw04.GlobBehind', WHERE WHAT IT READS IS OF BULK AT MOST 1048576: true; the input reads as it did. -/
def globBehindUptoRow : OpenClaim := { program := "ytmlohijidjbbjaa", sum := "29de4b3f3e5cbb8fb047c40319211d199be0ddd97e265794892679cc8a0a4233", func := "millpond/millpondlaw04.GlobBehind", spec := "globBehind", unfollowed := true, recurses := true, apart := false, narrowed := true }
def GlobBehindUptoSaid : Prop := globBehindUptoRow.holds Try.pinned (OpenSpec.upto globBehindSpec)

/-- 'millpondlaw04.GlobFilters', WHERE WHAT IT READS IS OF BULK AT MOST 1048576: true; the input reads as it did. -/
def globFiltersUptoRow : OpenClaim := { program := "ytmlohijidjbbjaa", sum := "29de4b3f3e5cbb8fb047c40319211d199be0ddd97e265794892679cc8a0a4233", func := "millpond/millpondlaw04.GlobFilters", spec := "globFilters", unfollowed := true, recurses := true, apart := false, narrowed := true }
def GlobFiltersUptoSaid : Prop := globFiltersUptoRow.holds Try.pinned (OpenSpec.upto globFiltersSpec)

/-- 'millpondlaw04.GlobHeads', WHERE WHAT IT READS IS OF BULK AT MOST 1048576: true; the input reads as it did. -/
def globHeadsUptoRow : OpenClaim := { program := "ytmlohijidjbbjaa", sum := "29de4b3f3e5cbb8fb047c40319211d199be0ddd97e265794892679cc8a0a4233", func := "millpond/millpondlaw04.GlobHeads", spec := "globHeads", unfollowed := true, recurses := true, apart := false, narrowed := true }
def GlobHeadsUptoSaid : Prop := globHeadsUptoRow.holds Try.pinned (OpenSpec.upto globHeadsSpec)

/-- 'millpondlaw04.GlobParts', WHERE WHAT IT READS IS OF BULK AT MOST 1048576: true; the input reads as it did. -/
def globPartsUptoRow : OpenClaim := { program := "ytmlohijidjbbjaa", sum := "29de4b3f3e5cbb8fb047c40319211d199be0ddd97e265794892679cc8a0a4233", func := "millpond/millpondlaw04.GlobParts", spec := "globParts", unfollowed := true, recurses := true, apart := false, narrowed := true }
def GlobPartsUptoSaid : Prop := globPartsUptoRow.holds Try.pinned (OpenSpec.upto globPartsSpec)

/-- 'millpondlaw04.GlobQuotes', WHERE WHAT IT READS IS OF BULK AT MOST 1048576: true; the input reads as it did. -/
def globQuotesUptoRow : OpenClaim := { program := "ytmlohijidjbbjaa", sum := "29de4b3f3e5cbb8fb047c40319211d199be0ddd97e265794892679cc8a0a4233", func := "millpond/millpondlaw04.GlobQuotes", spec := "globQuotes", inPlace := ["internal/bytealg.IndexByteString", "internal/abi.NoEscape"], unfollowed := true, recurses := true, apart := false, narrowed := true }
def GlobQuotesUptoSaid : Prop := globQuotesUptoRow.holds Try.pinned (OpenSpec.upto globQuotesSpec)

end Rows
end Go.Proofs.Ytmlohijidjbbjaa
