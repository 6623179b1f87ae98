/- A loop of a known number of rounds. -/
import Derived.Test.YtkepojdmgdgaoaaV
import Derived.LoopNIn
namespace Go.V
open Go.Plan (FW)
def Rnds (ro : Option Nat) (P : Program) (c : Code) (Q : Exit → Act → World → Prop) (m : Nat) (a : Act) (w : World) : Prop := Code.roundsIn (FW ro) 0 P c Q m a w
theorem loopR {ro : Option Nat} {P : Program} {c : Code} {Q : Exit → Act → World → Prop} {a : Act} {w : World} (m : Nat) (h : Rnds ro P c Q m a w) : Wp ro P (.loop c) Q a w := by unfold Wp; exact wpIn_loop_rounds m h
theorem rnd {ro : Option Nat} {P : Program} {c : Code} {Q : Exit → Act → World → Prop} {a : Act} {w : World} {m : Nat} (h : Wp ro P c (Exit.then (Rnds ro P c Q m) Q) a w) : Rnds ro P c Q (m + 1) a w := by unfold Wp at h; exact h
end Go.V
