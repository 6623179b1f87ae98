/- A call's beginning, for a function with a range over a function. -/
import Derived.Test.YtalhmegjomfbaaaRun
import Derived.Test.YtalhmegjomfbaaaRng
namespace Go.V
open Go.Plan (FW wpL)
open Go.RowKit Go.Base
theorem enM {P : Program} {fn : Func} {S : Ending → World → Prop} {w : World} {f : FuncId} {c : Code} {l : List Value} (N : Nat) (hf : P.funcs[f]? = some fn) (h : ∀ a, En N [] a (argE 0 l) → Wp none P c (mPost P fn S) a w) (hb : fn.body = some c := by rfl) (hn : l.length + (fn.ntmps - l.length) = N := by rfl) : Calls P f l.toArray w S :=
  enterM N hf hb hn fun a hz ha => h a ⟨hz, fun t v hv => by
    have := lk_argE l 0 t v hv
    exact ha t v (by simpa using this.2)⟩
end Go.V
