/- Two strings, one behind the other, under one letter. -/
import Derived.Test.YtmlohijidjbbjaaRep
namespace Go.V
open Go.Plan (FW wpL bind_ok NOk)
open Go.RowKit Go.Base
theorem catg {ro : Option Nat} {P : Program} {Q : Exit → Act → World → Prop} {a : Act} {w : World} {ops : Array Oper} {rest : List Oper} {d ty pos aft g}
    {t t' : TypeId} {x y : Operand} {s u z : ByteArray} (hz : z = s ++ u) (hx : a.eval x = .string s) (hy : a.eval y = .string u) (h : s.size + u.size ≤ 9223372036854775807) (k : L ro P ops Q rest (a.put d (.string z)) w) : St ro P ops Q rest ⟨d, .binOp .add t x y t', ty, pos, aft, g⟩ a w :=
  cat hx hy h (by rw [← hz]; exact k)
end Go.V
