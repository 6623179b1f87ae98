/- A stretch of a row, one element longer. -/
import Derived.Test.YtalhmegjomfbaaaRep
namespace Go.V
theorem take_at {α : Type} (R : Rp α) {l : List α} {k : Nat} (h : k < l.length) : l.take (k + 1) = l.take k ++ [at_ R l (k : Int)] := by
  rw [List.take_add_one, List.getElem?_eq_getElem h]
  have := at_some R (xs := l) (i := (k : Int)) (by omega) (by omega)
  rw [Int.toNat_natCast, List.getElem?_eq_getElem h] at this
  injection this with this
  rw [← this]; rfl
end Go.V
