/- Plain mathematics, no program in sight: RatOps. -/
import Derived.Test.YtannadjfkaghjaaMathRat
namespace Go.Proofs.Ytannadjfkaghjaa.Math
def addR (a b c d : Int) : Int × Int × Bool := if (goodB a b && goodB c d) = true then mk (a * d + c * b) (b * d) else (0, 0, false)
def subR (a b c d : Int) : Int × Int × Bool := if (goodB a b && goodB c d) = true then mk (a * d - c * b) (b * d) else (0, 0, false)
def mulR (a b c d : Int) : Int × Int × Bool := if (goodB a b && goodB c d) = true then mk (a * c) (b * d) else (0, 0, false)
def divR (a b c d : Int) : Int × Int × Bool := if (goodB a b && goodB c d) = true then (if c = 0 then (0, 0, false) else mk (a * d) (b * c)) else (0, 0, false)
theorem addR_neg (a b c d : Int) (hc : -9223372036854775808 ≤ c) (hc2 : c ≤ 9223372036854775807) : addR a b (Go.RowKit.wrap64 (-c)) d = subR a b c d := by
 by_cases h : c = -9223372036854775808
 ·subst h
  have e : Go.RowKit.wrap64 (-(-9223372036854775808)) = -9223372036854775808 := by unfold Go.RowKit.wrap64; omega
  have g : goodB (-9223372036854775808) d = false := by
   rw [Bool.eq_false_iff]; intro h; have := goodB_iff.1 h; omega
  rw [e]; simp [addR, subR, g]
 ·have e : Go.RowKit.wrap64 (-c) = -c := by unfold Go.RowKit.wrap64; omega
  rw [e]; simp only [addR, subR, goodB_neg]
  rw [show a * d + -c * b = a * d - c * b by rw [Int.neg_mul]; omega]

end Go.Proofs.Ytannadjfkaghjaa.Math
