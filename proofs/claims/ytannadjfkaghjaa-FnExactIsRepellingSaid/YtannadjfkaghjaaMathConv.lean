/- Plain mathematics, no program in sight: Conv. -/
import Derived.RowKit
namespace Go.Proofs.Ytannadjfkaghjaa.Math
/-- A value on a line between two points stays between 0 and 1. -/
theorem conv {X0 X1 x Y0 Y1 : Rat} (h : X0 < X1) (h0 : X0 ≤ x) (h1 : x ≤ X1) (a : 0 ≤ Y0) (b : Y0 ≤ 1) (c : 0 ≤ Y1) (d : Y1 ≤ 1) :
  0 ≤ Y0 + (x - X0) * ((Y1 - Y0) / (X1 - X0)) ∧ Y0 + (x - X0) * ((Y1 - Y0) / (X1 - X0)) ≤ 1 := by
 have hd : 0 < X1 - X0 := by grind
 obtain ⟨t, ht⟩ : ∃ t : Rat, t = (x - X0) / (X1 - X0) := ⟨_, rfl⟩
 have t0 : 0 ≤ t := by
  rw [ht, Rat.div_def]
  exact Rat.mul_nonneg (by grind) (Rat.le_of_lt (Rat.inv_pos.2 hd))
 have hne : X1 - X0 ≠ 0 := by grind
 have t1 : t ≤ 1 := by
  rw [ht]
  exact Rat.not_lt.1 fun hlt => by
   have := (Rat.lt_div_iff hd).1 hlt
   grind
 have e : (x - X0) * ((Y1 - Y0) / (X1 - X0)) = (Y1 - Y0) * t := by
  rw [ht, Rat.div_def, Rat.div_def]; grind
 rw [e]
 have m1 := Rat.mul_nonneg a (show 0 ≤ 1 - t by grind)
 have m2 := Rat.mul_nonneg c t0
 have m3 := Rat.mul_nonneg (show 0 ≤ 1 - Y0 by grind) (show 0 ≤ 1 - t by grind)
 have m4 := Rat.mul_nonneg (show 0 ≤ 1 - Y1 by grind) t0
 constructor <;> grind

end Go.Proofs.Ytannadjfkaghjaa.Math
