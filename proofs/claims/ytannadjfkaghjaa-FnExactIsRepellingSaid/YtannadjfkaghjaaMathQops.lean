/- Plain mathematics, no program in sight: Qops. -/
import Derived.Test.YtannadjfkaghjaaMathQ
namespace Go.Proofs.Ytannadjfkaghjaa.Math
theorem cast_ne {d : Int} (h : d ≠ 0) : (d : Rat) ≠ 0 := by
 intro e
 exact h (Rat.intCast_inj.1 (by simpa using e))
/-- What was made has the value that was asked for. -/
theorem q_mk {num den n d : Int} (h0 : den ≠ 0) (h : mk num den = (n, d, true)) : q n d = (num : Rat) / (den : Rat) := by
 have hd : d ≠ 0 := by have := (goodB_iff.1 (mk_good h)).1; omega
 have e := mk_val h0 h
 have e2 : (n : Rat) * (den : Rat) = (num : Rat) * (d : Rat) := by rw [← Rat.intCast_mul, ← Rat.intCast_mul, e]
 have h1 := Rat.mul_inv_cancel (d : Rat) (cast_ne hd)
 have h2 := Rat.mul_inv_cancel (den : Rat) (cast_ne h0)
 unfold q
 rw [Rat.div_def, Rat.div_def]
 grind
theorem q_sub {a b c d n m : Int} (hb : b ≠ 0) (hd : d ≠ 0) (h : mk (a * d - c * b) (b * d) = (n, m, true)) : q n m = q a b - q c d := by
 rw [q_mk (Int.mul_ne_zero hb hd) h]
 have h1 := Rat.mul_inv_cancel (b : Rat) (cast_ne hb)
 have h2 := Rat.mul_inv_cancel (d : Rat) (cast_ne hd)
 have h3 := Rat.mul_inv_cancel ((b * d : Int) : Rat) (cast_ne (Int.mul_ne_zero hb hd))
 unfold q
 rw [Rat.div_def, Rat.div_def, Rat.div_def]
 rw [Rat.intCast_mul] at h3 ⊢
 rw [Rat.intCast_sub, Rat.intCast_mul, Rat.intCast_mul]
 grind
theorem q_add {a b c d n m : Int} (hb : b ≠ 0) (hd : d ≠ 0) (h : mk (a * d + c * b) (b * d) = (n, m, true)) : q n m = q a b + q c d := by
 rw [q_mk (Int.mul_ne_zero hb hd) h]
 have h1 := Rat.mul_inv_cancel (b : Rat) (cast_ne hb)
 have h2 := Rat.mul_inv_cancel (d : Rat) (cast_ne hd)
 have h3 := Rat.mul_inv_cancel ((b * d : Int) : Rat) (cast_ne (Int.mul_ne_zero hb hd))
 unfold q
 rw [Rat.div_def, Rat.div_def, Rat.div_def]
 rw [Rat.intCast_mul] at h3 ⊢
 rw [Rat.intCast_add, Rat.intCast_mul, Rat.intCast_mul]
 grind
theorem q_mul {a b c d n m : Int} (hb : b ≠ 0) (hd : d ≠ 0) (h : mk (a * c) (b * d) = (n, m, true)) : q n m = q a b * q c d := by
 rw [q_mk (Int.mul_ne_zero hb hd) h]
 have h1 := Rat.mul_inv_cancel (b : Rat) (cast_ne hb)
 have h2 := Rat.mul_inv_cancel (d : Rat) (cast_ne hd)
 have h3 := Rat.mul_inv_cancel ((b * d : Int) : Rat) (cast_ne (Int.mul_ne_zero hb hd))
 unfold q
 rw [Rat.div_def, Rat.div_def, Rat.div_def]
 rw [Rat.intCast_mul] at h3 ⊢
 rw [Rat.intCast_mul]
 grind
theorem q_div {a b c d n m : Int} (hb : b ≠ 0) (hc : c ≠ 0) (hd : d ≠ 0) (h : mk (a * d) (b * c) = (n, m, true)) : q n m = q a b / q c d := by
 rw [q_mk (Int.mul_ne_zero hb hc) h]
 have h1 := Rat.mul_inv_cancel (b : Rat) (cast_ne hb)
 have h2 := Rat.mul_inv_cancel (d : Rat) (cast_ne hd)
 have h4 := Rat.mul_inv_cancel (c : Rat) (cast_ne hc)
 have h3 := Rat.mul_inv_cancel ((b * c : Int) : Rat) (cast_ne (Int.mul_ne_zero hb hc))
 unfold q
 rw [Rat.div_def, Rat.div_def, Rat.div_def, Rat.div_def]
 rw [Rat.intCast_mul] at h3 ⊢
 rw [Rat.intCast_mul]
 have h5 : ((c : Rat) * (d : Rat)⁻¹) ≠ 0 := by
  intro e
  have : (c : Rat) = 0 := by grind
  exact cast_ne hc this
 have h6 := Rat.mul_inv_cancel _ h5
 grind

end Go.Proofs.Ytannadjfkaghjaa.Math
