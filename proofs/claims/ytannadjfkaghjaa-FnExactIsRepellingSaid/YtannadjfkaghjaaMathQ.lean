/- Plain mathematics, no program in sight: Q. -/
import Derived.Test.YtannadjfkaghjaaMathRat
namespace Go.Proofs.Ytannadjfkaghjaa.Math
/-- A fraction's value. -/
def q (n d : Int) : Rat := (n : Rat) / (d : Rat)
theorem cast_pos {b : Int} (h : 0 < b) : (0 : Rat) < (b : Rat) := by
 have := (Rat.intCast_lt_intCast (a := 0) (b := b)).2 h
 simpa using this
theorem q_lt {a b c d : Int} (hb : 0 < b) (hd : 0 < d) : q a b < q c d ↔ a * d < c * b := by
 have hb' := cast_pos hb
 have hd' := cast_pos hd
 unfold q
 rw [Rat.div_lt_iff hb', show (c : Rat) / (d : Rat) * (b : Rat) = (c : Rat) * b / d by rw [Rat.div_def, Rat.div_def, Rat.mul_assoc, Rat.mul_comm (d : Rat)⁻¹, ← Rat.mul_assoc], Rat.lt_div_iff hd', ← Rat.intCast_mul, ← Rat.intCast_mul, Rat.intCast_lt_intCast]
theorem q_le {a b c d : Int} (hb : 0 < b) (hd : 0 < d) : q a b ≤ q c d ↔ a * d ≤ c * b := by
 have h := q_lt (a := c) (b := d) (c := a) (d := b) hd hb
 rw [← Rat.not_lt, h]; omega
theorem q_eq {a b c d : Int} (hb : 0 < b) (hd : 0 < d) : q a b = q c d ↔ a * d = c * b := by
 have h1 := q_le (a := a) (b := b) (c := c) (d := d) hb hd
 have h2 := q_le (a := c) (b := d) (c := a) (d := b) hd hb
 constructor
 ·intro h
  have e1 := h1.1 (by rw [h]; exact Rat.le_refl)
  have e2 := h2.1 (by rw [h]; exact Rat.le_refl)
  omega
 ·intro h
  exact Rat.le_antisymm (h1.2 (by omega)) (h2.2 (by omega))
/-- Two valid fractions of one value are one. -/
theorem good_inj {a b c d : Int} (h1 : goodB a b = true) (h2 : goodB c d = true) (h : a * d = c * b) : a = c ∧ b = d := by
 obtain ⟨b1, _, _, _, g1⟩ := goodB_iff.1 h1
 obtain ⟨d1, _, _, _, g2⟩ := goodB_iff.1 h2
 have hn : a.natAbs * d.natAbs = c.natAbs * b.natAbs := by rw [← Int.natAbs_mul, ← Int.natAbs_mul, h]
 have c1 : Nat.Coprime b.natAbs a.natAbs := by rw [Nat.coprime_comm]; exact g1
 have c2 : Nat.Coprime d.natAbs c.natAbs := by rw [Nat.coprime_comm]; exact g2
 have e1 : b.natAbs ∣ d.natAbs := c1.dvd_of_dvd_mul_left ⟨c.natAbs, by rw [hn, Nat.mul_comm]⟩
 have e2 : d.natAbs ∣ b.natAbs := c2.dvd_of_dvd_mul_left ⟨a.natAbs, by rw [← hn, Nat.mul_comm]⟩
 have e3 := Nat.dvd_antisymm e1 e2
 have e4 : b = d := by omega
 subst e4
 refine ⟨?_, rfl⟩
 exact Int.eq_of_mul_eq_mul_right (by omega) h
theorem good_q {a b c d : Int} (h1 : goodB a b = true) (h2 : goodB c d = true) : (q a b = q c d) ↔ (a = c ∧ b = d) := by
 have b1 := (goodB_iff.1 h1).1
 have d1 := (goodB_iff.1 h2).1
 constructor
 ·intro h; exact good_inj h1 h2 ((q_eq (by omega) (by omega)).1 h)
 ·rintro ⟨rfl, rfl⟩; rfl
theorem good_lt {a b c d : Int} (h1 : goodB a b = true) (h2 : goodB c d = true) : a * d < c * b ↔ q a b < q c d := by
 have b1 := (goodB_iff.1 h1).1
 have d1 := (goodB_iff.1 h2).1
 exact (q_lt (by omega) (by omega)).symm
theorem cmpR_q {a b c d : Int} (h1 : goodB a b = true) (h2 : goodB c d = true) : cmpR a b c d = if q a b < q c d then -1 else if q c d < q a b then 1 else 0 := by
 unfold cmpR
 have e1 := good_lt h1 h2
 have e2 := good_lt h2 h1
 by_cases p : q a b < q c d
 ·rw [if_pos (e1.2 p), if_pos p]
 ·rw [if_neg (fun h => p (e1.1 h)), if_neg p]
  by_cases r : q c d < q a b
  ·rw [if_pos (e2.2 r), if_pos r]
  ·rw [if_neg (fun h => r (e2.1 h)), if_neg r]

end Go.Proofs.Ytannadjfkaghjaa.Math
