/- Plain mathematics, no program in sight: Rat. -/
import Derived.RowKit
namespace Go.Proofs.Ytannadjfkaghjaa.Math
/-- A valid fraction. -/
def goodB (n d : Int) : Bool := decide (1 ≤ d ∧ d ≤ 1000000000 ∧ -1000000000 ≤ n ∧ n ≤ 1000000000 ∧ Int.gcd n d = 1)
theorem goodB_iff {n d : Int} : goodB n d = true ↔ 1 ≤ d ∧ d ≤ 1000000000 ∧ -1000000000 ≤ n ∧ n ≤ 1000000000 ∧ Int.gcd n d = 1 := by simp [goodB]
/-- A valid fraction from 0 to 1. -/
def unitB (n d : Int) : Bool := goodB n d && decide (0 ≤ n ∧ n ≤ d)
theorem unitB_iff {n d : Int} : unitB n d = true ↔ goodB n d = true ∧ 0 ≤ n ∧ n ≤ d := by simp [unitB]
/-- The common divisor, with the denominator's sign. -/
def sg (num den : Int) : Int := if den < 0 then -(Int.gcd num den : Int) else (Int.gcd num den : Int)
/-- num / den in lowest terms, and whether it is valid. -/
def mk (num den : Int) : Int × Int × Bool :=
 if goodB (num.tdiv (sg num den)) (den.tdiv (sg num den)) = true then (num.tdiv (sg num den), den.tdiv (sg num den), true) else (0, 0, false)
/-- How two fractions compare. -/
def cmpR (a b c d : Int) : Int := if a * d < c * b then -1 else if a * d > c * b then 1 else 0
theorem mul_bd {a b : Int} {M N : Int} (h1 : -M ≤ a) (h2 : a ≤ M) (h3 : -N ≤ b) (h4 : b ≤ N) : -(M * N) ≤ a * b ∧ a * b ≤ M * N := by
 have hM : 0 ≤ M := by omega
 have hN : 0 ≤ N := by omega
 have p1 : 0 ≤ (M - a) * (N + b) := Int.mul_nonneg (by omega) (by omega)
 have p2 : 0 ≤ (M + a) * (N - b) := Int.mul_nonneg (by omega) (by omega)
 have p3 : 0 ≤ (M - a) * (N - b) := Int.mul_nonneg (by omega) (by omega)
 have p4 : 0 ≤ (M + a) * (N + b) := Int.mul_nonneg (by omega) (by omega)
 simp only [Int.sub_mul, Int.add_mul, Int.mul_sub, Int.mul_add] at p1 p2 p3 p4
 constructor <;> omega
theorem goodB_mul {a b c d : Int} (h : goodB a b = true) (k : goodB c d = true) :
  (-1000000000000000000 ≤ a * d ∧ a * d ≤ 1000000000000000000) ∧ (-1000000000000000000 ≤ c * b ∧ c * b ≤ 1000000000000000000) ∧ (1 ≤ b * d ∧ b * d ≤ 1000000000000000000) ∧ (-1000000000000000000 ≤ a * c ∧ a * c ≤ 1000000000000000000) := by
 obtain ⟨h1, h2, h3, h4, _⟩ := goodB_iff.1 h
 obtain ⟨k1, k2, k3, k4, _⟩ := goodB_iff.1 k
 have e1 := mul_bd (M := 1000000000) (N := 1000000000) h3 h4 (show -1000000000 ≤ d by omega) k2
 have e2 := mul_bd (M := 1000000000) (N := 1000000000) k3 k4 (show -1000000000 ≤ b by omega) h2
 have e3 := mul_bd (M := 1000000000) (N := 1000000000) (show -1000000000 ≤ b by omega) h2 (show -1000000000 ≤ d by omega) k2
 have e4 := mul_bd (M := 1000000000) (N := 1000000000) h3 h4 k3 k4
 have e5 : 1 ≤ b * d := by have : 0 < b * d := Int.mul_pos (by omega) (by omega); omega
 refine ⟨by omega, by omega, ⟨e5, by omega⟩, by omega⟩
theorem goodB_neg (n d : Int) : goodB (-n) d = goodB n d := by
 rw [Bool.eq_iff_iff, goodB_iff, goodB_iff, show Int.gcd (-n) d = Int.gcd n d by simp [Int.gcd]]; omega
theorem gcd_le_right (a b : Int) (h : b ≠ 0) : (Int.gcd a b : Int) ≤ b.natAbs := by
 have := Int.gcd_dvd_natAbs_right a b
 exact Int.ofNat_le.2 (Nat.le_of_dvd (by omega) this)
theorem gcd_pos_right (a b : Int) (h : b ≠ 0) : 0 < (Int.gcd a b : Int) := by
 have := Int.gcd_pos_of_ne_zero_right a h
 omega
theorem sg_dvd_left (num den : Int) : sg num den ∣ num := by
 have g1 : (Int.gcd num den : Int) ∣ num := Int.gcd_dvd_left ..
 unfold sg; split <;> simpa using g1
theorem sg_dvd_right (num den : Int) : sg num den ∣ den := by
 have g1 : (Int.gcd num den : Int) ∣ den := Int.gcd_dvd_right ..
 unfold sg; split <;> simpa using g1
theorem sg_ne (num den : Int) (h : den ≠ 0) : sg num den ≠ 0 := by
 have := gcd_pos_right num den h
 unfold sg; split <;> omega
theorem mk_good {num den n d : Int} (h : mk num den = (n, d, true)) : goodB n d = true := by
 unfold mk at h
 split at h
 ·rename_i hg; obtain ⟨rfl, h2⟩ := Prod.mk.inj h; obtain ⟨rfl, _⟩ := Prod.mk.inj h2; exact hg
 ·simp at h
theorem mk_val {num den n d : Int} (h0 : den ≠ 0) (h : mk num den = (n, d, true)) : n * den = num * d := by
 unfold mk at h
 have g3 := sg_dvd_left num den
 have g4 := sg_dvd_right num den
 have g5 := sg_ne num den h0
 generalize sg num den = s at *
 split at h
 ·obtain ⟨rfl, h2⟩ := Prod.mk.inj h; obtain ⟨rfl, _⟩ := Prod.mk.inj h2
  obtain ⟨u, rfl⟩ := g3; obtain ⟨v, rfl⟩ := g4
  rw [Int.mul_tdiv_cancel_left _ g5, Int.mul_tdiv_cancel_left _ g5]; rw [Int.mul_left_comm, ← Int.mul_assoc]
 ·simp at h
/-- A result is valid, or it is 0, 0, false. -/
theorem mk_cases (num den : Int) : (∃ n d, mk num den = (n, d, true) ∧ goodB n d = true) ∨ mk num den = (0, 0, false) := by
 by_cases h : goodB (num.tdiv (sg num den)) (den.tdiv (sg num den)) = true
 ·left; refine ⟨_, _, ?_, h⟩; unfold mk; rw [if_pos h]
 ·right; unfold mk; rw [if_neg h]

end Go.Proofs.Ytannadjfkaghjaa.Math
