/- Plain mathematics, no program in sight: Split. -/
import Derived.RowKit
namespace Go.Proofs.Ytcbbkeojoichnaa.Math
/-- The exponent of two in a number, and its odd part. -/
def ex (n : Nat) : Nat := if 0 < n ∧ n % 2 = 0 then ex (n / 2) + 1 else 0
termination_by n
decreasing_by omega
def od (n : Nat) : Nat := if 0 < n ∧ n % 2 = 0 then od (n / 2) else n
termination_by n
decreasing_by omega
theorem ex_odd {n : Nat} (h : n % 2 = 1) : ex n = 0 := by rw [ex, if_neg (by omega)]
theorem od_odd {n : Nat} (h : n % 2 = 1) : od n = n := by rw [od, if_neg (by omega)]
theorem ex_even {n : Nat} (h0 : 0 < n) (h : n % 2 = 0) : ex n = ex (n / 2) + 1 := by rw [ex, if_pos ⟨h0, h⟩]
theorem od_even {n : Nat} (h0 : 0 < n) (h : n % 2 = 0) : od n = od (n / 2) := by rw [od, if_pos ⟨h0, h⟩]
theorem split_eq (n : Nat) (h : 0 < n) : n = od n * 2 ^ ex n ∧ od n % 2 = 1 := by
 induction n using Nat.strongRecOn with
 | _ n ih =>
  by_cases hn : n % 2 = 0
  ·have := ih (n / 2) (by omega) (by omega)
   rw [ex_even h hn, od_even h hn, Nat.pow_succ]
   refine ⟨?_, this.2⟩
   have h1 := this.1
   have : od (n / 2) * (2 ^ ex (n / 2) * 2) = (od (n / 2) * 2 ^ ex (n / 2)) * 2 := by rw [Nat.mul_assoc]
   rw [this, ← h1]; omega
  ·rw [ex_odd (by omega), od_odd (by omega)]; omega
theorem od_pos {n : Nat} (h : 0 < n) : 0 < od n := by have := (split_eq n h).2; omega
theorem od_le (n : Nat) : od n ≤ n := by
 induction n using Nat.strongRecOn with
 | _ n ih =>
  by_cases hn : 0 < n ∧ n % 2 = 0
  ·rw [od, if_pos hn]; have := ih (n / 2) (by omega); omega
  ·rw [od, if_neg hn]; omega
theorem ex_lt (n : Nat) : n = 0 ∨ ex n < n := by
 induction n using Nat.strongRecOn with
 | _ n ih =>
  by_cases hn : 0 < n ∧ n % 2 = 0
  ·rw [ex, if_pos hn]; have := ih (n / 2) (by omega); omega
  ·rw [ex, if_neg hn]; omega
theorem pow_ex_le {n : Nat} (h : 0 < n) : 2 ^ ex n ≤ n := by
 have := (split_eq n h).1; have h2 := od_pos h
 calc 2 ^ ex n = 1 * 2 ^ ex n := by omega
  _ ≤ od n * 2 ^ ex n := Nat.mul_le_mul_right _ h2
  _ = n := this.symm
/-- The exponent of a small number is small. -/
theorem ex_small {n : Nat} (h : 0 < n) (hn : n ≤ 1000000) : ex n ≤ 19 := by
 have := pow_ex_le h
 rcases Nat.lt_or_ge (ex n) 20 with h1 | h1
 ·omega
 ·have : 2 ^ 20 ≤ 2 ^ ex n := Nat.pow_le_pow_right (by omega) h1
  have : (2 : Nat) ^ 20 = 1048576 := rfl
  omega
theorem split_inj {m n : Nat} (hm : 0 < m) (hn : 0 < n) (h1 : ex m = ex n) (h2 : od m = od n) : m = n := by
 rw [(split_eq m hm).1, (split_eq n hn).1, h1, h2]

end Go.Proofs.Ytcbbkeojoichnaa.Math
