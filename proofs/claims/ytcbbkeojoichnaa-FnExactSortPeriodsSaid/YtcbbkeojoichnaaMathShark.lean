/- Plain mathematics, no program in sight: Shark. -/
import Derived.Test.YtcbbkeojoichnaaMathSplit
namespace Go.Proofs.Ytcbbkeojoichnaa.Math
/-- A number that grows along the order of Sharkovsky. -/
def key (n : Nat) : Nat := if od n = 1 then 1000000000 - ex n else ex n * 2000000 + od n
theorem key_inj {m n : Nat} (hm : 0 < m) (hn : 0 < n) (hm2 : m ≤ 1000000) (hn2 : n ≤ 1000000) (h : key m = key n) : m = n := by
 have a1 := ex_small hm hm2; have a2 := ex_small hn hn2; have b1 := od_le m; have b2 := od_le n; have c1 := od_pos hm; have c2 := od_pos hn
 unfold key at h
 apply split_inj hm hn <;> by_cases p : od m = 1 <;> by_cases q : od n = 1 <;> simp only [p, q, if_true, if_false] at h ⊢ <;> omega
/-- How two periods compare. -/
def cmpP (a b : Nat) : Int := if key a < key b then -1 else if key b < key a then 1 else 0
/-- The periods from m on (d of them) that n forces. -/
def fl (n : Nat) : Nat → Nat → List Int
 | 0, _ => []
 | d + 1, m => if key n ≤ key m then (m : Int) :: fl n d (m + 1) else fl n d (m + 1)
/-- How many of d periods from m on come before n. -/
def cnt (n : Nat) : Nat → Nat → Nat
 | 0, _ => 0
 | d + 1, m => (if key m < key n then 1 else 0) + cnt n d (m + 1)
theorem cnt_fl (n : Nat) : ∀ d m, cnt n d m + (fl n d m).length = d
 | 0, _ => rfl
 | d + 1, m => by
  have := cnt_fl n d (m + 1)
  simp only [cnt, fl]
  by_cases h : key n ≤ key m
  ·rw [if_pos h, if_neg (by omega)]; simp; omega
  ·rw [if_neg h, if_pos (by omega)]; omega
theorem fl_len (n d m : Nat) : (fl n d m).length ≤ d := by have := cnt_fl n d m; omega

end Go.Proofs.Ytcbbkeojoichnaa.Math
