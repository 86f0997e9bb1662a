/- Plain mathematics, no program in sight: Map. -/
import Derived.Test.YtannadjfkaghjaaMathRat
import Derived.Test.YtannadjfkaghjaaMathRatOps
import Derived.Test.YtannadjfkaghjaaMathQ
namespace Go.Proofs.Ytannadjfkaghjaa.Math
/-- A break point. -/
structure Pt where
 xn : Int
 xd : Int
 yn : Int
 yd : Int
def coordB (n d : Int) : Bool := unitB n d && decide (d ≤ 100)
theorem coordB_iff {n d : Int} : coordB n d = true ↔ goodB n d = true ∧ 0 ≤ n ∧ n ≤ d ∧ d ≤ 100 := by
 simp [coordB, unitB, and_assoc]
def ptB (p : Pt) : Bool := coordB p.xn p.xd && coordB p.yn p.yd
theorem ptB_iff {p : Pt} : ptB p = true ↔ coordB p.xn p.xd = true ∧ coordB p.yn p.yd = true := by simp [ptB]
/-- Strictly rising fractions. -/
def risB : List (Int × Int) → Bool
 | [] => true
 | [_] => true
 | p :: r :: l => decide (p.1 * r.2 < r.1 * p.2) && risB (r :: l)
def xOf (p : Pt) : Int × Int := (p.xn, p.xd)
/-- The points of a map. -/
def mapB (l : List Pt) : Bool :=
 decide (2 ≤ l.length ∧ l.length ≤ 12) && (l.all ptB && (decide ((l.head?.map xOf) = some (0, 1)) && (decide ((l.getLast?.map xOf) = some (1, 1)) && risB (l.map xOf))))
/-- The points from one on, the one ahead of them told. -/
def chk : Option Pt → List Pt → Bool
 | _, [] => true
 | none, p :: r => ptB p && chk (some p) r
 | some o, p :: r => ptB p && (decide (o.xn * p.xd < p.xn * o.xd) && chk (some p) r)
theorem chk_some (o : Pt) : ∀ l, chk (some o) l = (l.all ptB && risB (xOf o :: l.map xOf))
 | [] => by simp [chk, risB]
 | p :: r => by
  rw [chk, chk_some p r, List.map_cons, risB, List.all_cons]
  simp only [xOf]
  cases ptB p <;> cases r.all ptB <;> (first | (simp; done) | (simp; rfl))
theorem chk_none : ∀ l, chk none l = (l.all ptB && risB (l.map xOf))
 | [] => by simp [chk, risB]
 | p :: r => by
  rw [chk, chk_some p r, List.map_cons, List.all_cons, Bool.and_assoc]
/-- What is small and whole can be made. -/
theorem mk_ok {num den : Int} (h1 : -1000000000 ≤ num) (h2 : num ≤ 1000000000) (h3 : 1 ≤ den) (h4 : den ≤ 1000000000) :
  ∃ n d, mk num den = (n, d, true) ∧ goodB n d = true ∧ n * den = num * d ∧ n.natAbs ≤ num.natAbs ∧ d ≤ den := by
 have g1 := gcd_pos_right num den (by omega)
 have hs : sg num den = (Int.gcd num den : Int) := by unfold sg; rw [if_neg (by omega)]
 have a1 := Int.natAbs_tdiv_le_natAbs num (Int.gcd num den : Int)
 have a2 := Int.natAbs_tdiv_le_natAbs den (Int.gcd num den : Int)
 have b1 : (den.tdiv (Int.gcd num den : Int)) = den / (Int.gcd num den : Int) := Int.tdiv_eq_ediv_of_nonneg (by omega)
 have b2 : (num.tdiv (Int.gcd num den : Int)) = num / (Int.gcd num den : Int) := by
  rw [Int.tdiv_eq_ediv_of_dvd (Int.gcd_dvd_left ..)]
 have c1 : 1 ≤ den / (Int.gcd num den : Int) := by
  obtain ⟨v, hv⟩ : (Int.gcd num den : Int) ∣ den := Int.gcd_dvd_right ..
  have hv0 : 0 < v := by
   rcases Int.lt_or_le 0 v with h | h
   ·exact h
   ·have : (Int.gcd num den : Int) * v ≤ 0 := Int.mul_nonpos_of_nonneg_of_nonpos (by omega) h
    omega
  rw [show den / (Int.gcd num den : Int) = v by
   conv => lhs; lhs; rw [hv]
   exact Int.mul_ediv_cancel_left _ (by omega)]
  omega
 have c2 : Int.gcd (num / (Int.gcd num den : Int)) (den / (Int.gcd num den : Int)) = 1 := by
  exact Int.gcd_ediv_gcd_ediv_gcd_of_ne_zero_right (by omega)
 have hg : goodB (num.tdiv (sg num den)) (den.tdiv (sg num den)) = true := by
  rw [hs, b1, b2, goodB_iff]
  rw [b1] at a2; rw [b2] at a1
  exact ⟨c1, by omega, by omega, by omega, c2⟩
 have hm : mk num den = (num.tdiv (sg num den), den.tdiv (sg num den), true) := by unfold mk; rw [if_pos hg]
 refine ⟨_, _, hm, hg, mk_val (by omega) hm, by rw [hs]; exact a1, ?_⟩
 rw [hs]; rw [b1] at a2 ⊢; omega
/-- The slope between two points. -/
def slopeR (p r : Pt) : Int × Int :=
 let u := mk (r.yn * p.yd - p.yn * r.yd) (r.yd * p.yd)
 let v := mk (r.xn * p.xd - p.xn * r.xd) (r.xd * p.xd)
 let s := mk (u.1 * v.2.1) (u.2.1 * v.1)
 (s.1, s.2.1)

end Go.Proofs.Ytannadjfkaghjaa.Math
