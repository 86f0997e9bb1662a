/- The program's CompareWords returns what the reference's returns, for all arguments. -/
import Derived.Test.YtmecnnnagallnaaPFnExactCompareWordsx15
import Derived.Test.YtmecnnnagallnaaMathMap
import Derived.Test.YtmecnnnagallnaaMathRat
import Derived.Test.YtmecnnnagallnaaMathRatOps
import Derived.Test.YtmecnnnagallnaaMathLaps
namespace Go.Proofs.Ytmecnnnagallnaa.Pure
open Go.RowKit Go.Proofs.Ytmecnnnagallnaa.PFnExactCompareWords Go.Proofs.YtmecnnnagallnaaW.PrintWords Go.Proofs.YtmecnnnagallnaaW.PrintLast Go.Proofs.YtmecnnnagallnaaW.PrintMore Go.Proofs.Ytmecnnnagallnaa.Math
set_option linter.unusedVariables false
set_option linter.unusedSimpArgs false
namespace FnExactCompareWords_
/-! rdRt -/
theorem rdRt (xs : List S28) (i : Nat) (h : i < xs.length) : rd_T28 xs (i : Int) = xs[i] := by
  simp [rd_T28, List.getD_eq_getElem?_getD, List.getElem?_eq_getElem h]
def rt (x : S28) : Int × Int := (x.f0, x.f1)

/-! rdPt -/
theorem rdPt (xs : List S68) (i : Nat) (h : i < xs.length) : rd_T68 xs (i : Int) = xs[i] := by
  simp [rd_T68, List.getD_eq_getElem?_getD, List.getElem?_eq_getElem h]
def pt (x : S68) : Pt := ⟨x.f0.f0, x.f0.f1, x.f1.f0, x.f1.f1⟩

/-! wrap -/
theorem w64 {x : Int} (h1 : -9223372036854775808 ≤ x) (h2 : x ≤ 9223372036854775807) : wrap64 x = x := by unfold wrap64; omega

/-! gcdI -/
theorem impl_gcd_l (b : Nat) : ∀ (a k : Nat), b < k → impl_greatestDivisor.l0 k (a : Int) (b : Int) = some ((Nat.gcd a b : Nat) : Int) := by
  induction b using Nat.strongRecOn with
  | _ b ih =>
    intro a k hk
    obtain ⟨k, rfl⟩ : ∃ m, k = m + 1 := ⟨k - 1, by omega⟩
    simp only [impl_greatestDivisor.l0]
    by_cases h : b = 0
    · subst h; simp
    · rw [if_neg (by omega), Int.tmod_eq_emod_of_nonneg (by omega), show (a : Int) % (b : Int) = ((a % b : Nat) : Int) by omega, ih (a % b) (Nat.mod_lt _ (by omega)) b k (by have := Nat.mod_lt a (show b > 0 by omega); omega)]
      rw [Nat.gcd_comm a b, Nat.gcd_rec b a, Nat.gcd_comm]
theorem impl_abs_at (a : Int) (h : -9000000000000000000 ≤ a) : impl_abs.f a = some ((a.natAbs : Nat) : Int) := by
  unfold impl_abs.f
  by_cases h0 : a < 0
  · rw [if_pos h0]
    by_cases h1 : -a ≤ 9223372036854775807
    · rw [w64 (by omega) h1]; congr 1; omega
    · omega
  · rw [if_neg h0]; congr 1; omega
theorem impl_gcd_at (a b : Int) (k : Nat) (ha : -9000000000000000000 ≤ a) (hb : -9000000000000000000 ≤ b) (hk : b.natAbs < k) : impl_greatestDivisor.f k a b = some ((Int.gcd a b : Nat) : Int) := by
  simp only [impl_greatestDivisor.f, impl_abs_at a ha, impl_abs_at b hb, Option.bind_some, impl_gcd_l b.natAbs a.natAbs k hk]; rfl

/-! within -/
theorem impl_within_eq (a b c : Int) : impl_within.f a b c = some (decide (b ≤ a ∧ a ≤ c)) := by
  unfold impl_within.f; split <;> simp <;> omega

/-! isRat -/
theorem impl_isRat_at (n d : Int) (k : Nat) (hk : 1000000000 < k) : impl_isRat.f k n d = some (goodB n d) := by
  simp only [impl_isRat.f, impl_within_eq, Option.bind_some, goodB]
  by_cases h : 1 ≤ d ∧ d ≤ 1000000000
  · by_cases h2 : -1000000000 ≤ n ∧ n ≤ 1000000000
    · rw [decide_eq_true h, decide_eq_true h2, impl_gcd_at n d k (by omega) (by omega) (by omega)]
      simp only [if_true, Option.bind_some]; congr 1; rw [Bool.eq_iff_iff]; simp [h, h2]; omega
    · rw [decide_eq_true h, decide_eq_false h2]; simp only [if_true, Bool.false_eq_true, if_false]; congr 1; symm; apply decide_eq_false; omega
  · rw [decide_eq_false h]; simp only [Bool.false_eq_true, if_false]; congr 1; symm; apply decide_eq_false; omega

/-! lowest -/
theorem impl_lowest_at (num den : Int) (k : Nat) (h0 : den ≠ 0) (h1 : -4000000000000000000 ≤ num) (h2 : num ≤ 4000000000000000000) (h3 : -4000000000000000000 ≤ den) (h4 : den ≤ 4000000000000000000) (hk : 5000000000000000000 < k) :
    impl_lowest.f k num den = some (mk num den) := by
  have g1 := gcd_pos_right num den h0
  have g2 := gcd_le_right num den h0
  have e1 : ∀ s : Int, s ≠ 0 → -4000000000000000000 ≤ num.tdiv s ∧ num.tdiv s ≤ 4000000000000000000 := fun s hs => by
    have := Int.natAbs_tdiv_le_natAbs num s; omega
  have e2 : ∀ s : Int, s ≠ 0 → -4000000000000000000 ≤ den.tdiv s ∧ den.tdiv s ≤ 4000000000000000000 := fun s hs => by
    have := Int.natAbs_tdiv_le_natAbs den s; omega
  simp only [impl_lowest.f, impl_gcd_at num den k (by omega) (by omega) (by omega), Option.bind_some, mk, sg]
  by_cases hn : den < 0
  · have hg : (-(Int.gcd num den : Int)) ≠ 0 := by omega
    have a := e1 _ hg; have b := e2 _ hg
    simp only [if_pos hn]
    rw [w64 (x := -(Int.gcd num den : Int)) (by omega) (by omega), if_neg hg, w64 (x := num.tdiv _) (by omega) (by omega), w64 (x := den.tdiv _) (by omega) (by omega), impl_isRat_at _ _ k (by omega), Option.bind_some]
    split <;> rfl
  · have hg : ((Int.gcd num den : Int)) ≠ 0 := by omega
    have a := e1 _ hg; have b := e2 _ hg
    simp only [if_neg hn]
    rw [if_neg hg, w64 (x := num.tdiv _) (by omega) (by omega), w64 (x := den.tdiv _) (by omega) (by omega), impl_isRat_at _ _ k (by omega), Option.bind_some]
    split <;> rfl

/-! addRats -/
theorem impl_areRats_two (a b c d : Int) (k : Nat) (hk : 1000000010 < k) : impl_areRats.f k [(⟨a, b⟩ : S28), ⟨c, d⟩] = some (goodB a b && goodB c d) := by
  obtain ⟨k, rfl⟩ : ∃ q, k = q + 3 := ⟨k - 3, by omega⟩
  have e1 : wrap64 (0 + 1) = 1 := by unfold wrap64; omega
  have e2 : wrap64 (1 + 1) = 2 := by unfold wrap64; omega
  have r0 : rd_T28 [(⟨a, b⟩ : S28), ⟨c, d⟩] 0 = ⟨a, b⟩ := rfl
  have r1 : rd_T28 [(⟨a, b⟩ : S28), ⟨c, d⟩] 1 = ⟨c, d⟩ := rfl
  simp only [impl_areRats.f, impl_areRats.l0, e1, e2, r0, r1, impl_isRat_at a b (k + 2) (by omega), impl_isRat_at c d (k + 1) (by omega), Option.bind_some]
  cases goodB a b <;> cases goodB c d <;> simp
theorem impl_AddRats_at (a b c d : Int) (k : Nat) (hk : 5000000000000000000 < k) : impl_AddRats.f k a b c d = some (addR a b c d) := by
  simp only [impl_AddRats.f, impl_areRats_two a b c d k (by omega), Option.bind_some, addR]
  cases h1 : goodB a b
  · simp
  · cases h2 : goodB c d
    · simp
    · obtain ⟨p1, p2, p3, _⟩ := goodB_mul h1 h2
      simp only [Bool.and_self, if_true]
      rw [w64 (x := a * d) (by omega) (by omega), w64 (x := c * b) (by omega) (by omega), w64 (x := b * d) (by omega) (by omega), w64 (x := a * d + c * b) (by omega) (by omega), impl_lowest_at _ _ k (by omega) (by omega) (by omega) (by omega) (by omega) hk]; rfl
theorem impl_SubtractRats_at (a b c d : Int) (k : Nat) (hk : 5000000000000000000 < k) (hc : -9223372036854775808 ≤ c) (hc2 : c ≤ 9223372036854775807) : impl_SubtractRats.f k a b c d = some (subR a b c d) := by
  simp only [impl_SubtractRats.f, impl_negated.f, Option.bind_some, impl_AddRats_at _ _ _ _ k hk]
  rw [addR_neg a b c d hc hc2]

/-! calcs -/
theorem impl_calc_keep_true (s : Bool) (n d : Int) : impl_calc_keep.f s n d true = some (n, d, s) := by simp [impl_calc_keep.f]
theorem impl_calc_keep_false (s : Bool) (n d : Int) : impl_calc_keep.f s n d false = some (0, 1, true) := by simp [impl_calc_keep.f, impl_zero.f]
/-- A result, or 0 and a note that it is too large. -/
def keepR (s : Bool) (x : Int × Int × Bool) : Int × Int × Bool := if x.2.2 = true then (x.1, x.2.1, s) else (0, 1, true)
theorem impl_calc_keep_at (s : Bool) (x : Int × Int × Bool) : impl_calc_keep.f s x.1 x.2.1 x.2.2 = some (keepR s x) := by
  obtain ⟨a, b, c⟩ := x
  cases c <;> simp [keepR, impl_calc_keep_true, impl_calc_keep_false]

/-! slopes -/
theorem impl_DivideRats_at (a b c d : Int) (k : Nat) (hk : 5000000000000000000 < k) : impl_DivideRats.f k a b c d = some (divR a b c d) := by
  simp only [impl_DivideRats.f, impl_areRats_two a b c d k (by omega), Option.bind_some, divR]
  cases h1 : goodB a b
  · simp
  · cases h2 : goodB c d
    · simp
    · by_cases hc : c = 0
      · simp [hc]
      · obtain ⟨p1, p2, p3, p4⟩ := goodB_mul h1 h2
        have p5 : b * c ≠ 0 := by
          have := (goodB_iff.1 h1).1
          exact Int.mul_ne_zero (by omega) hc
        have e : b * c = c * b := Int.mul_comm ..
        simp only [Bool.and_self, if_true, if_neg hc]
        rw [w64 (x := a * d) (by omega) (by omega), w64 (x := b * c) (by omega) (by omega), impl_lowest_at _ _ k p5 (by omega) (by omega) (by omega) (by omega) hk]; rfl
/-- Differences and slopes of coordinates are valid. -/
theorem coord_sub {a b c d : Int} (h1 : coordB a b = true) (h2 : coordB c d = true) :
    ∃ n m, mk (a * d - c * b) (b * d) = (n, m, true) ∧ goodB n m = true ∧ n * (b * d) = (a * d - c * b) * m ∧ n.natAbs ≤ 10000 ∧ m ≤ 10000 := by
  obtain ⟨g1, a1, a2, a3⟩ := coordB_iff.1 h1
  obtain ⟨g2, b1, b2, b3⟩ := coordB_iff.1 h2
  have d1 := (goodB_iff.1 g1).1
  have d2 := (goodB_iff.1 g2).1
  have e1 := mul_bd (M := 100) (N := 100) (show -100 ≤ a by omega) (by omega) (show -100 ≤ d by omega) b3
  have e2 := mul_bd (M := 100) (N := 100) (show -100 ≤ c by omega) (by omega) (show -100 ≤ b by omega) a3
  have e3 := mul_bd (M := 100) (N := 100) (show -100 ≤ b by omega) (by omega) (show -100 ≤ d by omega) b3
  have e4 : 0 < b * d := Int.mul_pos (by omega) (by omega)
  have e5 : 0 ≤ a * d := Int.mul_nonneg a1 (by omega)
  have e6 : 0 ≤ c * b := Int.mul_nonneg b1 (by omega)
  obtain ⟨n, m, h, g, v, l1, l2⟩ := mk_ok (num := a * d - c * b) (den := b * d) (by omega) (by omega) (by omega) (by omega)
  exact ⟨n, m, h, g, v, by omega, by omega⟩
/-- The slope of a piece, as both compute it. -/
theorem slope_ok {p r : Pt} (hp : ptB p = true) (hr : ptB r = true) (hlt : p.xn * r.xd < r.xn * p.xd) :
    ∃ u1 u2 v1 v2 s1 s2, mk (r.yn * p.yd - p.yn * r.yd) (r.yd * p.yd) = (u1, u2, true) ∧ mk (r.xn * p.xd - p.xn * r.xd) (r.xd * p.xd) = (v1, v2, true) ∧ mk (u1 * v2) (u2 * v1) = (s1, s2, true) ∧
      goodB u1 u2 = true ∧ goodB v1 v2 = true ∧ goodB s1 s2 = true ∧ 0 < v1 ∧ slopeR p r = (s1, s2) := by
  obtain ⟨hx, hy⟩ := ptB_iff.1 hp
  obtain ⟨kx, ky⟩ := ptB_iff.1 hr
  obtain ⟨u1, u2, e1, g1, f1, b1, b2⟩ := coord_sub ky hy
  obtain ⟨v1, v2, e2, g2, f2, c1, c2⟩ := coord_sub kx hx
  have m1 := (goodB_iff.1 g1).1
  have m2 := (goodB_iff.1 g2).1
  have x1 := (goodB_iff.1 (coordB_iff.1 hx).1).1
  have x2 := (goodB_iff.1 (coordB_iff.1 kx).1).1
  have hv : 0 < v1 := by
    have q1 : 0 < (r.xn * p.xd - p.xn * r.xd) * v2 := Int.mul_pos (by omega) (by omega)
    rw [← f2] at q1
    have q2 : 0 < r.xd * p.xd := Int.mul_pos (by omega) (by omega)
    exact Int.pos_of_mul_pos_left q1 (by omega)
  have t1 := mul_bd (M := 10000) (N := 10000) (show -10000 ≤ u1 by omega) (by omega) (show -10000 ≤ v2 by omega) c2
  have t2 := mul_bd (M := 10000) (N := 10000) (show -10000 ≤ u2 by omega) b2 (show -10000 ≤ v1 by omega) (by omega)
  have t3 : 0 < u2 * v1 := Int.mul_pos (by omega) hv
  obtain ⟨s1, s2, e3, g3, _⟩ := mk_ok (num := u1 * v2) (den := u2 * v1) (by omega) (by omega) (by omega) (by omega)
  refine ⟨u1, u2, v1, v2, s1, s2, e1, e2, e3, g1, g2, g3, hv, ?_⟩
  simp only [slopeR, e1, e2, e3]
theorem impl_calc_sub_ok (s : Bool) {a b c d n m : Int} (k : Nat) (hk : 5000000000000000000 < k) (h1 : goodB a b = true) (h2 : goodB c d = true) (h : mk (a * d - c * b) (b * d) = (n, m, true)) : impl_calc_sub.f k s a b c d = some (n, m, s) := by
  have hc := goodB_iff.1 h2
  simp only [impl_calc_sub.f, impl_SubtractRats_at a b c d k hk (by omega) (by omega), Option.bind_some, subR, h1, h2, Bool.and_self, if_true, h, impl_calc_keep_true]
theorem impl_calc_div_ok (s : Bool) {a b c d n m : Int} (k : Nat) (hk : 5000000000000000000 < k) (h1 : goodB a b = true) (h2 : goodB c d = true) (hc : c ≠ 0) (h : mk (a * d) (b * c) = (n, m, true)) : impl_calc_div.f k s a b c d = some (n, m, s) := by
  simp only [impl_calc_div.f, impl_DivideRats_at a b c d k hk, Option.bind_some, divR, h1, h2, Bool.and_self, if_true, if_neg hc, h, impl_calc_keep_true]
theorem impl_calc_slope_at (s : Bool) (p r : Pt) (k : Nat) (hk : 5000000000000000000 < k) (hp : ptB p = true) (hr : ptB r = true) (hlt : p.xn * r.xd < r.xn * p.xd) :
    impl_calc_slope.f k s p.xn p.xd p.yn p.yd r.xn r.xd r.yn r.yd = some ((slopeR p r).1, (slopeR p r).2, s) := by
  obtain ⟨u1, u2, v1, v2, s1, s2, e1, e2, e3, g1, g2, g3, hv, es⟩ := slope_ok hp hr hlt
  obtain ⟨hx, hy⟩ := ptB_iff.1 hp
  obtain ⟨kx, ky⟩ := ptB_iff.1 hr
  simp only [impl_calc_slope.f, impl_calc_sub_ok s k hk (coordB_iff.1 ky).1 (coordB_iff.1 hy).1 e1, Option.bind_some, impl_calc_sub_ok s k hk (coordB_iff.1 kx).1 (coordB_iff.1 hx).1 e2, impl_calc_div_ok s k hk g1 g2 (by omega) e3, es]

/-! slopesR -/
/-- The slopes of all pieces. -/
def slopesR : List Pt → List (Int × Int)
  | p :: r :: l => slopeR p r :: slopesR (r :: l)
  | _ => []
def mkRt (x : Int × Int) : S28 := ⟨x.1, x.2⟩
theorem risB_get (l : List Pt) : ∀ (i : Nat) (h : i + 1 < l.length), risB (l.map xOf) = true → (l[i]'(by omega)).xn * (l[i + 1]'h).xd < (l[i + 1]'h).xn * (l[i]'(by omega)).xd := by
  induction l with
  | nil => intro i h; simp at h
  | cons p l ih =>
    intro i h hr
    cases l with
    | nil => simp at h
    | cons r l =>
      simp only [List.map_cons, risB, Bool.and_eq_true, decide_eq_true_eq] at hr
      cases i with
      | zero => exact hr.1
      | succ i => exact ih i (by simpa using h) hr.2
theorem mapB_parts {l : List Pt} (h : mapB l = true) : 2 ≤ l.length ∧ l.length ≤ 12 ∧ (∀ p ∈ l, ptB p = true) ∧ risB (l.map xOf) = true := by
  simp only [mapB, Bool.and_eq_true, decide_eq_true_eq, List.all_eq_true] at h
  exact ⟨h.1.1, h.1.2, h.2.1, h.2.2.2.2⟩

/-! gcdS -/
theorem spec_gcd_l (b : Nat) : ∀ (a k : Nat), b < k → spec_raCommon.l0 k (a : Int) (b : Int) = some ((Nat.gcd a b : Nat) : Int) := by
  induction b using Nat.strongRecOn with
  | _ b ih =>
    intro a k hk
    obtain ⟨k, rfl⟩ : ∃ m, k = m + 1 := ⟨k - 1, by omega⟩
    simp only [spec_raCommon.l0]
    by_cases h : b = 0
    · subst h; simp
    · rw [if_pos (by omega), if_neg (by omega), Int.tmod_eq_emod_of_nonneg (by omega), show (a : Int) % (b : Int) = ((a % b : Nat) : Int) by omega, ih (a % b) (Nat.mod_lt _ (by omega)) b k (by have := Nat.mod_lt a (show b > 0 by omega); omega)]
      rw [Nat.gcd_comm a b, Nat.gcd_rec b a, Nat.gcd_comm]
theorem spec_l1Abs_at (a : Int) (h : -9000000000000000000 ≤ a) (h2 : a ≤ 9000000000000000000) : spec_l1Abs.f a = some ((a.natAbs : Nat) : Int) := by
  simp only [spec_l1Abs.f, spec_l1Most.f]
  rw [w64 (by omega) (by omega)]
  by_cases h0 : a > -a
  · rw [if_pos h0, Option.bind_some]; congr 1; omega
  · rw [if_neg h0, Option.bind_some]; congr 1; omega
theorem spec_gcd_at (a b : Nat) (k : Nat) (hk : b < k) : spec_raCommon.f k (a : Int) (b : Int) = some ((Nat.gcd a b : Nat) : Int) := by
  simp only [spec_raCommon.f]; exact spec_gcd_l b a k hk

/-! l1In -/
theorem spec_l1In_eq (a b c : Int) : spec_l1In.f a b c = some (decide (b ≤ a ∧ a ≤ c)) := by
  unfold spec_l1In.f; split <;> simp <;> omega

/-! raGood -/
theorem spec_raGood_at (n d : Int) (k : Nat) (hk : 1000000000 < k) : spec_raGood.f k n d = some (goodB n d) := by
  simp only [spec_raGood.f, spec_l1In_eq, Option.bind_some, goodB]
  by_cases h : 1 ≤ d ∧ d ≤ 1000000000
  · by_cases h2 : -1000000000 ≤ n ∧ n ≤ 1000000000
    · have e : d = ((d.natAbs : Nat) : Int) := by omega
      rw [decide_eq_true h, decide_eq_true h2, spec_l1Abs_at n (by omega) (by omega)]
      simp only [if_true, Option.bind_some]
      rw [show spec_raCommon.f k ((n.natAbs : Nat) : Int) d = some ((Nat.gcd n.natAbs d.natAbs : Nat) : Int) by
        have := spec_gcd_at n.natAbs d.natAbs k (by omega)
        rwa [← e] at this, Option.bind_some]
      congr 1; rw [Bool.eq_iff_iff]; simp [h, h2, Int.gcd]; omega
    · rw [decide_eq_true h, decide_eq_false h2]; simp only [if_true, Bool.false_eq_true, if_false]; congr 1; symm; apply decide_eq_false; omega
  · rw [decide_eq_false h]; simp only [Bool.false_eq_true, if_false]; congr 1; symm; apply decide_eq_false; omega

/-! raMake -/
theorem spec_raMake_at (num den : Int) (k : Nat) (h0 : den ≠ 0) (h1 : -4000000000000000000 ≤ num) (h2 : num ≤ 4000000000000000000) (h3 : -4000000000000000000 ≤ den) (h4 : den ≤ 4000000000000000000) (hk : 5000000000000000000 < k) :
    spec_raMake.f k num den = some (mk num den) := by
  have g1 := gcd_pos_right num den h0
  have g2 := gcd_le_right num den h0
  have e1 : ∀ s : Int, s ≠ 0 → -4000000000000000000 ≤ num.tdiv s ∧ num.tdiv s ≤ 4000000000000000000 := fun s hs => by
    have := Int.natAbs_tdiv_le_natAbs num s; omega
  have e2 : ∀ s : Int, s ≠ 0 → -4000000000000000000 ≤ den.tdiv s ∧ den.tdiv s ≤ 4000000000000000000 := fun s hs => by
    have := Int.natAbs_tdiv_le_natAbs den s; omega
  have eg : (Nat.gcd num.natAbs den.natAbs : Int) = (Int.gcd num den : Int) := rfl
  simp only [spec_raMake.f, spec_l1Abs_at num (by omega) (by omega), spec_l1Abs_at den (by omega) (by omega), spec_gcd_at num.natAbs den.natAbs k (by omega), Option.bind_some, mk, sg, if_neg h0, eg]
  by_cases hn : den < 0
  · have hg : (-(Int.gcd num den : Int)) ≠ 0 := by omega
    have a := e1 _ hg; have b := e2 _ hg
    simp only [if_pos hn]
    rw [w64 (x := -(Int.gcd num den : Int)) (by omega) (by omega), if_neg hg, w64 (x := num.tdiv _) (by omega) (by omega), w64 (x := den.tdiv _) (by omega) (by omega), spec_raGood_at _ _ k (by omega), Option.bind_some]
    split <;> rfl
  · have hg : ((Int.gcd num den : Int)) ≠ 0 := by omega
    have a := e1 _ hg; have b := e2 _ hg
    simp only [if_neg hn]
    rw [if_neg hg, w64 (x := num.tdiv _) (by omega) (by omega), w64 (x := den.tdiv _) (by omega) (by omega), spec_raGood_at _ _ k (by omega), Option.bind_some]
    split <;> rfl

/-! raSub -/
theorem spec_raSub_at (a b c d : Int) (k : Nat) (h1 : goodB a b = true) (h2 : goodB c d = true) (hk : 5000000000000000000 < k) : spec_raSub.f k a b c d = some (mk (a * d - c * b) (b * d)) := by
  obtain ⟨p1, p2, p3, _⟩ := goodB_mul h1 h2
  simp only [spec_raSub.f]
  rw [w64 (x := a * d) (by omega) (by omega), w64 (x := c * b) (by omega) (by omega), w64 (x := b * d) (by omega) (by omega), w64 (x := a * d - c * b) (by omega) (by omega), spec_raMake_at _ _ k (by omega) (by omega) (by omega) (by omega) (by omega) hk]; rfl

/-! imSlope -/
theorem spec_raDiv_at (a b c d : Int) (k : Nat) (h1 : goodB a b = true) (h2 : goodB c d = true) (hk : 5000000000000000000 < k) : spec_raDiv.f k a b c d = some (if c = 0 then (0, 0, false) else mk (a * d) (b * c)) := by
  simp only [spec_raDiv.f]
  by_cases hc : c = 0
  · simp [hc]
  · obtain ⟨p1, p2, p3, p4⟩ := goodB_mul h1 h2
    have p5 : b * c ≠ 0 := by
      have := (goodB_iff.1 h1).1
      exact Int.mul_ne_zero (by omega) hc
    have e : b * c = c * b := Int.mul_comm ..
    rw [if_neg hc, if_neg hc, w64 (x := a * d) (by omega) (by omega), w64 (x := b * c) (by omega) (by omega), spec_raMake_at _ _ k p5 (by omega) (by omega) (by omega) (by omega) hk]; rfl
theorem spec_imSlope_at (p r : Pt) (k : Nat) (hk : 5000000000000000000 < k) (hp : ptB p = true) (hr : ptB r = true) (hlt : p.xn * r.xd < r.xn * p.xd) :
    spec_imSlope.f k p.xn p.xd p.yn p.yd r.xn r.xd r.yn r.yd = some (slopeR p r) := by
  obtain ⟨u1, u2, v1, v2, s1, s2, e1, e2, e3, g1, g2, g3, hv, es⟩ := slope_ok hp hr hlt
  obtain ⟨hx, hy⟩ := ptB_iff.1 hp
  obtain ⟨kx, ky⟩ := ptB_iff.1 hr
  simp only [spec_imSlope.f, spec_raSub_at _ _ _ _ k (coordB_iff.1 ky).1 (coordB_iff.1 hy).1 hk, spec_raSub_at _ _ _ _ k (coordB_iff.1 kx).1 (coordB_iff.1 hx).1 hk, e1, e2, Option.bind_some, spec_raDiv_at _ _ _ _ k g1 g2 hk, if_neg (show ¬ v1 = 0 by omega), e3, es]

/-! slopesL -/
theorem impl_slopes_l (l : List S68) (hm : mapB (l.map pt) = true) : ∀ (d i k : Nat) (acc : List S28) (s : Bool), i + 1 + d = l.length → acc.length ≤ i → 5000000000000000000 + d + 1 < k →
    impl_slopes.l0 k l acc ((i + 1 : Nat) : Int) s = some (acc ++ (slopesR ((l.drop i).map pt)).map mkRt) := by
  obtain ⟨m1, m2, m3, m4⟩ := mapB_parts hm
  simp only [List.length_map] at m1 m2
  intro d
  induction d with
  | zero =>
    intro i k acc s h1 h2 h3
    obtain ⟨k, rfl⟩ : ∃ q, k = q + 1 := ⟨k - 1, by omega⟩
    simp only [impl_slopes.l0]; rw [if_neg (by omega), List.drop_eq_getElem_cons (show i < l.length by omega), List.drop_eq_nil_of_le (by omega)]; simp [slopesR]
  | succ d ih =>
    intro i k acc s h1 h2 h3
    obtain ⟨k, rfl⟩ : ∃ q, k = q + 1 := ⟨k - 1, by omega⟩
    have hp : ptB (pt (l[i]'(by omega))) = true := m3 _ (List.mem_map_of_mem (List.getElem_mem _))
    have hr : ptB (pt (l[i + 1]'(by omega))) = true := m3 _ (List.mem_map_of_mem (List.getElem_mem _))
    have hlt := risB_get (l.map pt) i (by simp; omega) m4
    simp only [List.getElem_map] at hlt
    have hs := impl_calc_slope_at s (pt (l[i]'(by omega))) (pt (l[i + 1]'(by omega))) k (by omega) hp hr hlt
    simp only [impl_slopes.l0]
    rw [if_pos (by omega), w64 (x := ((i + 1 : Nat) : Int) - 1) (by omega) (by omega), if_pos (by omega), if_pos (by omega), if_pos (by omega), show ((i + 1 : Nat) : Int) - 1 = ((i : Nat) : Int) by omega, rdPt l i (by omega), rdPt l (i + 1) (by omega)]
    refine (congrArg (fun o => Option.bind o _) hs).trans ?_
    rw [Option.bind_some, if_pos (by omega), w64 (by omega) (by omega), show ((i + 1 : Nat) : Int) + 1 = ((i + 1 + 1 : Nat) : Int) by omega, ih (i + 1) k _ _ (by omega) (by simp; omega) (by omega), List.drop_eq_getElem_cons (show i < l.length by omega), List.drop_eq_getElem_cons (show i + 1 < l.length by omega)]
    simp only [List.map_cons, slopesR, List.append_assoc, List.cons_append, List.nil_append]; rfl
theorem impl_slopes_at (l : List S68) (hm : mapB (l.map pt) = true) (k : Nat) (hk : 5000000000000000100 < k) : impl_slopes.f k l = some ((slopesR (l.map pt)).map mkRt) := by
  obtain ⟨m1, m2, _⟩ := mapB_parts hm
  simp only [List.length_map] at m1 m2
  have := impl_slopes_l l hm (l.length - 1) 0 k [] false (by omega) (by simp) (by omega)
  simpa [impl_slopes.f] using this

/-! imSlopes -/
theorem spec_imSlopes_l (l : List S68) (hm : mapB (l.map pt) = true) : ∀ (d i k : Nat) (acc : List S28), i + 1 + d = l.length → acc.length ≤ i → 5000000000000000000 + d + 1 < k →
    spec_imSlopes.l0 k l acc ((i + 1 : Nat) : Int) = some (acc ++ (slopesR ((l.drop i).map pt)).map mkRt) := by
  obtain ⟨m1, m2, m3, m4⟩ := mapB_parts hm
  simp only [List.length_map] at m1 m2
  intro d
  induction d with
  | zero =>
    intro i k acc h1 h2 h3
    obtain ⟨k, rfl⟩ : ∃ q, k = q + 1 := ⟨k - 1, by omega⟩
    simp only [spec_imSlopes.l0]; rw [if_neg (by omega), List.drop_eq_getElem_cons (show i < l.length by omega), List.drop_eq_nil_of_le (by omega)]; simp [slopesR]
  | succ d ih =>
    intro i k acc h1 h2 h3
    obtain ⟨k, rfl⟩ : ∃ q, k = q + 1 := ⟨k - 1, by omega⟩
    have hp : ptB (pt (l[i]'(by omega))) = true := m3 _ (List.mem_map_of_mem (List.getElem_mem _))
    have hr : ptB (pt (l[i + 1]'(by omega))) = true := m3 _ (List.mem_map_of_mem (List.getElem_mem _))
    have hlt := risB_get (l.map pt) i (by simp; omega) m4
    simp only [List.getElem_map] at hlt
    have hs := spec_imSlope_at (pt (l[i]'(by omega))) (pt (l[i + 1]'(by omega))) k (by omega) hp hr hlt
    simp only [spec_imSlopes.l0]
    rw [if_pos (by omega), w64 (x := ((i + 1 : Nat) : Int) - 1) (by omega) (by omega), if_pos (by omega), if_pos (by omega), if_pos (by omega), show ((i + 1 : Nat) : Int) - 1 = ((i : Nat) : Int) by omega, rdPt l i (by omega), rdPt l (i + 1) (by omega)]
    refine (congrArg (fun o => Option.bind o _) hs).trans ?_
    rw [Option.bind_some, if_pos (by omega), w64 (by omega) (by omega), show ((i + 1 : Nat) : Int) + 1 = ((i + 1 + 1 : Nat) : Int) by omega, ih (i + 1) k _ (by omega) (by simp; omega) (by omega), List.drop_eq_getElem_cons (show i < l.length by omega), List.drop_eq_getElem_cons (show i + 1 < l.length by omega)]
    simp only [List.map_cons, slopesR, List.append_assoc, List.cons_append, List.nil_append]; rfl
theorem spec_imSlopes_at (l : List S68) (hm : mapB (l.map pt) = true) (k : Nat) (hk : 5000000000000000100 < k) : spec_imSlopes.f k l = some ((slopesR (l.map pt)).map mkRt) := by
  obtain ⟨m1, m2, _⟩ := mapB_parts hm
  simp only [List.length_map] at m1 m2
  have := spec_imSlopes_l l hm (l.length - 1) 0 k [] (by omega) (by simp) (by omega)
  simpa [spec_imSlopes.f] using this

/-! raUnit -/
theorem spec_raUnit_at (n d : Int) (k : Nat) (hk : 1000000000 < k) : spec_raUnit.f k n d = some (unitB n d) := by
  simp only [spec_raUnit.f, spec_raGood_at n d k hk, spec_l1In_eq, Option.bind_some, unitB]
  cases goodB n d <;> simp

/-! imCoord -/
theorem spec_imCoord_at (n d : Int) (k : Nat) (hk : 1000000000 < k) : spec_imCoord.f k n d = some (coordB n d) := by
  simp only [spec_imCoord.f, spec_raUnit_at n d k hk, Option.bind_some, coordB]
  cases unitB n d <;> simp

/-! cmpS -/
theorem spec_raCmp_at (a b c d : Int) (h : goodB a b = true) (h2 : goodB c d = true) : spec_raCmp.f a b c d = some (cmpR a b c d) := by
  obtain ⟨p1, p2, _⟩ := goodB_mul h h2
  simp only [spec_raCmp.f, spec_l1Sign.f, cmpR]
  rw [w64 (x := a * d) (by omega) (by omega), w64 (x := c * b) (by omega) (by omega), w64 (by omega) (by omega)]
  by_cases q : a * d < c * b
  · rw [if_neg (by omega), if_pos (by omega), if_pos q]; rfl
  · by_cases r : a * d > c * b
    · rw [if_pos (by omega), if_neg q, if_pos r]; rfl
    · rw [if_neg (by omega), if_neg (by omega), if_neg q, if_neg r]; rfl

/-! imGood -/
/-- What is asked behind the loop. -/
def finB (l : List S68) : Bool := decide (((l.map pt).head?.map xOf) = some (0, 1)) && decide (((l.map pt).getLast?.map xOf) = some (1, 1))
theorem good01 : goodB 0 1 = true := by decide
theorem good11 : goodB 1 1 = true := by decide
theorem cmpR_eq0 {a b c d : Int} (h1 : goodB a b = true) (h2 : goodB c d = true) : cmpR a b c d = 0 ↔ (a = c ∧ b = d) := by
  unfold cmpR
  constructor
  · intro h; apply good_inj h1 h2; repeat' split at h <;> omega
  · rintro ⟨rfl, rfl⟩; simp
theorem spec_imGood_fin (l : List S68) (h2 : 2 ≤ l.length) (hn : l.length ≤ 12) (hg : ∀ x ∈ l, ptB (pt x) = true) (k : Nat) (i : Int) (hi : ¬ i < (l.length : Int)) (hk : 0 < k) :
    spec_imGood.l0 k l l l.length i = some (finB l) := by
  obtain ⟨k, rfl⟩ : ∃ q, k = q + 1 := ⟨k - 1, by omega⟩
  have hgood : ∀ p ∈ l, goodB p.f0.f0 p.f0.f1 = true := fun p hp => (coordB_iff.1 (ptB_iff.1 (hg p hp)).1).1
  have e0 : rd_T68 l 0 = l[0] := rdPt l 0 (by omega)
  have e1 : rd_T68 l ((l.length : Int) - 1) = l[l.length - 1] := by
    rw [show (l.length : Int) - 1 = ((l.length - 1 : Nat) : Int) by omega]; exact rdPt l (l.length - 1) (by omega)
  have f0 : (l.map pt).head?.map xOf = some ((l[0]).f0.f0, (l[0]).f0.f1) := by
    rw [List.head?_eq_getElem?]; simp [xOf, pt, show 0 < l.length by omega]
  have f1 : (l.map pt).getLast?.map xOf = some ((l[l.length - 1]).f0.f0, (l[l.length - 1]).f0.f1) := by
    rw [List.getLast?_eq_getElem?]; simp [xOf, pt, show l.length - 1 < l.length by omega]
  have g0 := hgood (l[0]) (List.getElem_mem _)
  have g1 := hgood (l[l.length - 1]) (List.getElem_mem _)
  simp only [spec_imGood.l0, spec_raInt.f, Option.bind_some]
  rw [if_neg hi, if_pos (show 0 < (l.length : Int) by omega), e0, spec_raCmp_at _ _ _ _ g0 good01, Option.bind_some, w64 (x := (l.length : Int) - 1) (by omega) (by omega), if_pos (show 0 ≤ (l.length : Int) - 1 by omega), if_pos (show (l.length : Int) - 1 < (l.length : Int) by omega), e1, spec_raCmp_at _ _ _ _ g1 good11, Option.bind_some]
  unfold finB
  rw [f0, f1]
  have q0 := cmpR_eq0 g0 good01
  have q1 := cmpR_eq0 g1 good11
  by_cases c0 : (l[0]).f0.f0 = 0 ∧ (l[0]).f0.f1 = 1
  · rw [if_pos (q0.2 c0)]
    have : (some ((l[0]).f0.f0, (l[0]).f0.f1) = some ((0 : Int), (1 : Int))) := by simp [c0]
    rw [decide_eq_true this, Bool.true_and]
    by_cases c1 : (l[l.length - 1]).f0.f0 = 1 ∧ (l[l.length - 1]).f0.f1 = 1
    · rw [q1.2 c1]; simp [c1]
    · have : ¬ (some ((l[l.length - 1]).f0.f0, (l[l.length - 1]).f0.f1) = some ((1 : Int), (1 : Int))) := by simp; intro h; exact fun h2 => c1 ⟨h, h2⟩
      have z : ¬ cmpR (l[l.length - 1]).f0.f0 (l[l.length - 1]).f0.f1 1 1 = 0 := fun h => c1 (q1.1 h)
      rw [decide_eq_false this]; congr 1; simp [z]
  · rw [if_neg (fun h => c0 (q0.1 h))]
    have : ¬ (some ((l[0]).f0.f0, (l[0]).f0.f1) = some ((0 : Int), (1 : Int))) := by simp; intro h; exact fun h2 => c0 ⟨h, h2⟩
    rw [decide_eq_false this]; rfl
theorem spec_imGood_l (l : List S68) (h2 : 2 ≤ l.length) (hn : l.length ≤ 12) : ∀ (d i k : Nat) (h : i + 1 + d = l.length), 1000000000 + d + 1 < k → (∀ x ∈ l.take (i + 1), ptB (pt x) = true) →
    spec_imGood.l0 k l l l.length ((i + 1 : Nat) : Int) = some (chk (some (pt (l[i]'(by omega)))) ((l.drop (i + 1)).map pt) && finB l) := by
  intro d
  induction d with
  | zero =>
    intro i k h1 h3 h4
    rw [spec_imGood_fin l h2 hn (by rwa [List.take_of_length_le (by omega)] at h4) k _ (by omega) (by omega), List.drop_eq_nil_of_le (by omega)]; simp [chk]
  | succ d ih =>
    intro i k h1 h3 h4
    obtain ⟨k, rfl⟩ : ∃ q, k = q + 1 := ⟨k - 1, by omega⟩
    have hp : ptB (pt (l[i]'(by omega))) = true := h4 _ (by rw [List.take_succ_eq_append_getElem (by omega)]; exact List.mem_append_right _ (List.mem_singleton_self _))
    have hgi : goodB (l[i]'(by omega)).f0.f0 (l[i]'(by omega)).f0.f1 = true := (coordB_iff.1 (ptB_iff.1 hp).1).1
    simp only [spec_imGood.l0]
    rw [if_pos (by omega), if_pos (by omega), if_pos (by omega), rdPt l (i + 1) (by omega), spec_imCoord_at _ _ k (by omega), Option.bind_some, List.drop_eq_getElem_cons (show i + 1 < l.length by omega), List.map_cons, chk]
    by_cases c1 : coordB (l[i + 1]).f0.f0 (l[i + 1]).f0.f1 = true
    · rw [if_pos c1, spec_imCoord_at _ _ k (by omega), Option.bind_some]
      by_cases c2 : coordB (l[i + 1]).f1.f0 (l[i + 1]).f1.f1 = true
      · have hp1 : ptB (pt (l[i + 1])) = true := ptB_iff.2 ⟨c1, c2⟩
        rw [if_pos c2, if_pos (show ((i + 1 : Nat) : Int) > 0 by omega), w64 (x := ((i + 1 : Nat) : Int) - 1) (by omega) (by omega), if_pos (by omega), if_pos (by omega), show ((i + 1 : Nat) : Int) - 1 = ((i : Nat) : Int) by omega, rdPt l i (by omega), spec_raCmp_at _ _ _ _ hgi (coordB_iff.1 c1).1, Option.bind_some, hp1, Bool.true_and]
        have z : (cmpR (l[i]'(by omega)).f0.f0 (l[i]'(by omega)).f0.f1 (l[i + 1]).f0.f0 (l[i + 1]).f0.f1 ≥ 0) ↔ ¬ ((l[i]'(by omega)).f0.f0 * (l[i + 1]).f0.f1 < (l[i + 1]).f0.f0 * (l[i]'(by omega)).f0.f1) := by
          unfold cmpR; repeat' split <;> omega
        have e : (pt (l[i]'(by omega))).xn * (pt (l[i + 1])).xd < (pt (l[i + 1])).xn * (pt (l[i]'(by omega))).xd ↔ ((l[i]'(by omega)).f0.f0 * (l[i + 1]).f0.f1 < (l[i + 1]).f0.f0 * (l[i]'(by omega)).f0.f1) := Iff.rfl
        by_cases s : ((l[i]'(by omega)).f0.f0 * (l[i + 1]).f0.f1 < (l[i + 1]).f0.f0 * (l[i]'(by omega)).f0.f1)
        · rw [if_neg (fun h => z.1 h s), decide_eq_true (e.2 s), Bool.true_and, w64 (by omega) (by omega), show ((i + 1 : Nat) : Int) + 1 = ((i + 1 + 1 : Nat) : Int) by omega]
          refine ih (i + 1) k (by omega) (by omega) ?_
          intro x hx
          rw [List.take_succ_eq_append_getElem (by omega)] at hx
          rcases List.mem_append.1 hx with hx | hx
          · exact h4 x hx
          · simp at hx; rw [hx]; exact hp1
        · rw [if_pos (z.2 s), decide_eq_false (fun h => s (e.1 h))]; rfl
      · have hp1 : ptB (pt (l[i + 1])) = false := by rw [Bool.eq_false_iff]; intro h; exact c2 (ptB_iff.1 h).2
        rw [if_neg c2, hp1]; rfl
    · have hp1 : ptB (pt (l[i + 1])) = false := by rw [Bool.eq_false_iff]; intro h; exact c1 (ptB_iff.1 h).1
      rw [if_neg c1, hp1]; rfl
theorem spec_imGood_at (l : List S68) (k : Nat) (hk : 1000000100 < k) : spec_imGood.f k l = some (mapB (l.map pt)) := by
  simp only [spec_imGood.f, spec_l1In_eq, Option.bind_some, mapB, List.length_map]
  by_cases h : (2 : Int) ≤ (l.length : Int) ∧ (l.length : Int) ≤ 12
  · have h' : 2 ≤ l.length ∧ l.length ≤ 12 := by omega
    rw [decide_eq_true h, decide_eq_true h', Bool.true_and]
    simp only [if_true]
    obtain ⟨k, rfl⟩ : ∃ q, k = q + 1 := ⟨k - 1, by omega⟩
    have key : spec_imGood.l0 (k + 1) l l l.length 0 = some (chk none (l.map pt) && finB l) := by
      have ed : l.map pt = pt (l[0]'(by omega)) :: (l.drop 1).map pt := by
        conv => lhs; rw [← List.drop_zero (l := l), List.drop_eq_getElem_cons (show 0 < l.length by omega)]
        rfl
      simp only [spec_imGood.l0]
      rw [if_pos (show (0 : Int) < (l.length : Int) by omega), if_pos (show (0 : Int) ≤ 0 by omega), if_pos (show (0 : Int) < (l.length : Int) by omega)]
      have e0 : rd_T68 l 0 = l[0] := rdPt l 0 (by omega)
      rw [e0, spec_imCoord_at _ _ k (by omega), Option.bind_some, ed, chk]
      by_cases c1 : coordB (l[0]).f0.f0 (l[0]).f0.f1 = true
      · rw [if_pos c1, spec_imCoord_at _ _ k (by omega), Option.bind_some]
        by_cases c2 : coordB (l[0]).f1.f0 (l[0]).f1.f1 = true
        · have hp1 : ptB (pt (l[0])) = true := ptB_iff.2 ⟨c1, c2⟩
          rw [if_pos c2, if_neg (show ¬ (0 : Int) > 0 by omega), hp1, Bool.true_and, w64 (by omega) (by omega)]
          have := spec_imGood_l l h'.1 h'.2 (l.length - 1) 0 k (by omega) (by omega) (by
            intro x hx
            rw [List.take_succ_eq_append_getElem (by omega)] at hx
            simp at hx; rw [hx]; exact hp1)
          rw [show (0 : Int) + 1 = ((0 + 1 : Nat) : Int) by rfl]; exact this
        · have hp1 : ptB (pt (l[0])) = false := by rw [Bool.eq_false_iff]; intro h; exact c2 (ptB_iff.1 h).2
          rw [if_neg c2, hp1]; rfl
      · have hp1 : ptB (pt (l[0])) = false := by rw [Bool.eq_false_iff]; intro h; exact c1 (ptB_iff.1 h).1
        rw [if_neg c1, hp1]; rfl
    rw [key, chk_none]
    unfold finB
    cases (l.map pt).all ptB <;> cases risB ((l.map pt).map xOf) <;> cases decide (Option.map xOf (List.map pt l).head? = some (0, 1)) <;> cases decide (Option.map xOf (List.map pt l).getLast? = some (1, 1)) <;> rfl
  · have h' : ¬ (2 ≤ l.length ∧ l.length ≤ 12) := by omega
    rw [decide_eq_false h, decide_eq_false h']; simp

/-! isUnit -/
theorem impl_isUnit_at (n d : Int) (k : Nat) (hk : 1000000000 < k) : impl_isUnit.f k n d = some (unitB n d) := by
  simp only [impl_isUnit.f, impl_isRat_at n d k hk, Option.bind_some, unitB]
  cases goodB n d
  · simp
  · by_cases h : n ≥ 0 <;> simp [h]

/-! cmpI -/
theorem impl_compare_at (a b c d : Int) (h : goodB a b = true) (h2 : goodB c d = true) : impl_compare.f a b c d = some (cmpR a b c d) := by
  obtain ⟨p1, p2, _⟩ := goodB_mul h h2
  simp only [impl_compare.f, cmpR]
  rw [w64 (by omega) (by omega), w64 (by omega) (by omega)]
  by_cases q : a * d < c * b
  · rw [if_pos q, if_pos q]
  · rw [if_neg q, if_neg q]; split <;> rfl
theorem impl_less_at (a b c d : Int) (h : goodB a b = true) (h2 : goodB c d = true) : impl_less.f a b c d = some (decide (a * d < c * b)) := by
  simp only [impl_less.f, impl_compare_at a b c d h h2, Option.bind_some, cmpR]
  congr 2; rw [eq_iff_iff]; repeat' split <;> omega

/-! isRising -/
theorem impl_isRising_l (xs : List S28) (hn : xs.length ≤ 1000) (hg : ∀ x ∈ xs, goodB x.f0 x.f1 = true) : ∀ (d i k : Nat), i + 1 + d = xs.length → d < k →
    impl_isRising.l0 k xs ((i + 1 : Nat) : Int) = some (risB ((xs.drop i).map rt)) := by
  intro d
  induction d with
  | zero =>
    intro i k h1 h3
    obtain ⟨k, rfl⟩ : ∃ q, k = q + 1 := ⟨k - 1, by omega⟩
    simp only [impl_isRising.l0]; rw [if_neg (by omega), List.drop_eq_getElem_cons (show i < xs.length by omega), List.drop_eq_nil_of_le (by omega)]; rfl
  | succ d ih =>
    intro i k h1 h3
    obtain ⟨k, rfl⟩ : ∃ q, k = q + 1 := ⟨k - 1, by omega⟩
    simp only [impl_isRising.l0]
    rw [if_pos (by omega), w64 (x := ((i + 1 : Nat) : Int) - 1) (by omega) (by omega), if_pos (by omega), if_pos (by omega), if_pos (by omega), show ((i + 1 : Nat) : Int) - 1 = ((i : Nat) : Int) by omega, rdRt xs i (by omega), rdRt xs (i + 1) (by omega),
      impl_less_at _ _ _ _ (hg _ (List.getElem_mem _)) (hg _ (List.getElem_mem _)), Option.bind_some, w64 (by omega) (by omega), show ((i + 1 : Nat) : Int) + 1 = ((i + 1 + 1 : Nat) : Int) by omega, ih (i + 1) k (by omega) (by omega),
      List.drop_eq_getElem_cons (show i < xs.length by omega), List.drop_eq_getElem_cons (show i + 1 < xs.length by omega)]
    simp only [List.map_cons, risB, rt]
    by_cases h : (xs[i]).f0 * (xs[i + 1]).f1 < (xs[i + 1]).f0 * (xs[i]).f1
    · rw [decide_eq_true h, if_pos rfl, Bool.true_and]
    · rw [decide_eq_false h, if_neg (by simp), Bool.false_and]

/-! anyS(I=slices_IndexFunc__impl_isMap_1;C=slices_ContainsFunc__impl_isMap_1;S=S68;RD=rdPt;PRED=impl_isMap_1.f k e.f0.f0 e.f0.f1 e.f1.f0 e.f1.f1) -/
/-- ContainsFunc over structs, the predicate with rounds. -/
theorem slices_IndexFunc__impl_isMap_1_l (P : S68 → Bool) (xs : List S68) (K : Nat) (hP : ∀ e, e ∈ xs → ∀ k, K < k → impl_isMap_1.f k e.f0.f0 e.f0.f1 e.f1.f0 e.f1.f1 = some (P e)) (hn : xs.length ≤ 4611686018427387904) : ∀ (d i k : Nat), i + d = xs.length → K + d + 1 < k →
    ∃ r : Int, slices_IndexFunc__impl_isMap_1.l0 k xs xs.length i = some r ∧ (decide (r ≥ 0)) = (xs.drop i).any P := by
  intro d
  induction d with
  | zero =>
    intro i k h1 h2
    obtain ⟨k, rfl⟩ : ∃ q, k = q + 1 := ⟨k - 1, by omega⟩
    refine ⟨-1, ?_, ?_⟩
    · simp only [slices_IndexFunc__impl_isMap_1.l0]; rw [if_neg (by omega)]
    · rw [List.drop_eq_nil_of_le (by omega)]; rfl
  | succ d ih =>
    intro i k h1 h2
    obtain ⟨k, rfl⟩ : ∃ q, k = q + 1 := ⟨k - 1, by omega⟩
    simp only [slices_IndexFunc__impl_isMap_1.l0]
    have a2 := hP (xs[i]'(by omega)) (List.getElem_mem _) k (by omega)
    rw [if_pos (by omega), if_pos (by omega), if_pos (by omega), rdPt xs i (by omega), a2, Option.bind_some, List.drop_eq_getElem_cons (show i < xs.length by omega), List.any_cons]
    by_cases h : P (xs[i]'(by omega)) = true
    · exact ⟨i, by rw [if_pos h], by rw [h]; simp⟩
    · obtain ⟨r, hr, h3⟩ := ih (i + 1) k (by omega) (by omega)
      refine ⟨r, ?_, ?_⟩
      · rw [if_neg h, w64 (by omega) (by omega), show (i : Int) + 1 = ((i + 1 : Nat) : Int) by omega]; exact hr
      · rw [h3]; simp [h]
theorem slices_ContainsFunc__impl_isMap_1_at (P : S68 → Bool) (xs : List S68) (K k : Nat) (hP : ∀ e, e ∈ xs → ∀ k, K < k → impl_isMap_1.f k e.f0.f0 e.f0.f1 e.f1.f0 e.f1.f1 = some (P e)) (hn : xs.length ≤ 4611686018427387904) (hk : K + xs.length + 1 < k) : slices_ContainsFunc__impl_isMap_1.f k xs = some (xs.any P) := by
  obtain ⟨r, h1, h2⟩ := slices_IndexFunc__impl_isMap_1_l P xs K hP hn xs.length 0 k (by omega) hk
  simp only [slices_ContainsFunc__impl_isMap_1.f, slices_IndexFunc__impl_isMap_1.f]
  rw [show (0 : Int) = ((0 : Nat) : Int) by rfl, h1, Option.bind_some]
  simp only [List.drop_zero] at h2; rw [← h2]; rfl

/-! isMap -/
theorem impl_isCoord_at (n d : Int) (k : Nat) (hk : 1000000000 < k) : impl_isCoord.f k n d = some (coordB n d) := by
  simp only [impl_isCoord.f, impl_isUnit_at n d k hk, Option.bind_some, coordB]
  cases unitB n d <;> simp
theorem impl_isMap_1_at (p : S68) (k : Nat) (hk : 1000000000 < k) : impl_isMap_1.f k p.f0.f0 p.f0.f1 p.f1.f0 p.f1.f1 = some (!(ptB (pt p))) := by
  simp only [impl_isMap_1.f, impl_isCoord_at _ _ k hk, Option.bind_some, ptB, pt]
  cases coordB p.f0.f0 p.f0.f1 <;> simp
theorem impl_xsOf_l (xs : List S68) (hn : xs.length ≤ 1000) : ∀ (d i k : Nat) (acc : List S28), i + d = xs.length → acc.length = i → d < k →
    impl_xsOf.l0 k acc xs xs.length i = some (acc ++ (xs.drop i).map (·.f0)) := by
  intro d
  induction d with
  | zero =>
    intro i k acc h1 h2 h3
    obtain ⟨k, rfl⟩ : ∃ q, k = q + 1 := ⟨k - 1, by omega⟩
    simp only [impl_xsOf.l0]; rw [if_neg (by omega), List.drop_eq_nil_of_le (by omega)]; simp
  | succ d ih =>
    intro i k acc h1 h2 h3
    obtain ⟨k, rfl⟩ : ∃ q, k = q + 1 := ⟨k - 1, by omega⟩
    simp only [impl_xsOf.l0]
    rw [if_pos (by omega), if_pos (by omega), if_pos (by omega), if_pos (by omega), rdPt xs i (by omega), w64 (by omega) (by omega), show (i : Int) + 1 = ((i + 1 : Nat) : Int) by omega, ih (i + 1) k _ (by omega) (by simp; omega) (by omega), List.drop_eq_getElem_cons (show i < xs.length by omega)]
    simp only [List.map_cons, List.append_assoc, List.cons_append, List.nil_append]
theorem impl_isMap_at (l : List S68) (k : Nat) (hk : 1000000100 < k) : impl_isMap.f k l = some (mapB (l.map pt)) := by
  obtain ⟨k, rfl⟩ : ∃ q, k = q + 1 := ⟨k - 1, by omega⟩
  simp only [impl_isMap.f, impl_within_eq, Option.bind_some, mapB, List.length_map]
  by_cases h : (2 : Int) ≤ (l.length : Int) ∧ (l.length : Int) ≤ 12
  · have h' : 2 ≤ l.length ∧ l.length ≤ 12 := by omega
    rw [decide_eq_true h, decide_eq_true h', Bool.true_and]
    simp only [if_true]
    rw [slices_ContainsFunc__impl_isMap_1_at (fun p => !(ptB (pt p))) l 1000000000 (k + 1) (fun e _ k hk => impl_isMap_1_at e k hk) (by omega) (by omega), Option.bind_some]
    by_cases ha : (l.map pt).all ptB = true
    · have hb : (l.any fun p => !(ptB (pt p))) = false := by
        rw [List.any_eq_false]; intro p hp
        rw [List.all_eq_true] at ha
        have := ha (pt p) (List.mem_map_of_mem hp)
        simp [this]
      rw [hb, ha, Bool.true_and]
      have hgood : ∀ p ∈ l, goodB p.f0.f0 p.f0.f1 = true := by
        intro p hp
        rw [List.all_eq_true] at ha
        exact (coordB_iff.1 (ptB_iff.1 (ha (pt p) (List.mem_map_of_mem hp))).1).1
      have e0 : rd_T68 l 0 = l[0] := rdPt l 0 (by omega)
      have e1 : rd_T68 l ((l.length : Int) - 1) = l[l.length - 1] := by
        rw [show (l.length : Int) - 1 = ((l.length - 1 : Nat) : Int) by omega]; exact rdPt l (l.length - 1) (by omega)
      have f0 : (l.map pt).head?.map xOf = some ((l[0]).f0.f0, (l[0]).f0.f1) := by
        rw [List.head?_eq_getElem?]; simp [xOf, pt, show 0 < l.length by omega]
      have f1 : (l.map pt).getLast?.map xOf = some ((l[l.length - 1]).f0.f0, (l[l.length - 1]).f0.f1) := by
        rw [List.getLast?_eq_getElem?]; simp [xOf, pt, show l.length - 1 < l.length by omega]
      simp only [impl_isMap.j0, impl_zero.f, impl_oneRat.f, Option.bind_some, Bool.false_eq_true, if_false]
      rw [w64 (x := (l.length : Int) - 1) (by omega) (by omega), if_pos (show 0 < (l.length : Int) by omega), if_pos (show 0 ≤ (l.length : Int) - 1 by omega), if_pos (show (l.length : Int) - 1 < (l.length : Int) by omega), e0, e1, f0, f1]
      have hx := impl_xsOf_l l (by omega) l.length 0 k [] (by omega) rfl (by omega)
      have hr := impl_isRising_l (l.map (·.f0)) (by simp; omega) (fun x hx => by obtain ⟨p, hp, rfl⟩ := List.mem_map.1 hx; exact hgood p hp) (l.length - 1) 0 k (by simp; omega) (by omega)
      simp only [List.drop_zero, List.nil_append] at hx hr
      have hx' : impl_xsOf.f k l = some (l.map (·.f0)) := hx
      have hr' : impl_isRising.f k (l.map (·.f0)) = some (risB ((l.map (·.f0)).map rt)) := hr
      simp only [hx', hr', Option.bind_some, List.map_map]
      have em : (List.map (rt ∘ fun x => x.f0) l) = List.map (xOf ∘ pt) l := rfl
      rw [em]
      by_cases c0 : (l[0]).f0.f0 = 0 ∧ (l[0]).f0.f1 = 1
      · by_cases c1 : (l[l.length - 1]).f0.f0 = 1 ∧ (l[l.length - 1]).f0.f1 = 1
        · simp [c0.1, c0.2, c1.1, c1.2]
        · rw [if_pos (by simp [c0.1, c0.2]), if_neg (by simp; intro h; exact fun h2 => c1 ⟨h, h2⟩)]
          have : ¬ (some ((l[l.length - 1]).f0.f0, (l[l.length - 1]).f0.f1) = some ((1 : Int), (1 : Int))) := by simp; intro h; exact fun h2 => c1 ⟨h, h2⟩
          simp [this]
      · rw [if_neg (by simp; intro h; exact fun h2 => c0 ⟨h, h2⟩)]
        have : ¬ (some ((l[0]).f0.f0, (l[0]).f0.f1) = some ((0 : Int), (1 : Int))) := by simp; intro h; exact fun h2 => c0 ⟨h, h2⟩
        simp [this]
    · have hb : (l.any fun p => !(ptB (pt p))) = true := by
        rw [← Bool.not_eq_false]; intro e; rw [List.any_eq_false] at e; apply ha; rw [List.all_eq_true]
        intro q hq; obtain ⟨p, hp, rfl⟩ := List.mem_map.1 hq; simpa using e p hp
      rw [hb, Bool.eq_false_iff.2 ha]; simp [impl_isMap.j0]
  · have h' : ¬ (2 ≤ l.length ∧ l.length ≤ 12) := by omega
    rw [decide_eq_false h, decide_eq_false h']; simp [impl_isMap.j0]

/-! anyS2(I=slices_IndexFunc__impl_isLapMap_1;C=slices_ContainsFunc__impl_isLapMap_1;S=S28;RD=rdRt;PRED=impl_isLapMap_1.f e.f0 e.f1) -/
/-- ContainsFunc over structs, the predicate without rounds. -/
theorem slices_IndexFunc__impl_isLapMap_1_l (P : S28 → Bool) (xs : List S28) (hP : ∀ e, e ∈ xs → impl_isLapMap_1.f e.f0 e.f1 = some (P e)) (hn : xs.length ≤ 4611686018427387904) : ∀ (d i k : Nat), i + d = xs.length → d < k →
    ∃ r : Int, slices_IndexFunc__impl_isLapMap_1.l0 k xs xs.length i = some r ∧ (decide (r ≥ 0)) = (xs.drop i).any P := by
  intro d
  induction d with
  | zero =>
    intro i k h1 h2
    obtain ⟨k, rfl⟩ : ∃ q, k = q + 1 := ⟨k - 1, by omega⟩
    refine ⟨-1, ?_, ?_⟩
    · simp only [slices_IndexFunc__impl_isLapMap_1.l0]; rw [if_neg (by omega)]
    · rw [List.drop_eq_nil_of_le (by omega)]; rfl
  | succ d ih =>
    intro i k h1 h2
    obtain ⟨k, rfl⟩ : ∃ q, k = q + 1 := ⟨k - 1, by omega⟩
    simp only [slices_IndexFunc__impl_isLapMap_1.l0]
    have a2 := hP (xs[i]'(by omega)) (List.getElem_mem _)
    rw [if_pos (by omega), if_pos (by omega), if_pos (by omega), rdRt xs i (by omega), a2, Option.bind_some, List.drop_eq_getElem_cons (show i < xs.length by omega), List.any_cons]
    by_cases h : P (xs[i]'(by omega)) = true
    · exact ⟨i, by rw [if_pos h], by rw [h]; simp⟩
    · obtain ⟨r, hr, h3⟩ := ih (i + 1) k (by omega) (by omega)
      refine ⟨r, ?_, ?_⟩
      · rw [if_neg h, w64 (by omega) (by omega), show (i : Int) + 1 = ((i + 1 : Nat) : Int) by omega]; exact hr
      · rw [h3]; simp [h]
theorem slices_ContainsFunc__impl_isLapMap_1_at (P : S28 → Bool) (xs : List S28) (k : Nat) (hP : ∀ e, e ∈ xs → impl_isLapMap_1.f e.f0 e.f1 = some (P e)) (hn : xs.length ≤ 4611686018427387904) (hk : xs.length < k) : slices_ContainsFunc__impl_isLapMap_1.f k xs = some (xs.any P) := by
  obtain ⟨r, h1, h2⟩ := slices_IndexFunc__impl_isLapMap_1_l P xs hP hn xs.length 0 k (by omega) hk
  simp only [slices_ContainsFunc__impl_isLapMap_1.f, slices_IndexFunc__impl_isLapMap_1.f]
  rw [show (0 : Int) = ((0 : Nat) : Int) by rfl, h1, Option.bind_some]
  simp only [List.drop_zero] at h2; rw [← h2]; rfl

/-! lapMap -/
/-- The points of a map whose slopes aren't zero. -/
def lapB (l : List Pt) : Bool := mapB l && (slopesR l).all fun s => decide (s.1 ≠ 0)
theorem slopesR_len : ∀ l, (slopesR l).length = l.length - 1
  | [] => rfl
  | [_] => rfl
  | p :: r :: l => by rw [slopesR, List.length_cons, slopesR_len (r :: l)]; simp
theorem impl_isLapMap_at (l : List S68) (k : Nat) (hk : 5000000000000000100 < k) : impl_isLapMap.f k l = some (lapB (l.map pt)) := by
  simp only [impl_isLapMap.f, impl_isMap_at l k (by omega), Option.bind_some, lapB]
  cases hm : mapB (l.map pt)
  · simp
  · obtain ⟨m1, m2, _⟩ := mapB_parts hm
    have hl := slopesR_len (l.map pt)
    simp only [if_true, impl_slopes_at l hm k hk, Option.bind_some, Bool.true_and]
    rw [slices_ContainsFunc__impl_isLapMap_1_at (fun s => s.f0 == 0) _ k (fun e _ => rfl) (by simp; omega) (by simp; omega), Option.bind_some]
    congr 1
    rw [List.any_map, Bool.eq_iff_iff, Bool.not_eq_true', List.any_eq_false, List.all_eq_true]
    simp [mkRt]
theorem spec_woMap_l (xs : List S28) (hn : xs.length ≤ 1000) : ∀ (d i k : Nat), i + d = xs.length → d < k → spec_woMap.l0 k xs xs.length i = some ((xs.drop i).all fun s => decide (s.f0 ≠ 0)) := by
  intro d
  induction d with
  | zero =>
    intro i k h1 h2
    obtain ⟨k, rfl⟩ : ∃ q, k = q + 1 := ⟨k - 1, by omega⟩
    simp only [spec_woMap.l0]; rw [if_neg (by omega), List.drop_eq_nil_of_le (by omega)]; rfl
  | succ d ih =>
    intro i k h1 h2
    obtain ⟨k, rfl⟩ : ∃ q, k = q + 1 := ⟨k - 1, by omega⟩
    simp only [spec_woMap.l0]
    rw [if_pos (by omega), if_pos (by omega), if_pos (by omega), rdRt xs i (by omega), w64 (by omega) (by omega), show (i : Int) + 1 = ((i + 1 : Nat) : Int) by omega, ih (i + 1) k (by omega) (by omega), List.drop_eq_getElem_cons (show i < xs.length by omega), List.all_cons]
    by_cases h : (xs[i]'(by omega)).f0 = 0
    · rw [if_pos h]; simp [h]
    · rw [if_neg h, decide_eq_true h, Bool.true_and]
theorem spec_woMap_at (l : List S68) (k : Nat) (hk : 5000000000000000100 < k) : spec_woMap.f k l = some (lapB (l.map pt)) := by
  simp only [spec_woMap.f, spec_imGood_at l k (by omega), Option.bind_some, lapB]
  cases hm : mapB (l.map pt)
  · simp
  · obtain ⟨m1, m2, _⟩ := mapB_parts hm
    have hl := slopesR_len (l.map pt)
    simp only [if_true, spec_imSlopes_at l hm k hk, Option.bind_some, Bool.true_and]
    have := spec_woMap_l ((slopesR (l.map pt)).map mkRt) (by simp; omega) ((slopesR (l.map pt)).map mkRt).length 0 k (by omega) (by simp; omega)
    rw [show (0 : Int) = ((0 : Nat) : Int) by rfl, this, List.drop_zero, List.all_map]; rfl

/-! laps -/
theorem spec_l1Sign_eq (x : Int) : spec_l1Sign.f x = some (sgn x) := by
  unfold spec_l1Sign.f sgn
  by_cases h : x > 0
  · simp [h]
  · by_cases h2 : x < 0 <;> simp [h, h2]
theorem impl_sign_eq (x d : Int) (h1 : -1000000000 ≤ x) (h2 : x ≤ 1000000000) (h3 : 1 ≤ d) (h4 : d ≤ 1000000000) : impl_sign.f x d = some (sgn x) := by
  simp only [impl_sign.f, impl_zero.f, Option.bind_some, impl_compare.f, Int.mul_one, Int.zero_mul]
  rw [w64 (x := x) (by omega) (by omega), w64 (x := 0) (by omega) (by omega)]
  unfold sgn
  by_cases h : x > 0
  · rw [if_neg (show ¬ x < 0 by omega), if_pos h, if_pos h]; rfl
  · by_cases h2 : x < 0
    · rw [if_pos h2, if_neg h, if_pos h2]; rfl
    · rw [if_neg h2, if_neg h, if_neg h, if_neg h2]; rfl
theorem rdL_eq (xs : List (List Int)) (i : Nat) : rd_L5 xs (i : Int) = xs.getD i [] := by simp [rd_L5]
theorem lap_acc {xs : List (List Int)} {i : Nat} (h : LapOK i xs) (h0 : 0 < xs.length) : ∃ a b s : Int, rd_L5 xs ((xs.length - 1 : Nat) : Int) = [a, b, s] ∧ xs.getD (xs.length - 1) [] = [a, b, s] := by
  obtain ⟨a, b, s, e, _⟩ := h.get (xs.length - 1) (by omega)
  exact ⟨a, b, s, by rw [rdL_eq, e], e⟩
theorem spec_imLaps_l (xs : List S28) (hn : xs.length ≤ 1000) : ∀ (d i k : Nat) (out : List (List Int)), i + d = xs.length → d < k → LapOK i out →
    spec_imLaps.l0 k out xs xs.length i = some (lapsR i ((xs.drop i).map fun s => sgn s.f0) out) := by
  intro d
  induction d with
  | zero =>
    intro i k out h1 h2 h3
    obtain ⟨k, rfl⟩ : ∃ q, k = q + 1 := ⟨k - 1, by omega⟩
    simp only [spec_imLaps.l0]; rw [if_neg (by omega), List.drop_eq_nil_of_le (by omega)]; rfl
  | succ d ih =>
    intro i k out h1 h2 h3
    obtain ⟨k, rfl⟩ : ∃ q, k = q + 1 := ⟨k - 1, by omega⟩
    have hl := h3.len
    have st := ih (i + 1) k (lapStep i (sgn (xs[i]'(by omega)).f0) out) (by omega) (by omega) (lapStep_ok h3 (sgn_bd _))
    simp only [spec_imLaps.l0]
    rw [if_pos (by omega), if_pos (by omega), if_pos (by omega), rdRt xs i (by omega), spec_l1Sign_eq, Option.bind_some, w64 (x := (i : Int) + 1) (by omega) (by omega), show (i : Int) + 1 = ((i + 1 : Nat) : Int) by omega, List.drop_eq_getElem_cons (show i < xs.length by omega), List.map_cons, lapsR]
    unfold lapStep at st ⊢
    by_cases h0 : 0 < out.length
    · obtain ⟨a, b, s, e1, e2⟩ := lap_acc h3 h0
      rw [if_pos (by omega), w64 (x := (out.length : Int) - 1) (by omega) (by omega), show (out.length : Int) - 1 = ((out.length - 1 : Nat) : Int) by omega, if_pos (by omega), if_pos (by omega), e1, if_pos (by simp)]
      rw [e2] at st ⊢
      by_cases hs : s = sgn (xs[i]'(by omega)).f0
      · rw [if_pos (by simpa [rd] using hs), if_pos (by simp)]
        rw [if_pos ⟨h0, by simpa using hs⟩] at st ⊢
        rw [Int.toNat_natCast]
        exact st
      · rw [if_neg (by simpa [rd] using hs), if_pos (by omega)]
        rw [if_neg (by rintro ⟨_, h⟩; exact hs (by simpa using h))] at st ⊢
        exact st
    · rw [if_neg (by omega), if_pos (by omega)]
      rw [if_neg (by rintro ⟨h, _⟩; omega)] at st ⊢
      exact st
theorem impl_laps_l (xs : List S28) (hn : xs.length ≤ 1000) (hg : ∀ x ∈ xs, goodB x.f0 x.f1 = true) : ∀ (d i k : Nat) (out : List (List Int)), i + d = xs.length → d < k → LapOK i out →
    impl_laps.l0 k out xs xs.length i = some (lapsR i ((xs.drop i).map fun s => sgn s.f0) out) := by
  intro d
  induction d with
  | zero =>
    intro i k out h1 h2 h3
    obtain ⟨k, rfl⟩ : ∃ q, k = q + 1 := ⟨k - 1, by omega⟩
    simp only [impl_laps.l0]; rw [if_neg (by omega), List.drop_eq_nil_of_le (by omega)]; rfl
  | succ d ih =>
    intro i k out h1 h2 h3
    obtain ⟨k, rfl⟩ : ∃ q, k = q + 1 := ⟨k - 1, by omega⟩
    have hl := h3.len
    have hi : i < xs.length := by omega
    obtain ⟨g1, g2, g3, g4, _⟩ := goodB_iff.1 (hg xs[i] (List.getElem_mem hi))
    have st := ih (i + 1) k (lapStep i (sgn (xs[i]).f0) out) (by omega) (by omega) (lapStep_ok h3 (sgn_bd _))
    have sg := impl_sign_eq (xs[i]).f0 (xs[i]).f1 (by omega) (by omega) (by omega) (by omega)
    simp only [impl_laps.l0]
    rw [if_pos (by omega), if_pos (by omega), if_pos (by omega), rdRt xs i (by omega), sg, Option.bind_some, Option.bind_some, w64 (x := (i : Int) + 1) (by omega) (by omega), w64 (x := (out.length : Int) - 1) (by omega) (by omega), show (i : Int) + 1 = ((i + 1 : Nat) : Int) by omega, List.drop_eq_getElem_cons hi, List.map_cons, lapsR]
    unfold lapStep at st ⊢
    by_cases h0 : 0 < out.length
    · obtain ⟨a, b, s, e1, e2⟩ := lap_acc h3 h0
      rw [if_pos (show (out.length : Int) - 1 ≥ 0 by omega), show (out.length : Int) - 1 = ((out.length - 1 : Nat) : Int) by omega, if_pos (by omega), if_pos (by omega), e1, if_pos (by simp)]
      rw [e2] at st ⊢
      by_cases hs : s = sgn (xs[i]).f0
      · rw [if_pos (by simpa [rd] using hs), if_pos (by simp)]
        rw [if_pos ⟨h0, by simpa using hs⟩] at st ⊢
        rw [Int.toNat_natCast]
        exact st
      · rw [if_neg (by simpa [rd] using hs), if_pos (by omega)]
        rw [if_neg (by rintro ⟨_, h⟩; exact hs (by simpa using h))] at st ⊢
        exact st
    · rw [if_neg (by omega), if_pos (by omega)]
      rw [if_neg (by rintro ⟨h, _⟩; omega)] at st ⊢
      exact st
/-- A map's laps. -/
def lapsM (l : List Pt) : List (List Int) := lapsOf ((slopesR l).map Prod.fst)
theorem lapsM_ok (l : List Pt) : LapOK (l.length - 1) (lapsM l) := by
  have := lapsOf_ok ((slopesR l).map Prod.fst)
  rwa [List.length_map, slopesR_len] at this
theorem slopesR_good : ∀ l : List Pt, (∀ p ∈ l, ptB p = true) → risB (l.map xOf) = true → ∀ s ∈ slopesR l, goodB s.1 s.2 = true
  | [], _, _, s, h => by simp [slopesR] at h
  | [_], _, _, s, h => by simp [slopesR] at h
  | p :: r :: l, hp, hr, s, h => by
    simp only [List.map_cons, risB, Bool.and_eq_true, decide_eq_true_eq] at hr
    rw [slopesR] at h
    rcases List.mem_cons.1 h with rfl | h
    · obtain ⟨u1, u2, v1, v2, s1, s2, e1, e2, e3, g1, g2, g3, hv, es⟩ := slope_ok (hp p (by simp)) (hp r (by simp)) hr.1
      rw [es]; exact g3
    · exact slopesR_good (r :: l) (fun x hx => hp x (by simp [hx])) (by simpa using hr.2) s h
theorem spec_imLaps_at (l : List S68) (hm : mapB (l.map pt) = true) (k : Nat) (hk : 5000000000000000100 < k) : spec_imLaps.f k l = some (lapsM (l.map pt)) := by
  obtain ⟨m1, m2, m3, m4⟩ := mapB_parts hm
  have hl := slopesR_len (l.map pt)
  simp only [spec_imLaps.f, spec_imSlopes_at l hm k hk, Option.bind_some]
  have := spec_imLaps_l ((slopesR (l.map pt)).map mkRt) (by simp; omega) ((slopesR (l.map pt)).map mkRt).length 0 k [] (by omega) (by simp; omega) lapOK_nil
  rw [show (0 : Int) = ((0 : Nat) : Int) by rfl, this, List.drop_zero, lapsM, lapsOf, List.map_map, List.map_map]; rfl
theorem impl_laps_at (l : List S68) (hm : mapB (l.map pt) = true) (k : Nat) (hk : 5000000000000000100 < k) : impl_laps.f k l = some (lapsM (l.map pt)) := by
  obtain ⟨m1, m2, m3, m4⟩ := mapB_parts hm
  have hl := slopesR_len (l.map pt)
  simp only [impl_laps.f, impl_slopes_at l hm k hk, Option.bind_some]
  have := impl_laps_l ((slopesR (l.map pt)).map mkRt) (by simp; omega) (fun x hx => by
    obtain ⟨s, hs, rfl⟩ := List.mem_map.1 hx
    exact slopesR_good _ m3 m4 s hs) ((slopesR (l.map pt)).map mkRt).length 0 k [] (by omega) (by simp; omega) lapOK_nil
  rw [show (0 : Int) = ((0 : Nat) : Int) by rfl, this, List.drop_zero, lapsM, lapsOf, List.map_map, List.map_map]; rfl
theorem lapB_map {l : List Pt} (h : lapB l = true) : mapB l = true := by
  unfold lapB at h; rw [Bool.and_eq_true] at h; exact h.1

/-! l1All -/
theorem spec_l1All_l (lo hi : Int) (xs : List Int) (hn : xs.length ≤ 4611686018427387904) : ∀ (d i k : Nat), i + d = xs.length → d < k →
    spec_l1All.l0 k lo hi xs xs.length i = some ((xs.drop i).all fun x => decide (lo ≤ x ∧ x ≤ hi)) := by
  intro d
  induction d with
  | zero =>
    intro i k h1 h2
    obtain ⟨k, rfl⟩ : ∃ q, k = q + 1 := ⟨k - 1, by omega⟩
    simp only [spec_l1All.l0]; rw [if_neg (by omega), List.drop_eq_nil_of_le (by omega)]; rfl
  | succ d ih =>
    intro i k h1 h2
    obtain ⟨k, rfl⟩ : ∃ q, k = q + 1 := ⟨k - 1, by omega⟩
    simp only [spec_l1All.l0]
    have a1 : rd xs (i : Int) = xs[i]'(by omega) := by simp [rd, List.getD_eq_getElem?_getD, List.getElem?_eq_getElem (show i < xs.length by omega)]
    rw [if_pos (by omega), if_pos (by omega), if_pos (by omega), a1, spec_l1In_eq, Option.bind_some, List.drop_eq_getElem_cons (show i < xs.length by omega), List.all_cons, w64 (by omega) (by omega), show (i : Int) + 1 = ((i + 1 : Nat) : Int) by omega, ih (i + 1) k (by omega) (by omega)]
    by_cases h : lo ≤ xs[i]'(by omega) ∧ xs[i]'(by omega) ≤ hi
    · rw [decide_eq_true h, if_pos rfl, Bool.true_and]
    · rw [decide_eq_false h, if_neg (by simp), Bool.false_and]
theorem spec_l1All_at (xs : List Int) (lo hi : Int) (k : Nat) (hn : xs.length ≤ 4611686018427387904) (hk : xs.length < k) : spec_l1All.f k xs lo hi = some (xs.all fun x => decide (lo ≤ x ∧ x ≤ hi)) := by
  have := spec_l1All_l lo hi xs hn xs.length 0 k (by omega) hk
  simpa [spec_l1All.f] using this

/-! anyIntC -/
theorem lapWordI_l (P : Int → Bool) (xs c : List Int) (hP : ∀ x, x ∈ xs → impl_isLapWord_1_with.f x c = some (P x)) (hn : xs.length ≤ 4611686018427387904) : ∀ (d i k : Nat), i + d = xs.length → d < k →
    ∃ r : Int, slices_IndexFunc__impl_isLapWord_1.l0 k xs xs.length i c = some r ∧ (decide (r ≥ 0)) = (xs.drop i).any P := by
  intro d
  induction d with
  | zero =>
    intro i k h1 h2
    obtain ⟨k, rfl⟩ : ∃ q, k = q + 1 := ⟨k - 1, by omega⟩
    refine ⟨-1, ?_, ?_⟩
    · simp only [slices_IndexFunc__impl_isLapWord_1.l0]; rw [if_neg (by omega)]
    · rw [List.drop_eq_nil_of_le (by omega)]; rfl
  | succ d ih =>
    intro i k h1 h2
    obtain ⟨k, rfl⟩ : ∃ q, k = q + 1 := ⟨k - 1, by omega⟩
    simp only [slices_IndexFunc__impl_isLapWord_1.l0]
    have a1 : rd xs (i : Int) = xs[i]'(by omega) := by simp [rd, List.getD_eq_getElem?_getD, List.getElem?_eq_getElem (show i < xs.length by omega)]
    have a2 := hP (xs[i]'(by omega)) (List.getElem_mem _)
    rw [if_pos (by omega), if_pos (by omega), if_pos (by omega), a1, a2, Option.bind_some, List.drop_eq_getElem_cons (show i < xs.length by omega), List.any_cons]
    by_cases h : P (xs[i]'(by omega)) = true
    · exact ⟨i, by rw [if_pos h], by rw [h]; simp⟩
    · obtain ⟨r, hr, h3⟩ := ih (i + 1) k (by omega) (by omega)
      refine ⟨r, ?_, ?_⟩
      · rw [if_neg h, w64 (by omega) (by omega), show (i : Int) + 1 = ((i + 1 : Nat) : Int) by omega]; exact hr
      · rw [h3]; simp [h]
theorem lapWordC_at (P : Int → Bool) (xs c : List Int) (k : Nat) (hP : ∀ x, x ∈ xs → impl_isLapWord_1_with.f x c = some (P x)) (hn : xs.length ≤ 4611686018427387904) (hk : xs.length < k) : slices_ContainsFunc__impl_isLapWord_1.f k xs c = some (xs.any P) := by
  obtain ⟨r, h1, h2⟩ := lapWordI_l P xs c hP hn xs.length 0 k (by omega) hk
  simp only [slices_ContainsFunc__impl_isLapWord_1.f, slices_IndexFunc__impl_isLapWord_1.f]
  rw [show (0 : Int) = ((0 : Nat) : Int) by rfl, h1, Option.bind_some]
  simp only [List.drop_zero] at h2; rw [← h2]; rfl

/-! words -/
theorem within_ok (a b c : Int) : impl_within.f a b c = some (decide (b ≤ a ∧ a ≤ c)) := impl_within_eq a b c
/-- Is a list a word of a map? -/
def wordB (l : List Pt) (w : List Int) : Bool := decide ((w.length : Int) ≤ 20) && w.all fun n => decide (0 ≤ n ∧ n ≤ ((lapsM l).length : Int) - 1)
theorem lapsM_len {l : List Pt} (h : mapB l = true) : 0 < (lapsM l).length ∧ (lapsM l).length ≤ 12 := by
  obtain ⟨m1, m2, _⟩ := mapB_parts h
  have o := lapsM_ok l
  have := o.len; have := (o.pos (by omega)).1
  exact ⟨by omega, by omega⟩
theorem spec_woGood_at (l : List S68) (w : List Int) (k : Nat) (hk : 5000000000000000100 < k) (hn : w.length ≤ 1048576) : spec_woGood.f k l w = some (lapB (l.map pt) && wordB (l.map pt) w) := by
  simp only [spec_woGood.f, spec_woMap_at l k hk, Option.bind_some, wordB]
  cases hm : lapB (l.map pt)
  · simp
  · have hl := lapsM_len (lapB_map hm)
    by_cases h : (w.length : Int) ≤ 20
    · rw [if_pos rfl, if_pos h, spec_imLaps_at l (lapB_map hm) k hk, Option.bind_some, w64 (by omega) (by omega), spec_l1All_at w 0 _ k (by omega) (by omega), Option.bind_some]; simp [h]
    · rw [if_pos rfl, if_neg h]; simp [h]
theorem impl_isLapWord_at (l : List S68) (w : List Int) (hm : lapB (l.map pt) = true) (k : Nat) (hk : 5000000000000000100 < k) (hn : w.length ≤ 1048576) : impl_isLapWord.f k l w = some (wordB (l.map pt) w) := by
  have hl := lapsM_len (lapB_map hm)
  simp only [impl_isLapWord.f, impl_laps_at l (lapB_map hm) k hk, Option.bind_some, wordB]
  by_cases h : (w.length : Int) ≤ 20
  · have c := lapWordC_at (fun x => !decide (0 ≤ x ∧ x ≤ ((lapsM (l.map pt)).length : Int) - 1)) w [((lapsM (l.map pt)).length : Int)] k (fun x _ => by
      simp only [impl_isLapWord_1_with.f, List.length_singleton]
      rw [if_pos (by decide), within_ok, Option.bind_some, show rd [((lapsM (l.map pt)).length : Int)] 0 = ((lapsM (l.map pt)).length : Int) from rfl, w64 (by omega) (by omega)]) (by omega) (by omega)
    rw [if_pos h, c, Option.bind_some]
    congr 1
    rw [decide_eq_true h, Bool.true_and, List.all_eq_not_any_not]
  · rw [if_neg h]; simp [h]
/-- The sign of a word. -/
def signR (L : List (List Int)) (w : List Int) : Int := w.foldl (fun p n => p * (L.getD n.toNat []).getD 2 0) 1
theorem unit_mul {p s : Int} (h1 : -1 ≤ p) (h2 : p ≤ 1) (h3 : -1 ≤ s) (h4 : s ≤ 1) : -1 ≤ p * s ∧ p * s ≤ 1 := by
  have : p = -1 ∨ p = 0 ∨ p = 1 := by omega
  rcases this with rfl | rfl | rfl <;> omega
theorem sign_row {N : Nat} {L : List (List Int)} (o : LapOK N L) {n : Int} (h0 : 0 ≤ n) (h1 : n ≤ (L.length : Int) - 1) : ∃ a b s : Int, rd_L5 L n = [a, b, s] ∧ (L.getD n.toNat []).getD 2 0 = s ∧ -1 ≤ s ∧ s ≤ 1 := by
  obtain ⟨a, b, s, e, _, _, _, b4, b5⟩ := o.get n.toNat (by omega)
  refine ⟨a, b, s, ?_, by rw [e]; rfl, b4, b5⟩
  have := rdL_eq L n.toNat
  rw [show ((n.toNat : Nat) : Int) = n by omega, e] at this; exact this
theorem spec_woSign_l (l : List S68) (hm : mapB (l.map pt) = true) (w : List Int) (hw : ∀ n ∈ w, 0 ≤ n ∧ n ≤ ((lapsM (l.map pt)).length : Int) - 1) (hn : w.length ≤ 1000) : ∀ (d i k : Nat) (p : Int), i + d = w.length → 5000000000000000100 + d < k → -1 ≤ p → p ≤ 1 →
    spec_woSign.l0 k l p w w.length i = some ((w.drop i).foldl (fun p n => p * ((lapsM (l.map pt)).getD n.toNat []).getD 2 0) p) := by
  intro d
  induction d with
  | zero =>
    intro i k p h1 h2 p1 p2
    obtain ⟨k, rfl⟩ : ∃ q, k = q + 1 := ⟨k - 1, by omega⟩
    simp only [spec_woSign.l0]; rw [if_neg (by omega), List.drop_eq_nil_of_le (by omega)]; rfl
  | succ d ih =>
    intro i k p h1 h2 p1 p2
    obtain ⟨k, rfl⟩ : ∃ q, k = q + 1 := ⟨k - 1, by omega⟩
    have hi : i < w.length := by omega
    have b := hw w[i] (List.getElem_mem hi)
    obtain ⟨x, y, s, e1, e2, s1, s2⟩ := sign_row (lapsM_ok (l.map pt)) b.1 b.2
    have u := unit_mul p1 p2 s1 s2
    have a1 : rd w (i : Int) = w[i] := by simp [rd, List.getD_eq_getElem?_getD, List.getElem?_eq_getElem hi]
    simp only [spec_woSign.l0]
    rw [if_pos (by omega), if_pos (by omega), if_pos (by omega), a1, spec_imLaps_at l hm k (by omega), Option.bind_some, if_pos (by omega), if_pos (by omega), e1, if_pos (by simp), show rd [x, y, s] 2 = s from rfl, w64 (x := p * s) (by omega) (by omega), w64 (x := (i : Int) + 1) (by omega) (by omega), show (i : Int) + 1 = ((i + 1 : Nat) : Int) by omega, ih (i + 1) k _ (by omega) (by omega) u.1 u.2, List.drop_eq_getElem_cons hi, List.foldl_cons, e2]
theorem impl_wordSign_l (L : List (List Int)) (N : Nat) (o : LapOK N L) (w : List Int) (hw : ∀ n ∈ w, 0 ≤ n ∧ n ≤ (L.length : Int) - 1) (hn : w.length ≤ 1000) : ∀ (d i k : Nat) (p : Int), i + d = w.length → d < k → -1 ≤ p → p ≤ 1 →
    impl_wordSign.l0 k L p w w.length i = some ((w.drop i).foldl (fun p n => p * (L.getD n.toNat []).getD 2 0) p) := by
  intro d
  induction d with
  | zero =>
    intro i k p h1 h2 p1 p2
    obtain ⟨k, rfl⟩ : ∃ q, k = q + 1 := ⟨k - 1, by omega⟩
    simp only [impl_wordSign.l0]; rw [if_neg (by omega), List.drop_eq_nil_of_le (by omega)]; rfl
  | succ d ih =>
    intro i k p h1 h2 p1 p2
    obtain ⟨k, rfl⟩ : ∃ q, k = q + 1 := ⟨k - 1, by omega⟩
    have hi : i < w.length := by omega
    have b := hw w[i] (List.getElem_mem hi)
    obtain ⟨x, y, s, e1, e2, s1, s2⟩ := sign_row o b.1 b.2
    have u := unit_mul p1 p2 s1 s2
    have a1 : rd w (i : Int) = w[i] := by simp [rd, List.getD_eq_getElem?_getD, List.getElem?_eq_getElem hi]
    simp only [impl_wordSign.l0]
    rw [if_pos (by omega), if_pos (by omega), if_pos (by omega), a1, if_pos (by omega), if_pos (by omega), e1, if_pos (by simp), show rd [x, y, s] 2 = s from rfl, w64 (x := p * s) (by omega) (by omega), w64 (x := (i : Int) + 1) (by omega) (by omega), show (i : Int) + 1 = ((i + 1 : Nat) : Int) by omega, ih (i + 1) k _ (by omega) (by omega) u.1 u.2, List.drop_eq_getElem_cons hi, List.foldl_cons, e2]
theorem wordB_iff {l : List Pt} {w : List Int} : wordB l w = true ↔ w.length ≤ 20 ∧ ∀ n ∈ w, 0 ≤ n ∧ n ≤ ((lapsM l).length : Int) - 1 := by
  simp only [wordB, Bool.and_eq_true, decide_eq_true_eq, List.all_eq_true]
  constructor <;> rintro ⟨a, b⟩ <;> exact ⟨by omega, b⟩
theorem spec_woSign_at (l : List S68) (w : List Int) (hm : lapB (l.map pt) = true) (hw : wordB (l.map pt) w = true) (k : Nat) (hk : 5000000000000000200 < k) : spec_woSign.f k l w = some (signR (lapsM (l.map pt)) w) := by
  obtain ⟨w1, w2⟩ := wordB_iff.1 hw
  have := spec_woSign_l l (lapB_map hm) w w2 (by omega) w.length 0 k 1 (by omega) (by omega) (by omega) (by omega)
  simpa [spec_woSign.f, signR] using this
theorem impl_wordSign_at (l : List S68) (w : List Int) (hm : lapB (l.map pt) = true) (hw : wordB (l.map pt) w = true) (k : Nat) (hk : 5000000000000000200 < k) : impl_wordSign.f k l w = some (signR (lapsM (l.map pt)) w) := by
  obtain ⟨w1, w2⟩ := wordB_iff.1 hw
  have := impl_wordSign_l (lapsM (l.map pt)) _ (lapsM_ok (l.map pt)) w w2 (by omega) w.length 0 k 1 (by omega) (by omega) (by omega) (by omega)
  simpa [impl_wordSign.f, impl_laps_at l (lapB_map hm) k (by omega), signR] using this

/-! cmpWords -/
theorem signR_l {N : Nat} {L : List (List Int)} (o : LapOK N L) : ∀ (w : List Int) (p : Int), (∀ n ∈ w, 0 ≤ n ∧ n ≤ (L.length : Int) - 1) → -1 ≤ p → p ≤ 1 → -1 ≤ w.foldl (fun p n => p * (L.getD n.toNat []).getD 2 0) p ∧ w.foldl (fun p n => p * (L.getD n.toNat []).getD 2 0) p ≤ 1
  | [], p, _, h1, h2 => ⟨h1, h2⟩
  | n :: w, p, h, h1, h2 => by
    obtain ⟨x, y, s, _, e2, s1, s2⟩ := sign_row o (h n (by simp)).1 (h n (by simp)).2
    rw [List.foldl_cons, e2]
    have u := unit_mul h1 h2 s1 s2
    exact signR_l o w _ (fun m hm => h m (by simp [hm])) u.1 u.2
theorem signR_bd {l : List Pt} {w : List Int} (h : wordB l w = true) : -1 ≤ signR (lapsM l) w ∧ signR (lapsM l) w ≤ 1 :=
  signR_l (lapsM_ok l) w 1 (wordB_iff.1 h).2 (by omega) (by omega)
theorem wordB_take {l : List Pt} {w : List Int} (h : wordB l w = true) (i : Nat) : wordB l (w.take i) = true := by
  rw [wordB_iff] at h ⊢
  exact ⟨by rw [List.length_take]; omega, fun n hn => h.2 n (List.mem_of_mem_take hn)⟩
/-- How two words compare, from their i-th places on. -/
def cmpW (L : List (List Int)) (a b : List Int) : Nat → Nat → Int
  | 0, _ => 0
  | d + 1, i => if a.getD i 0 = b.getD i 0 then cmpW L a b d (i + 1) else sgn (a.getD i 0 - b.getD i 0) * signR L (a.take i)
theorem compare_l (l : List S68) (hm : lapB (l.map pt) = true) (a b : List Int) (ha : wordB (l.map pt) a = true) (hb : wordB (l.map pt) b = true) (hl : a.length = b.length) : ∀ (d i k : Nat), i + d = a.length → 5000000000000000200 + d < k →
    spec_woCompare.l0 k l a b a (a.length : Int) (i : Int) = some (cmpW (lapsM (l.map pt)) a b d i) ∧ impl_compareWords.l0 k l a b (a.length : Int) (i : Int) = some (cmpW (lapsM (l.map pt)) a b d i) := by
  obtain ⟨a1, a2⟩ := wordB_iff.1 ha
  obtain ⟨b1, b2⟩ := wordB_iff.1 hb
  have hL := lapsM_len (lapB_map hm)
  intro d
  induction d with
  | zero =>
    intro i k h1 h2
    obtain ⟨k, rfl⟩ : ∃ q, k = q + 1 := ⟨k - 1, by omega⟩
    constructor
    · simp only [spec_woCompare.l0]; rw [if_neg (by omega)]; rfl
    · simp only [impl_compareWords.l0]; rw [if_neg (by omega)]; rfl
  | succ d ih =>
    intro i k h1 h2
    obtain ⟨k, rfl⟩ : ∃ q, k = q + 1 := ⟨k - 1, by omega⟩
    have ia : i < a.length := by omega
    have ib : i < b.length := by omega
    have e1 : rd a (i : Int) = a[i] := by simp [rd, List.getD_eq_getElem?_getD, List.getElem?_eq_getElem ia]
    have e2 : rd b (i : Int) = b[i] := by simp [rd, List.getD_eq_getElem?_getD, List.getElem?_eq_getElem ib]
    have g1 : a.getD i 0 = a[i] := by simp [List.getD_eq_getElem?_getD, List.getElem?_eq_getElem ia]
    have g2 : b.getD i 0 = b[i] := by simp [List.getD_eq_getElem?_getD, List.getElem?_eq_getElem ib]
    have v1 := a2 a[i] (List.getElem_mem ia)
    have v2 := b2 b[i] (List.getElem_mem ib)
    have tk := wordB_take ha i
    have sb := signR_bd tk
    have s1 := spec_woSign_at l (a.take i) hm tk k (by omega)
    have s2 := impl_wordSign_at l (a.take i) hm tk k (by omega)
    obtain ⟨i1, i2⟩ := ih (i + 1) k (by omega) (by omega)
    rw [cmpW, g1, g2]
    constructor
    · simp only [spec_woCompare.l0]
      rw [if_pos (by omega), if_pos (by omega), if_pos (by omega), if_pos (by omega), e1, e2]
      have u := unit_mul (sgn_bd (a[i] - b[i])).1 (sgn_bd (a[i] - b[i])).2 sb.1 sb.2
      by_cases c : a[i] = b[i]
      · rw [if_pos c, if_pos c, w64 (x := (i : Int) + 1) (by omega) (by omega), show (i : Int) + 1 = ((i + 1 : Nat) : Int) by omega]; exact i1
      · rw [if_neg c, if_neg c, w64 (x := a[i] - b[i]) (by omega) (by omega), spec_l1Sign_eq, Option.bind_some, if_pos (show (i : Int) ≤ (a.length : Int) by omega), Int.toNat_natCast, s1, Option.bind_some, w64 (by omega) (by omega)]
    · simp only [impl_compareWords.l0]
      rw [if_pos (by omega), if_pos (by omega), if_pos (by omega), if_pos (by omega), e1, e2, w64 (x := (i : Int) + 1) (by omega) (by omega), show (i : Int) + 1 = ((i + 1 : Nat) : Int) by omega]
      have z : (i : Int) ≤ (a.length : Int) := by omega
      by_cases c : a[i] < b[i]
      · rw [if_pos c, if_neg (show ¬ a[i] = b[i] by omega), show sgn (a[i] - b[i]) = -1 by unfold sgn; rw [if_neg (show ¬ (a[i] - b[i] > 0) by omega), if_pos (show a[i] - b[i] < 0 by omega)], Int.neg_mul, Int.one_mul]
        simp only [if_pos z, Int.toNat_natCast, s2, Option.bind_some]
        rw [w64 (by omega) (by omega)]
      · by_cases c2 : a[i] > b[i]
        · rw [if_neg c, if_pos c2, if_neg (show ¬ a[i] = b[i] by omega), show sgn (a[i] - b[i]) = 1 from if_pos (show a[i] - b[i] > 0 by omega), Int.one_mul]
          simp only [if_pos z, Int.toNat_natCast, s2, Option.bind_some]
        · rw [if_neg c, if_neg c2, if_pos (show a[i] = b[i] by omega)]; exact i2
theorem compare_at (l : List S68) (hm : lapB (l.map pt) = true) (a b : List Int) (ha : wordB (l.map pt) a = true) (hb : wordB (l.map pt) b = true) (hl : a.length = b.length) (k : Nat) (hk : 5000000000000000300 < k) :
    spec_woCompare.f k l a b = some (cmpW (lapsM (l.map pt)) a b a.length 0) ∧ impl_compareWords.f k l a b = some (cmpW (lapsM (l.map pt)) a b a.length 0) := by
  have := (wordB_iff.1 ha).1
  have h := compare_l l hm a b ha hb hl a.length 0 k (by omega) (by omega)
  rw [show ((0 : Nat) : Int) = 0 by rfl] at h
  exact h

/-! toPointS -/
/-- A law's point, as the program's. -/
def cv (x : S72) : S68 := ⟨⟨x.f0.f0, x.f0.f1⟩, ⟨x.f1.f0, x.f1.f1⟩⟩
theorem rdLp (xs : List S72) (i : Nat) (h : i < xs.length) : rd_T72 xs (i : Int) = xs[i] := by
  simp [rd_T72, List.getD_eq_getElem?_getD, List.getElem?_eq_getElem h]
theorem laws_toPointS_l : ∀ (b a : List S72) (k : Nat), (a.length : Int) + b.length ≤ 4611686018427387904 → b.length < k → ∀ xs, xs = a ++ b →
    laws_toPointS.l0 k xs (a.map cv ++ List.replicate b.length z68) a.length = some (xs.map cv) := by
  intro b
  induction b with
  | nil =>
    intro a k h1 h2 xs hx
    obtain ⟨k, rfl⟩ : ∃ q, k = q + 1 := ⟨k - 1, by omega⟩
    subst hx
    simp [laws_toPointS.l0]
  | cons x b ih =>
    intro a k h1 h2 xs hx
    obtain ⟨k, rfl⟩ : ∃ q, k = q + 1 := ⟨k - 1, by omega⟩
    simp only [List.length_cons] at h1 h2
    have hl : xs.length = a.length + b.length + 1 := by rw [hx]; simp; omega
    simp only [laws_toPointS.l0, laws_toPoint.f, laws_toRat.f, Option.bind_some]
    have a1 : rd_T72 xs (a.length : Int) = x := by rw [rdLp xs a.length (by omega)]; subst hx; simp
    rw [if_pos (by omega), if_pos (by omega), if_pos (by simp; omega), w64 (by omega) (by omega), a1]
    have e : (a.map cv ++ List.replicate (x :: b).length z68).set (a.length : Int).toNat (⟨⟨x.f0.f0, x.f0.f1⟩, ⟨x.f1.f0, x.f1.f1⟩⟩) = (a ++ [x]).map cv ++ List.replicate b.length z68 := by
      simp [List.set_append, List.replicate_succ, cv]
    rw [e, show (a.length : Int) + 1 = ((a ++ [x]).length : Int) by simp]
    exact ih (a ++ [x]) k (by simp; omega) (by omega) xs (by rw [hx]; simp)
theorem laws_toPointS_at (xs : List S72) (k : Nat) (hn : xs.length ≤ 8796093022208) (hk : xs.length < k) : laws_toPointS.f k xs = some (xs.map cv) := by
  simp only [laws_toPointS.f]
  rw [if_pos (by omega), if_pos (by simpa using hn), Int.toNat_natCast]
  have := laws_toPointS_l xs [] k (by simp; omega) hk xs (by simp)
  simpa using this
theorem laws_szPointS_at (xs : List S72) (a : Int) (hn : xs.length ≤ 8796093022208) (h1 : 0 ≤ a) (h2 : a ≤ 1048576) : laws_szPointS.f xs a = some (if (xs.length : Int) ≤ a then a - xs.length else -1) := by
  simp only [laws_szPointS.f]
  rw [w64 (by omega) (by omega)]
  by_cases h : (xs.length : Int) ≤ a
  · rw [if_neg (by omega), if_pos h]
  · rw [if_pos (by omega), if_neg h]

/-! eqPointS -/
theorem laws_eqPointS_l (xs : List S68) (hn : xs.length ≤ 4611686018427387904) : ∀ (d i k : Nat), i + d = xs.length → d < k → laws_eqPointS.l0 k xs xs i = some true := by
  intro d
  induction d with
  | zero =>
    intro i k h1 h2
    obtain ⟨k, rfl⟩ : ∃ q, k = q + 1 := ⟨k - 1, by omega⟩
    simp only [laws_eqPointS.l0]; rw [if_neg (by omega)]
  | succ d ih =>
    intro i k h1 h2
    obtain ⟨k, rfl⟩ : ∃ q, k = q + 1 := ⟨k - 1, by omega⟩
    simp only [laws_eqPointS.l0, laws_eqPoint.f, laws_eqRat.f, if_true, Option.bind_some]
    rw [if_pos (by omega), if_pos (by omega), if_pos (by omega), w64 (by omega) (by omega), show (i : Int) + 1 = ((i + 1 : Nat) : Int) by omega, ih (i + 1) k (by omega) (by omega)]
theorem laws_eqPointS_at (xs : List S68) (k : Nat) (hn : xs.length ≤ 4611686018427387904) (hk : xs.length < k) : laws_eqPointS.f k xs xs = some true := by
  simp only [laws_eqPointS.f, if_true]
  exact laws_eqPointS_l xs hn xs.length 0 k (by omega) hk

/-! toIntS -/
theorem laws_toIntS_l : ∀ (b a : List Int) (k : Nat), (a.length : Int) + b.length ≤ 4611686018427387904 → b.length < k → ∀ xs, xs = a ++ b →
    laws_toIntS.l0 k xs (a ++ List.replicate b.length 0) a.length = some xs := by
  intro b
  induction b with
  | nil =>
    intro a k h1 h2 xs hx
    obtain ⟨k, rfl⟩ : ∃ q, k = q + 1 := ⟨k - 1, by omega⟩
    subst hx
    simp [laws_toIntS.l0]
  | cons x b ih =>
    intro a k h1 h2 xs hx
    obtain ⟨k, rfl⟩ : ∃ q, k = q + 1 := ⟨k - 1, by omega⟩
    simp only [List.length_cons] at h1 h2
    have hl : xs.length = a.length + b.length + 1 := by rw [hx]; simp; omega
    simp only [laws_toIntS.l0]
    have a1 : rd xs (a.length : Int) = x := by subst hx; simp [rd, List.getD_eq_getElem?_getD]
    rw [if_pos (by omega), if_pos (by omega), if_pos (by simp; omega), w64 (by omega) (by omega), a1]
    have e : (a ++ List.replicate (x :: b).length 0).set (a.length : Int).toNat x = (a ++ [x]) ++ List.replicate b.length 0 := by simp [List.set_append, List.replicate_succ]
    rw [e, show (a.length : Int) + 1 = ((a ++ [x]).length : Int) by simp]
    exact ih (a ++ [x]) k (by simp; omega) (by omega) xs (by rw [hx]; simp)
theorem laws_toIntS_at (xs : List Int) (k : Nat) (hn : xs.length ≤ 35184372088832) (hk : xs.length < k) : laws_toIntS.f k xs = some xs := by
  simp only [laws_toIntS.f]
  rw [if_pos (by omega), if_pos (by simpa using hn), Int.toNat_natCast]
  have := laws_toIntS_l xs [] k (by simp; omega) hk xs (by simp)
  simpa using this

/-! marks0 -/
theorem laws_eqIntS_l (xs ys : List Int) (hl : xs.length = ys.length) (hn : xs.length ≤ 4611686018427387904) : ∀ (d i k : Nat), i + d = xs.length → d < k → laws_eqIntS.l0 k xs ys i = some (decide (xs.drop i = ys.drop i)) := by
  intro d
  induction d with
  | zero =>
    intro i k h1 h2
    obtain ⟨k, rfl⟩ : ∃ q, k = q + 1 := ⟨k - 1, by omega⟩
    simp only [laws_eqIntS.l0]; rw [if_neg (by omega), List.drop_eq_nil_of_le (by omega), List.drop_eq_nil_of_le (by omega)]; simp
  | succ d ih =>
    intro i k h1 h2
    obtain ⟨k, rfl⟩ : ∃ q, k = q + 1 := ⟨k - 1, by omega⟩
    simp only [laws_eqIntS.l0]
    rw [if_pos (by omega), if_pos (by omega), if_pos (by omega), w64 (by omega) (by omega), show (i : Int) + 1 = ((i + 1 : Nat) : Int) by omega, ih (i + 1) k (by omega) (by omega)]
    have a1 : rd xs (i : Int) = xs[i]'(by omega) := by simp [rd, List.getD_eq_getElem?_getD, List.getElem?_eq_getElem (show i < xs.length by omega)]
    have a2 : rd ys (i : Int) = ys[i]'(by omega) := by simp [rd, List.getD_eq_getElem?_getD, List.getElem?_eq_getElem (show i < ys.length by omega)]
    rw [a1, a2, List.drop_eq_getElem_cons (show i < xs.length by omega), List.drop_eq_getElem_cons (show i < ys.length by omega)]
    by_cases h : xs[i]'(by omega) = ys[i]'(by omega)
    · rw [if_pos h, h]; simp only [List.cons.injEq, true_and]
    · rw [if_neg h]; have q : ¬ (xs[i]'(by omega) :: xs.drop (i + 1) = ys[i]'(by omega) :: ys.drop (i + 1)) := fun e => h (List.cons.inj e).1
      simp only [q, decide_false]
theorem laws_eqIntS_at (xs ys : List Int) (k : Nat) (hn : xs.length ≤ 4611686018427387904) (hk : xs.length < k) : laws_eqIntS.f k xs ys = some (decide (xs = ys)) := by
  simp only [laws_eqIntS.f]
  by_cases h : xs.length = ys.length
  · rw [if_pos (by omega)]
    have := laws_eqIntS_l xs ys h hn xs.length 0 k (by omega) hk
    simpa using this
  · rw [if_neg (by omega)]
    have : ¬ xs = ys := fun e => h (by rw [e])
    simp [this]

end FnExactCompareWords_
open FnExactCompareWords_
theorem FnExactCompareWords : laws_FnExactCompareWords.Pure := by
  intro l xs ys _ hl _ _ _ _ _ _ _
  refine ⟨6000000000000000000, ?_⟩
  by_cases big : (xs.length : Int) > 1048576
  · simp [laws_FnExactCompareWords.f, big]
  by_cases big2 : (ys.length : Int) > 1048576
  · simp [laws_FnExactCompareWords.f, big2]
  simp only [laws_FnExactCompareWords.f, if_neg big, if_neg big2, laws_szPointS_at l 1048576 (by omega) (by omega) (by omega), Option.bind_some]
  by_cases h : (l.length : Int) ≤ 1048576
  · rw [if_pos h, if_neg (by omega)]
    have key : ∃ r : Int × Bool, spec_CompareWords.f 6000000000000000000 (l.map cv) xs ys = some r ∧ impl_CompareWords.f 6000000000000000000 (l.map cv) xs ys = some r := by
      simp only [spec_CompareWords.f, impl_CompareWords.f, spec_woGood_at _ xs 6000000000000000000 (by omega) (by omega), spec_woGood_at _ ys 6000000000000000000 (by omega) (by omega), impl_isLapMap_at _ 6000000000000000000 (by omega), Option.bind_some]
      cases hm : lapB ((l.map cv).map pt)
      · exact ⟨(0, false), by simp, by simp⟩
      · simp only [impl_isLapWord_at _ xs hm 6000000000000000000 (by omega) (by omega), impl_isLapWord_at _ ys hm 6000000000000000000 (by omega) (by omega), Bool.true_and, if_true, Option.bind_some]
        cases hw : wordB ((l.map cv).map pt) xs
        · exact ⟨(0, false), by simp, by simp⟩
        · cases hw2 : wordB ((l.map cv).map pt) ys
          · exact ⟨(0, false), by simp, by simp⟩
          · by_cases e : xs.length = ys.length
            · obtain ⟨c1, c2⟩ := compare_at (l.map cv) hm xs ys hw hw2 e 6000000000000000000 (by omega)
              refine ⟨(cmpW (lapsM ((l.map cv).map pt)) xs ys xs.length 0, true), ?_, ?_⟩
              · simp only [if_true]; rw [if_pos (by omega), c1, Option.bind_some]
              · simp only [if_true]; rw [if_pos (by omega), c2, Option.bind_some]
            · refine ⟨(0, false), ?_, ?_⟩
              · simp only [if_true]; rw [if_neg (by omega)]
              · simp only [if_true]; rw [if_neg (by omega)]
    obtain ⟨r, k1, k2⟩ := key
    simp only [laws_toPointS_at l 6000000000000000000 (by omega) (by omega), laws_toIntS_at xs 6000000000000000000 (by omega) (by omega), laws_toIntS_at ys 6000000000000000000 (by omega) (by omega), Option.bind_some, k1, k2, bne_self_eq_false, if_true, laws_FnExactCompareWords.j0, Bool.false_eq_true, if_false, laws_toPointS_at l 5999999999999999999 (by omega) (by omega), laws_toIntS_at xs 5999999999999999999 (by omega) (by omega), laws_toIntS_at ys 5999999999999999999 (by omega) (by omega), laws_eqPointS_at _ 5999999999999999999 (show (l.map cv).length ≤ 4611686018427387904 by simp; omega) (show (l.map cv).length < 5999999999999999999 by simp; omega), laws_eqIntS_at xs xs 5999999999999999999 (by omega) (by omega), laws_eqIntS_at ys ys 5999999999999999999 (by omega) (by omega), decide_true]
  · rw [if_neg h, if_pos (by omega)]

end Go.Proofs.Ytmecnnnagallnaa.Pure
