/- The program's IsRepelling returns what the reference's returns, for all arguments. -/
import Derived.Test.YtannadjfkaghjaaPFnExactIsRepellingx21
import Derived.Test.YtannadjfkaghjaaMathRatOps
import Derived.Test.YtannadjfkaghjaaMathMap
import Derived.Test.YtannadjfkaghjaaMathRat
import Derived.Test.YtannadjfkaghjaaMathQ
import Derived.Test.YtannadjfkaghjaaMathConv
import Derived.Test.YtannadjfkaghjaaMathQops
namespace Go.Proofs.Ytannadjfkaghjaa.Pure
open Go.RowKit Go.Proofs.Ytannadjfkaghjaa.PFnExactIsRepelling Go.Proofs.YtannadjfkaghjaaW.PrintWords Go.Proofs.YtannadjfkaghjaaW.PrintLast Go.Proofs.YtannadjfkaghjaaW.PrintMore Go.Proofs.Ytannadjfkaghjaa.Math
set_option linter.unusedVariables false
set_option linter.unusedSimpArgs false
namespace FnExactIsRepelling_
/-! opsOr -/
theorem mk_or (n d : Int) : ((mk n d).2.2 = true ∧ goodB (mk n d).1 (mk n d).2.1 = true) ∨ mk n d = (0, 0, false) := by
 rcases mk_cases n d with ⟨a, b, e, g⟩ | e
 ·exact .inl ⟨by rw [e], by rw [e]; exact g⟩
 ·exact .inr e
theorem good_or (a b c d : Int) : ((subR a b c d).2.2 = true ∧ goodB (subR a b c d).1 (subR a b c d).2.1 = true) ∨ subR a b c d = (0, 0, false) := by
 unfold subR
 split
 ·exact mk_or _ _
 ·exact .inr rfl
theorem mulR_or (a b c d : Int) : ((mulR a b c d).2.2 = true ∧ goodB (mulR a b c d).1 (mulR a b c d).2.1 = true) ∨ mulR a b c d = (0, 0, false) := by
 unfold mulR
 split
 ·exact mk_or _ _
 ·exact .inr rfl
theorem addR_or (a b c d : Int) : ((addR a b c d).2.2 = true ∧ goodB (addR a b c d).1 (addR a b c d).2.1 = true) ∨ addR a b c d = (0, 0, false) := by
 unfold addR
 split
 ·exact mk_or _ _
 ·exact .inr rfl

/-! rdRt -/
theorem rdRt (xs : List S53) (i : Nat) (h : i < xs.length) : rd_T53 xs (i : Int) = xs[i] := by
 simp [rd_T53, List.getD_eq_getElem?_getD, List.getElem?_eq_getElem h]
def rt (x : S53) : Int × Int := (x.f0, x.f1)

/-! rdPt -/
theorem rdPt (xs : List S73) (i : Nat) (h : i < xs.length) : rd_T73 xs (i : Int) = xs[i] := by
 simp [rd_T73, List.getD_eq_getElem?_getD, List.getElem?_eq_getElem h]
def pt (x : S73) : Pt := ⟨x.f0.f0, x.f0.f1, x.f1.f0, x.f1.f1⟩

/-! wrap -/
theorem w64 {x : Int} (h1 : -9223372036854775808 ≤ x) (h2 : x ≤ 9223372036854775807) : wrap64 x = x := by unfold wrap64; omega

/-! gcdI -/
theorem impl_gcd_l (b : Nat) : ∀ (a k : Nat), b < k → impl_greatestDivisor.l0 k (a : Int) (b : Int) = some ((Nat.gcd a b : Nat) : Int) := by
 induction b using Nat.strongRecOn with
 | _ b ih =>
  intro a k hk
  obtain ⟨k, rfl⟩ : ∃ m, k = m + 1 := ⟨k - 1, by omega⟩
  simp only [impl_greatestDivisor.l0]
  by_cases h : b = 0
  ·subst h; simp
  ·rw [if_neg (by omega), Int.tmod_eq_emod_of_nonneg (by omega), show (a : Int) % (b : Int) = ((a % b : Nat) : Int) by omega, ih (a % b) (Nat.mod_lt _ (by omega)) b k (by have := Nat.mod_lt a (show b > 0 by omega); omega)]
   rw [Nat.gcd_comm a b, Nat.gcd_rec b a, Nat.gcd_comm]
theorem impl_abs_at (a : Int) (h : -9000000000000000000 ≤ a) : impl_abs.f a = some ((a.natAbs : Nat) : Int) := by
 unfold impl_abs.f
 by_cases h0 : a < 0
 ·rw [if_pos h0]
  by_cases h1 : -a ≤ 9223372036854775807
  ·rw [w64 (by omega) h1]; congr 1; omega
  ·omega
 ·rw [if_neg h0]; congr 1; omega
theorem impl_gcd_at (a b : Int) (k : Nat) (ha : -9000000000000000000 ≤ a) (hb : -9000000000000000000 ≤ b) (hk : b.natAbs < k) : impl_greatestDivisor.f k a b = some ((Int.gcd a b : Nat) : Int) := by
 simp only [impl_greatestDivisor.f, impl_abs_at a ha, impl_abs_at b hb, Option.bind_some, impl_gcd_l b.natAbs a.natAbs k hk]; rfl

/-! within -/
theorem impl_within_eq (a b c : Int) : impl_within.f a b c = some (decide (b ≤ a ∧ a ≤ c)) := by
 unfold impl_within.f; split <;> simp <;> omega

/-! isRat -/
theorem impl_isRat_at (n d : Int) (k : Nat) (hk : 1000000000 < k) : impl_isRat.f k n d = some (goodB n d) := by
 simp only [impl_isRat.f, impl_within_eq, Option.bind_some, goodB]
 by_cases h : 1 ≤ d ∧ d ≤ 1000000000
 ·by_cases h2 : -1000000000 ≤ n ∧ n ≤ 1000000000
  ·rw [decide_eq_true h, decide_eq_true h2, impl_gcd_at n d k (by omega) (by omega) (by omega)]
   simp only [if_true, Option.bind_some]; congr 1; rw [Bool.eq_iff_iff]; simp [h, h2]; omega
  ·rw [decide_eq_true h, decide_eq_false h2]; simp only [if_true, Bool.false_eq_true, if_false]; congr 1; symm; apply decide_eq_false; omega
 ·rw [decide_eq_false h]; simp only [Bool.false_eq_true, if_false]; congr 1; symm; apply decide_eq_false; omega

/-! lowest -/
theorem impl_lowest_at (num den : Int) (k : Nat) (h0 : den ≠ 0) (h1 : -4000000000000000000 ≤ num) (h2 : num ≤ 4000000000000000000) (h3 : -4000000000000000000 ≤ den) (h4 : den ≤ 4000000000000000000) (hk : 5000000000000000000 < k) :
  impl_lowest.f k num den = some (mk num den) := by
 have g1 := gcd_pos_right num den h0
 have g2 := gcd_le_right num den h0
 have e1 : ∀ s : Int, s ≠ 0 → -4000000000000000000 ≤ num.tdiv s ∧ num.tdiv s ≤ 4000000000000000000 := fun s hs => by
  have := Int.natAbs_tdiv_le_natAbs num s; omega
 have e2 : ∀ s : Int, s ≠ 0 → -4000000000000000000 ≤ den.tdiv s ∧ den.tdiv s ≤ 4000000000000000000 := fun s hs => by
  have := Int.natAbs_tdiv_le_natAbs den s; omega
 simp only [impl_lowest.f, impl_gcd_at num den k (by omega) (by omega) (by omega), Option.bind_some, mk, sg]
 by_cases hn : den < 0
 ·have hg : (-(Int.gcd num den : Int)) ≠ 0 := by omega
  have a := e1 _ hg; have b := e2 _ hg
  simp only [if_pos hn]
  rw [w64 (x := -(Int.gcd num den : Int)) (by omega) (by omega), if_neg hg, w64 (x := num.tdiv _) (by omega) (by omega), w64 (x := den.tdiv _) (by omega) (by omega), impl_isRat_at _ _ k (by omega), Option.bind_some]
  split <;> rfl
 ·have hg : ((Int.gcd num den : Int)) ≠ 0 := by omega
  have a := e1 _ hg; have b := e2 _ hg
  simp only [if_neg hn]
  rw [if_neg hg, w64 (x := num.tdiv _) (by omega) (by omega), w64 (x := den.tdiv _) (by omega) (by omega), impl_isRat_at _ _ k (by omega), Option.bind_some]
  split <;> rfl

/-! addRats -/
theorem impl_areRats_two (a b c d : Int) (k : Nat) (hk : 1000000010 < k) : impl_areRats.f k [(⟨a, b⟩ : S53), ⟨c, d⟩] = some (goodB a b && goodB c d) := by
 obtain ⟨k, rfl⟩ : ∃ q, k = q + 3 := ⟨k - 3, by omega⟩
 have e1 : wrap64 (0 + 1) = 1 := by unfold wrap64; omega
 have e2 : wrap64 (1 + 1) = 2 := by unfold wrap64; omega
 have r0 : rd_T53 [(⟨a, b⟩ : S53), ⟨c, d⟩] 0 = ⟨a, b⟩ := rfl
 have r1 : rd_T53 [(⟨a, b⟩ : S53), ⟨c, d⟩] 1 = ⟨c, d⟩ := rfl
 simp only [impl_areRats.f, impl_areRats.l0, e1, e2, r0, r1, impl_isRat_at a b (k + 2) (by omega), impl_isRat_at c d (k + 1) (by omega), Option.bind_some]
 cases goodB a b <;> cases goodB c d <;> simp
theorem impl_AddRats_at (a b c d : Int) (k : Nat) (hk : 5000000000000000000 < k) : impl_AddRats.f k a b c d = some (addR a b c d) := by
 simp only [impl_AddRats.f, impl_areRats_two a b c d k (by omega), Option.bind_some, addR]
 cases h1 : goodB a b
 ·simp
 ·cases h2 : goodB c d
  ·simp
  ·obtain ⟨p1, p2, p3, _⟩ := goodB_mul h1 h2
   simp only [Bool.and_self, if_true]
   rw [w64 (x := a * d) (by omega) (by omega), w64 (x := c * b) (by omega) (by omega), w64 (x := b * d) (by omega) (by omega), w64 (x := a * d + c * b) (by omega) (by omega), impl_lowest_at _ _ k (by omega) (by omega) (by omega) (by omega) (by omega) hk]; rfl
theorem impl_SubtractRats_at (a b c d : Int) (k : Nat) (hk : 5000000000000000000 < k) (hc : -9223372036854775808 ≤ c) (hc2 : c ≤ 9223372036854775807) : impl_SubtractRats.f k a b c d = some (subR a b c d) := by
 simp only [impl_SubtractRats.f, impl_negated.f, Option.bind_some, impl_AddRats_at _ _ _ _ k hk]
 rw [addR_neg a b c d hc hc2]

/-! calcs -/
theorem impl_calc_keep_true (s : Bool) (n d : Int) : impl_calc_keep.f s n d true = some (n, d, s) := by simp [impl_calc_keep.f]
theorem impl_calc_keep_false (s : Bool) (n d : Int) : impl_calc_keep.f s n d false = some (0, 1, true) := by simp [impl_calc_keep.f, impl_zero.f]
/-- A result, or 0 and a note that it is too large. -/
def keepR (s : Bool) (x : Int × Int × Bool) : Int × Int × Bool := if x.2.2 = true then (x.1, x.2.1, s) else (0, 1, true)
theorem impl_calc_keep_at (s : Bool) (x : Int × Int × Bool) : impl_calc_keep.f s x.1 x.2.1 x.2.2 = some (keepR s x) := by
 obtain ⟨a, b, c⟩ := x
 cases c <;> simp [keepR, impl_calc_keep_true, impl_calc_keep_false]

/-! slopes -/
theorem impl_DivideRats_at (a b c d : Int) (k : Nat) (hk : 5000000000000000000 < k) : impl_DivideRats.f k a b c d = some (divR a b c d) := by
 simp only [impl_DivideRats.f, impl_areRats_two a b c d k (by omega), Option.bind_some, divR]
 cases h1 : goodB a b
 ·simp
 ·cases h2 : goodB c d
  ·simp
  ·by_cases hc : c = 0
   ·simp [hc]
   ·obtain ⟨p1, p2, p3, p4⟩ := goodB_mul h1 h2
    have p5 : b * c ≠ 0 := by
     have := (goodB_iff.1 h1).1
     exact Int.mul_ne_zero (by omega) hc
    have e : b * c = c * b := Int.mul_comm ..
    simp only [Bool.and_self, if_true, if_neg hc]
    rw [w64 (x := a * d) (by omega) (by omega), w64 (x := b * c) (by omega) (by omega), impl_lowest_at _ _ k p5 (by omega) (by omega) (by omega) (by omega) hk]; rfl
/-- Differences and slopes of coordinates are valid. -/
theorem coord_sub {a b c d : Int} (h1 : coordB a b = true) (h2 : coordB c d = true) :
  ∃ n m, mk (a * d - c * b) (b * d) = (n, m, true) ∧ goodB n m = true ∧ n * (b * d) = (a * d - c * b) * m ∧ n.natAbs ≤ 10000 ∧ m ≤ 10000 := by
 obtain ⟨g1, a1, a2, a3⟩ := coordB_iff.1 h1
 obtain ⟨g2, b1, b2, b3⟩ := coordB_iff.1 h2
 have d1 := (goodB_iff.1 g1).1
 have d2 := (goodB_iff.1 g2).1
 have e1 := mul_bd (M := 100) (N := 100) (show -100 ≤ a by omega) (by omega) (show -100 ≤ d by omega) b3
 have e2 := mul_bd (M := 100) (N := 100) (show -100 ≤ c by omega) (by omega) (show -100 ≤ b by omega) a3
 have e3 := mul_bd (M := 100) (N := 100) (show -100 ≤ b by omega) (by omega) (show -100 ≤ d by omega) b3
 have e4 : 0 < b * d := Int.mul_pos (by omega) (by omega)
 have e5 : 0 ≤ a * d := Int.mul_nonneg a1 (by omega)
 have e6 : 0 ≤ c * b := Int.mul_nonneg b1 (by omega)
 obtain ⟨n, m, h, g, v, l1, l2⟩ := mk_ok (num := a * d - c * b) (den := b * d) (by omega) (by omega) (by omega) (by omega)
 exact ⟨n, m, h, g, v, by omega, by omega⟩
/-- The slope of a piece, as both compute it. -/
theorem slope_ok {p r : Pt} (hp : ptB p = true) (hr : ptB r = true) (hlt : p.xn * r.xd < r.xn * p.xd) :
  ∃ u1 u2 v1 v2 s1 s2, mk (r.yn * p.yd - p.yn * r.yd) (r.yd * p.yd) = (u1, u2, true) ∧ mk (r.xn * p.xd - p.xn * r.xd) (r.xd * p.xd) = (v1, v2, true) ∧ mk (u1 * v2) (u2 * v1) = (s1, s2, true) ∧
   goodB u1 u2 = true ∧ goodB v1 v2 = true ∧ goodB s1 s2 = true ∧ 0 < v1 ∧ slopeR p r = (s1, s2) := by
 obtain ⟨hx, hy⟩ := ptB_iff.1 hp
 obtain ⟨kx, ky⟩ := ptB_iff.1 hr
 obtain ⟨u1, u2, e1, g1, f1, b1, b2⟩ := coord_sub ky hy
 obtain ⟨v1, v2, e2, g2, f2, c1, c2⟩ := coord_sub kx hx
 have m1 := (goodB_iff.1 g1).1
 have m2 := (goodB_iff.1 g2).1
 have x1 := (goodB_iff.1 (coordB_iff.1 hx).1).1
 have x2 := (goodB_iff.1 (coordB_iff.1 kx).1).1
 have hv : 0 < v1 := by
  have q1 : 0 < (r.xn * p.xd - p.xn * r.xd) * v2 := Int.mul_pos (by omega) (by omega)
  rw [← f2] at q1
  have q2 : 0 < r.xd * p.xd := Int.mul_pos (by omega) (by omega)
  exact Int.pos_of_mul_pos_left q1 (by omega)
 have t1 := mul_bd (M := 10000) (N := 10000) (show -10000 ≤ u1 by omega) (by omega) (show -10000 ≤ v2 by omega) c2
 have t2 := mul_bd (M := 10000) (N := 10000) (show -10000 ≤ u2 by omega) b2 (show -10000 ≤ v1 by omega) (by omega)
 have t3 : 0 < u2 * v1 := Int.mul_pos (by omega) hv
 obtain ⟨s1, s2, e3, g3, _⟩ := mk_ok (num := u1 * v2) (den := u2 * v1) (by omega) (by omega) (by omega) (by omega)
 refine ⟨u1, u2, v1, v2, s1, s2, e1, e2, e3, g1, g2, g3, hv, ?_⟩
 simp only [slopeR, e1, e2, e3]
theorem impl_calc_sub_ok (s : Bool) {a b c d n m : Int} (k : Nat) (hk : 5000000000000000000 < k) (h1 : goodB a b = true) (h2 : goodB c d = true) (h : mk (a * d - c * b) (b * d) = (n, m, true)) : impl_calc_sub.f k s a b c d = some (n, m, s) := by
 have hc := goodB_iff.1 h2
 simp only [impl_calc_sub.f, impl_SubtractRats_at a b c d k hk (by omega) (by omega), Option.bind_some, subR, h1, h2, Bool.and_self, if_true, h, impl_calc_keep_true]
theorem impl_calc_div_ok (s : Bool) {a b c d n m : Int} (k : Nat) (hk : 5000000000000000000 < k) (h1 : goodB a b = true) (h2 : goodB c d = true) (hc : c ≠ 0) (h : mk (a * d) (b * c) = (n, m, true)) : impl_calc_div.f k s a b c d = some (n, m, s) := by
 simp only [impl_calc_div.f, impl_DivideRats_at a b c d k hk, Option.bind_some, divR, h1, h2, Bool.and_self, if_true, if_neg hc, h, impl_calc_keep_true]
theorem impl_calc_slope_at (s : Bool) (p r : Pt) (k : Nat) (hk : 5000000000000000000 < k) (hp : ptB p = true) (hr : ptB r = true) (hlt : p.xn * r.xd < r.xn * p.xd) :
  impl_calc_slope.f k s p.xn p.xd p.yn p.yd r.xn r.xd r.yn r.yd = some ((slopeR p r).1, (slopeR p r).2, s) := by
 obtain ⟨u1, u2, v1, v2, s1, s2, e1, e2, e3, g1, g2, g3, hv, es⟩ := slope_ok hp hr hlt
 obtain ⟨hx, hy⟩ := ptB_iff.1 hp
 obtain ⟨kx, ky⟩ := ptB_iff.1 hr
 simp only [impl_calc_slope.f, impl_calc_sub_ok s k hk (coordB_iff.1 ky).1 (coordB_iff.1 hy).1 e1, Option.bind_some, impl_calc_sub_ok s k hk (coordB_iff.1 kx).1 (coordB_iff.1 hx).1 e2, impl_calc_div_ok s k hk g1 g2 (by omega) e3, es]

/-! slopesR -/
/-- The slopes of all pieces. -/
def slopesR : List Pt → List (Int × Int)
 | p :: r :: l => slopeR p r :: slopesR (r :: l)
 | _ => []
def mkRt (x : Int × Int) : S53 := ⟨x.1, x.2⟩
theorem risB_get (l : List Pt) : ∀ (i : Nat) (h : i + 1 < l.length), risB (l.map xOf) = true → (l[i]'(by omega)).xn * (l[i + 1]'h).xd < (l[i + 1]'h).xn * (l[i]'(by omega)).xd := by
 induction l with
 | nil => intro i h; simp at h
 | cons p l ih =>
  intro i h hr
  cases l with
  | nil => simp at h
  | cons r l =>
   simp only [List.map_cons, risB, Bool.and_eq_true, decide_eq_true_eq] at hr
   cases i with
   | zero => exact hr.1
   | succ i => exact ih i (by simpa using h) hr.2
theorem mapB_parts {l : List Pt} (h : mapB l = true) : 2 ≤ l.length ∧ l.length ≤ 12 ∧ (∀ p ∈ l, ptB p = true) ∧ risB (l.map xOf) = true := by
 simp only [mapB, Bool.and_eq_true, decide_eq_true_eq, List.all_eq_true] at h
 exact ⟨h.1.1, h.1.2, h.2.1, h.2.2.2.2⟩

/-! ptOk -/
abbrev Po := S73
theorem pt_good {l : List Po} (hm : mapB (l.map pt) = true) (i : Nat) (h : i < l.length) : ptB (pt l[i]) = true :=
 (mapB_parts hm).2.2.1 (pt l[i]) (List.mem_map.2 ⟨_, List.getElem_mem h, rfl⟩)
theorem x_good {l : List Po} (hm : mapB (l.map pt) = true) (i : Nat) (h : i < l.length) : goodB (l[i]).f0.f0 (l[i]).f0.f1 = true :=
 (coordB_iff.1 (ptB_iff.1 (pt_good hm i h)).1).1
theorem x_rise {l : List Po} (hm : mapB (l.map pt) = true) (i : Nat) (h : i + 1 < l.length) : (l[i]'(by omega)).f0.f0 * (l[i + 1]).f0.f1 < (l[i + 1]).f0.f0 * (l[i]'(by omega)).f0.f1 := by
 have := risB_get (l.map pt) i (by simpa using h) (mapB_parts hm).2.2.2
 simpa [pt] using this

/-! gcdS -/
theorem spec_gcd_l (b : Nat) : ∀ (a k : Nat), b < k → spec_raCommon.l0 k (a : Int) (b : Int) = some ((Nat.gcd a b : Nat) : Int) := by
 induction b using Nat.strongRecOn with
 | _ b ih =>
  intro a k hk
  obtain ⟨k, rfl⟩ : ∃ m, k = m + 1 := ⟨k - 1, by omega⟩
  simp only [spec_raCommon.l0]
  by_cases h : b = 0
  ·subst h; simp
  ·rw [if_pos (by omega), if_neg (by omega), Int.tmod_eq_emod_of_nonneg (by omega), show (a : Int) % (b : Int) = ((a % b : Nat) : Int) by omega, ih (a % b) (Nat.mod_lt _ (by omega)) b k (by have := Nat.mod_lt a (show b > 0 by omega); omega)]
   rw [Nat.gcd_comm a b, Nat.gcd_rec b a, Nat.gcd_comm]
theorem spec_l1Abs_at (a : Int) (h : -9000000000000000000 ≤ a) (h2 : a ≤ 9000000000000000000) : spec_l1Abs.f a = some ((a.natAbs : Nat) : Int) := by
 simp only [spec_l1Abs.f, spec_l1Most.f]
 rw [w64 (by omega) (by omega)]
 by_cases h0 : a > -a
 ·rw [if_pos h0, Option.bind_some]; congr 1; omega
 ·rw [if_neg h0, Option.bind_some]; congr 1; omega
theorem spec_gcd_at (a b : Nat) (k : Nat) (hk : b < k) : spec_raCommon.f k (a : Int) (b : Int) = some ((Nat.gcd a b : Nat) : Int) := by
 simp only [spec_raCommon.f]; exact spec_gcd_l b a k hk

/-! l1In -/
theorem spec_l1In_eq (a b c : Int) : spec_l1In.f a b c = some (decide (b ≤ a ∧ a ≤ c)) := by
 unfold spec_l1In.f; split <;> simp <;> omega

/-! raGood -/
theorem spec_raGood_at (n d : Int) (k : Nat) (hk : 1000000000 < k) : spec_raGood.f k n d = some (goodB n d) := by
 simp only [spec_raGood.f, spec_l1In_eq, Option.bind_some, goodB]
 by_cases h : 1 ≤ d ∧ d ≤ 1000000000
 ·by_cases h2 : -1000000000 ≤ n ∧ n ≤ 1000000000
  ·have e : d = ((d.natAbs : Nat) : Int) := by omega
   rw [decide_eq_true h, decide_eq_true h2, spec_l1Abs_at n (by omega) (by omega)]
   simp only [if_true, Option.bind_some]
   rw [show spec_raCommon.f k ((n.natAbs : Nat) : Int) d = some ((Nat.gcd n.natAbs d.natAbs : Nat) : Int) by
    have := spec_gcd_at n.natAbs d.natAbs k (by omega)
    rwa [← e] at this, Option.bind_some]
   congr 1; rw [Bool.eq_iff_iff]; simp [h, h2, Int.gcd]; omega
  ·rw [decide_eq_true h, decide_eq_false h2]; simp only [if_true, Bool.false_eq_true, if_false]; congr 1; symm; apply decide_eq_false; omega
 ·rw [decide_eq_false h]; simp only [Bool.false_eq_true, if_false]; congr 1; symm; apply decide_eq_false; omega

/-! raUnit -/
theorem spec_raUnit_at (n d : Int) (k : Nat) (hk : 1000000000 < k) : spec_raUnit.f k n d = some (unitB n d) := by
 simp only [spec_raUnit.f, spec_raGood_at n d k hk, spec_l1In_eq, Option.bind_some, unitB]
 cases goodB n d <;> simp

/-! imCoord -/
theorem spec_imCoord_at (n d : Int) (k : Nat) (hk : 1000000000 < k) : spec_imCoord.f k n d = some (coordB n d) := by
 simp only [spec_imCoord.f, spec_raUnit_at n d k hk, Option.bind_some, coordB]
 cases unitB n d <;> simp

/-! cmpS -/
theorem spec_raCmp_at (a b c d : Int) (h : goodB a b = true) (h2 : goodB c d = true) : spec_raCmp.f a b c d = some (cmpR a b c d) := by
 obtain ⟨p1, p2, _⟩ := goodB_mul h h2
 simp only [spec_raCmp.f, spec_l1Sign.f, cmpR]
 rw [w64 (x := a * d) (by omega) (by omega), w64 (x := c * b) (by omega) (by omega), w64 (by omega) (by omega)]
 by_cases q : a * d < c * b
 ·rw [if_neg (by omega), if_pos (by omega), if_pos q]; rfl
 ·by_cases r : a * d > c * b
  ·rw [if_pos (by omega), if_neg q, if_pos r]; rfl
  ·rw [if_neg (by omega), if_neg (by omega), if_neg q, if_neg r]; rfl

/-! imGood -/
/-- What is asked behind the loop. -/
def finB (l : List S73) : Bool := decide (((l.map pt).head?.map xOf) = some (0, 1)) && decide (((l.map pt).getLast?.map xOf) = some (1, 1))
theorem good01 : goodB 0 1 = true := by decide
theorem good11 : goodB 1 1 = true := by decide
theorem cmpR_eq0 {a b c d : Int} (h1 : goodB a b = true) (h2 : goodB c d = true) : cmpR a b c d = 0 ↔ (a = c ∧ b = d) := by
 unfold cmpR
 constructor
 ·intro h; apply good_inj h1 h2; repeat' split at h <;> omega
 ·rintro ⟨rfl, rfl⟩; simp
theorem spec_imGood_fin (l : List S73) (h2 : 2 ≤ l.length) (hn : l.length ≤ 12) (hg : ∀ x ∈ l, ptB (pt x) = true) (k : Nat) (i : Int) (hi : ¬ i < (l.length : Int)) (hk : 0 < k) :
  spec_imGood.l0 k l l l.length i = some (finB l) := by
 obtain ⟨k, rfl⟩ : ∃ q, k = q + 1 := ⟨k - 1, by omega⟩
 have hgood : ∀ p ∈ l, goodB p.f0.f0 p.f0.f1 = true := fun p hp => (coordB_iff.1 (ptB_iff.1 (hg p hp)).1).1
 have e0 : rd_T73 l 0 = l[0] := rdPt l 0 (by omega)
 have e1 : rd_T73 l ((l.length : Int) - 1) = l[l.length - 1] := by
  rw [show (l.length : Int) - 1 = ((l.length - 1 : Nat) : Int) by omega]; exact rdPt l (l.length - 1) (by omega)
 have f0 : (l.map pt).head?.map xOf = some ((l[0]).f0.f0, (l[0]).f0.f1) := by
  rw [List.head?_eq_getElem?]; simp [xOf, pt, show 0 < l.length by omega]
 have f1 : (l.map pt).getLast?.map xOf = some ((l[l.length - 1]).f0.f0, (l[l.length - 1]).f0.f1) := by
  rw [List.getLast?_eq_getElem?]; simp [xOf, pt, show l.length - 1 < l.length by omega]
 have g0 := hgood (l[0]) (List.getElem_mem _)
 have g1 := hgood (l[l.length - 1]) (List.getElem_mem _)
 simp only [spec_imGood.l0, spec_raInt.f, Option.bind_some]
 rw [if_neg hi, if_pos (show 0 < (l.length : Int) by omega), e0, spec_raCmp_at _ _ _ _ g0 good01, Option.bind_some, w64 (x := (l.length : Int) - 1) (by omega) (by omega), if_pos (show 0 ≤ (l.length : Int) - 1 by omega), if_pos (show (l.length : Int) - 1 < (l.length : Int) by omega), e1, spec_raCmp_at _ _ _ _ g1 good11, Option.bind_some]
 unfold finB
 rw [f0, f1]
 have q0 := cmpR_eq0 g0 good01
 have q1 := cmpR_eq0 g1 good11
 by_cases c0 : (l[0]).f0.f0 = 0 ∧ (l[0]).f0.f1 = 1
 ·rw [if_pos (q0.2 c0)]
  have : (some ((l[0]).f0.f0, (l[0]).f0.f1) = some ((0 : Int), (1 : Int))) := by simp [c0]
  rw [decide_eq_true this, Bool.true_and]
  by_cases c1 : (l[l.length - 1]).f0.f0 = 1 ∧ (l[l.length - 1]).f0.f1 = 1
  ·rw [q1.2 c1]; simp [c1]
  ·have : ¬ (some ((l[l.length - 1]).f0.f0, (l[l.length - 1]).f0.f1) = some ((1 : Int), (1 : Int))) := by simp; intro h; exact fun h2 => c1 ⟨h, h2⟩
   have z : ¬ cmpR (l[l.length - 1]).f0.f0 (l[l.length - 1]).f0.f1 1 1 = 0 := fun h => c1 (q1.1 h)
   rw [decide_eq_false this]; congr 1; simp [z]
 ·rw [if_neg (fun h => c0 (q0.1 h))]
  have : ¬ (some ((l[0]).f0.f0, (l[0]).f0.f1) = some ((0 : Int), (1 : Int))) := by simp; intro h; exact fun h2 => c0 ⟨h, h2⟩
  rw [decide_eq_false this]; rfl
theorem spec_imGood_l (l : List S73) (h2 : 2 ≤ l.length) (hn : l.length ≤ 12) : ∀ (d i k : Nat) (h : i + 1 + d = l.length), 1000000000 + d + 1 < k → (∀ x ∈ l.take (i + 1), ptB (pt x) = true) →
  spec_imGood.l0 k l l l.length ((i + 1 : Nat) : Int) = some (chk (some (pt (l[i]'(by omega)))) ((l.drop (i + 1)).map pt) && finB l) := by
 intro d
 induction d with
 | zero =>
  intro i k h1 h3 h4
  rw [spec_imGood_fin l h2 hn (by rwa [List.take_of_length_le (by omega)] at h4) k _ (by omega) (by omega), List.drop_eq_nil_of_le (by omega)]; simp [chk]
 | succ d ih =>
  intro i k h1 h3 h4
  obtain ⟨k, rfl⟩ : ∃ q, k = q + 1 := ⟨k - 1, by omega⟩
  have hp : ptB (pt (l[i]'(by omega))) = true := h4 _ (by rw [List.take_succ_eq_append_getElem (by omega)]; exact List.mem_append_right _ (List.mem_singleton_self _))
  have hgi : goodB (l[i]'(by omega)).f0.f0 (l[i]'(by omega)).f0.f1 = true := (coordB_iff.1 (ptB_iff.1 hp).1).1
  simp only [spec_imGood.l0]
  rw [if_pos (by omega), if_pos (by omega), if_pos (by omega), rdPt l (i + 1) (by omega), spec_imCoord_at _ _ k (by omega), Option.bind_some, List.drop_eq_getElem_cons (show i + 1 < l.length by omega), List.map_cons, chk]
  by_cases c1 : coordB (l[i + 1]).f0.f0 (l[i + 1]).f0.f1 = true
  ·rw [if_pos c1, spec_imCoord_at _ _ k (by omega), Option.bind_some]
   by_cases c2 : coordB (l[i + 1]).f1.f0 (l[i + 1]).f1.f1 = true
   ·have hp1 : ptB (pt (l[i + 1])) = true := ptB_iff.2 ⟨c1, c2⟩
    rw [if_pos c2, if_pos (show ((i + 1 : Nat) : Int) > 0 by omega), w64 (x := ((i + 1 : Nat) : Int) - 1) (by omega) (by omega), if_pos (by omega), if_pos (by omega), show ((i + 1 : Nat) : Int) - 1 = ((i : Nat) : Int) by omega, rdPt l i (by omega), spec_raCmp_at _ _ _ _ hgi (coordB_iff.1 c1).1, Option.bind_some, hp1, Bool.true_and]
    have z : (cmpR (l[i]'(by omega)).f0.f0 (l[i]'(by omega)).f0.f1 (l[i + 1]).f0.f0 (l[i + 1]).f0.f1 ≥ 0) ↔ ¬ ((l[i]'(by omega)).f0.f0 * (l[i + 1]).f0.f1 < (l[i + 1]).f0.f0 * (l[i]'(by omega)).f0.f1) := by
     unfold cmpR; repeat' split <;> omega
    have e : (pt (l[i]'(by omega))).xn * (pt (l[i + 1])).xd < (pt (l[i + 1])).xn * (pt (l[i]'(by omega))).xd ↔ ((l[i]'(by omega)).f0.f0 * (l[i + 1]).f0.f1 < (l[i + 1]).f0.f0 * (l[i]'(by omega)).f0.f1) := Iff.rfl
    by_cases s : ((l[i]'(by omega)).f0.f0 * (l[i + 1]).f0.f1 < (l[i + 1]).f0.f0 * (l[i]'(by omega)).f0.f1)
    ·rw [if_neg (fun h => z.1 h s), decide_eq_true (e.2 s), Bool.true_and, w64 (by omega) (by omega), show ((i + 1 : Nat) : Int) + 1 = ((i + 1 + 1 : Nat) : Int) by omega]
     refine ih (i + 1) k (by omega) (by omega) ?_
     intro x hx
     rw [List.take_succ_eq_append_getElem (by omega)] at hx
     rcases List.mem_append.1 hx with hx | hx
     ·exact h4 x hx
     ·simp at hx; rw [hx]; exact hp1
    ·rw [if_pos (z.2 s), decide_eq_false (fun h => s (e.1 h))]; rfl
   ·have hp1 : ptB (pt (l[i + 1])) = false := by rw [Bool.eq_false_iff]; intro h; exact c2 (ptB_iff.1 h).2
    rw [if_neg c2, hp1]; rfl
  ·have hp1 : ptB (pt (l[i + 1])) = false := by rw [Bool.eq_false_iff]; intro h; exact c1 (ptB_iff.1 h).1
   rw [if_neg c1, hp1]; rfl
theorem spec_imGood_at (l : List S73) (k : Nat) (hk : 1000000100 < k) : spec_imGood.f k l = some (mapB (l.map pt)) := by
 simp only [spec_imGood.f, spec_l1In_eq, Option.bind_some, mapB, List.length_map]
 by_cases h : (2 : Int) ≤ (l.length : Int) ∧ (l.length : Int) ≤ 12
 ·have h' : 2 ≤ l.length ∧ l.length ≤ 12 := by omega
  rw [decide_eq_true h, decide_eq_true h', Bool.true_and]
  simp only [if_true]
  obtain ⟨k, rfl⟩ : ∃ q, k = q + 1 := ⟨k - 1, by omega⟩
  have key : spec_imGood.l0 (k + 1) l l l.length 0 = some (chk none (l.map pt) && finB l) := by
   have ed : l.map pt = pt (l[0]'(by omega)) :: (l.drop 1).map pt := by
    conv => lhs; rw [← List.drop_zero (l := l), List.drop_eq_getElem_cons (show 0 < l.length by omega)]
    rfl
   simp only [spec_imGood.l0]
   rw [if_pos (show (0 : Int) < (l.length : Int) by omega), if_pos (show (0 : Int) ≤ 0 by omega), if_pos (show (0 : Int) < (l.length : Int) by omega)]
   have e0 : rd_T73 l 0 = l[0] := rdPt l 0 (by omega)
   rw [e0, spec_imCoord_at _ _ k (by omega), Option.bind_some, ed, chk]
   by_cases c1 : coordB (l[0]).f0.f0 (l[0]).f0.f1 = true
   ·rw [if_pos c1, spec_imCoord_at _ _ k (by omega), Option.bind_some]
    by_cases c2 : coordB (l[0]).f1.f0 (l[0]).f1.f1 = true
    ·have hp1 : ptB (pt (l[0])) = true := ptB_iff.2 ⟨c1, c2⟩
     rw [if_pos c2, if_neg (show ¬ (0 : Int) > 0 by omega), hp1, Bool.true_and, w64 (by omega) (by omega)]
     have := spec_imGood_l l h'.1 h'.2 (l.length - 1) 0 k (by omega) (by omega) (by
      intro x hx
      rw [List.take_succ_eq_append_getElem (by omega)] at hx
      simp at hx; rw [hx]; exact hp1)
     rw [show (0 : Int) + 1 = ((0 + 1 : Nat) : Int) by rfl]; exact this
    ·have hp1 : ptB (pt (l[0])) = false := by rw [Bool.eq_false_iff]; intro h; exact c2 (ptB_iff.1 h).2
     rw [if_neg c2, hp1]; rfl
   ·have hp1 : ptB (pt (l[0])) = false := by rw [Bool.eq_false_iff]; intro h; exact c1 (ptB_iff.1 h).1
    rw [if_neg c1, hp1]; rfl
  rw [key, chk_none]
  unfold finB
  cases (l.map pt).all ptB <;> cases risB ((l.map pt).map xOf) <;> cases decide (Option.map xOf (List.map pt l).head? = some (0, 1)) <;> cases decide (Option.map xOf (List.map pt l).getLast? = some (1, 1)) <;> rfl
 ·have h' : ¬ (2 ≤ l.length ∧ l.length ≤ 12) := by omega
  rw [decide_eq_false h, decide_eq_false h']; simp

/-! isUnit -/
theorem impl_isUnit_at (n d : Int) (k : Nat) (hk : 1000000000 < k) : impl_isUnit.f k n d = some (unitB n d) := by
 simp only [impl_isUnit.f, impl_isRat_at n d k hk, Option.bind_some, unitB]
 cases goodB n d
 ·simp
 ·by_cases h : n ≥ 0 <;> simp [h]

/-! cmpI -/
theorem impl_compare_at (a b c d : Int) (h : goodB a b = true) (h2 : goodB c d = true) : impl_compare.f a b c d = some (cmpR a b c d) := by
 obtain ⟨p1, p2, _⟩ := goodB_mul h h2
 simp only [impl_compare.f, cmpR]
 rw [w64 (by omega) (by omega), w64 (by omega) (by omega)]
 by_cases q : a * d < c * b
 ·rw [if_pos q, if_pos q]
 ·rw [if_neg q, if_neg q]; split <;> rfl
theorem impl_less_at (a b c d : Int) (h : goodB a b = true) (h2 : goodB c d = true) : impl_less.f a b c d = some (decide (a * d < c * b)) := by
 simp only [impl_less.f, impl_compare_at a b c d h h2, Option.bind_some, cmpR]
 congr 2; rw [eq_iff_iff]; repeat' split <;> omega

/-! isRising -/
theorem impl_isRising_l (xs : List S53) (hn : xs.length ≤ 1000) (hg : ∀ x ∈ xs, goodB x.f0 x.f1 = true) : ∀ (d i k : Nat), i + 1 + d = xs.length → d < k →
  impl_isRising.l0 k xs ((i + 1 : Nat) : Int) = some (risB ((xs.drop i).map rt)) := by
 intro d
 induction d with
 | zero =>
  intro i k h1 h3
  obtain ⟨k, rfl⟩ : ∃ q, k = q + 1 := ⟨k - 1, by omega⟩
  simp only [impl_isRising.l0]; rw [if_neg (by omega), List.drop_eq_getElem_cons (show i < xs.length by omega), List.drop_eq_nil_of_le (by omega)]; rfl
 | succ d ih =>
  intro i k h1 h3
  obtain ⟨k, rfl⟩ : ∃ q, k = q + 1 := ⟨k - 1, by omega⟩
  simp only [impl_isRising.l0]
  rw [if_pos (by omega), w64 (x := ((i + 1 : Nat) : Int) - 1) (by omega) (by omega), if_pos (by omega), if_pos (by omega), if_pos (by omega), show ((i + 1 : Nat) : Int) - 1 = ((i : Nat) : Int) by omega, rdRt xs i (by omega), rdRt xs (i + 1) (by omega),
   impl_less_at _ _ _ _ (hg _ (List.getElem_mem _)) (hg _ (List.getElem_mem _)), Option.bind_some, w64 (by omega) (by omega), show ((i + 1 : Nat) : Int) + 1 = ((i + 1 + 1 : Nat) : Int) by omega, ih (i + 1) k (by omega) (by omega),
   List.drop_eq_getElem_cons (show i < xs.length by omega), List.drop_eq_getElem_cons (show i + 1 < xs.length by omega)]
  simp only [List.map_cons, risB, rt]
  by_cases h : (xs[i]).f0 * (xs[i + 1]).f1 < (xs[i + 1]).f0 * (xs[i]).f1
  ·rw [decide_eq_true h, if_pos rfl, Bool.true_and]
  ·rw [decide_eq_false h, if_neg (by simp), Bool.false_and]

/-! anyS(I=slices_IndexFunc__impl_isMap_1;C=slices_ContainsFunc__impl_isMap_1;S=S73;RD=rdPt;PRED=impl_isMap_1.f k e.f0.f0 e.f0.f1 e.f1.f0 e.f1.f1) -/
/-- ContainsFunc over structs, the predicate with rounds. -/
theorem slices_IndexFunc__impl_isMap_1_l (P : S73 → Bool) (xs : List S73) (K : Nat) (hP : ∀ e, e ∈ xs → ∀ k, K < k → impl_isMap_1.f k e.f0.f0 e.f0.f1 e.f1.f0 e.f1.f1 = some (P e)) (hn : xs.length ≤ 4611686018427387904) : ∀ (d i k : Nat), i + d = xs.length → K + d + 1 < k →
  ∃ r : Int, slices_IndexFunc__impl_isMap_1.l0 k xs xs.length i = some r ∧ (decide (r ≥ 0)) = (xs.drop i).any P := by
 intro d
 induction d with
 | zero =>
  intro i k h1 h2
  obtain ⟨k, rfl⟩ : ∃ q, k = q + 1 := ⟨k - 1, by omega⟩
  refine ⟨-1, ?_, ?_⟩
  ·simp only [slices_IndexFunc__impl_isMap_1.l0]; rw [if_neg (by omega)]
  ·rw [List.drop_eq_nil_of_le (by omega)]; rfl
 | succ d ih =>
  intro i k h1 h2
  obtain ⟨k, rfl⟩ : ∃ q, k = q + 1 := ⟨k - 1, by omega⟩
  simp only [slices_IndexFunc__impl_isMap_1.l0]
  have a2 := hP (xs[i]'(by omega)) (List.getElem_mem _) k (by omega)
  rw [if_pos (by omega), if_pos (by omega), if_pos (by omega), rdPt xs i (by omega), a2, Option.bind_some, List.drop_eq_getElem_cons (show i < xs.length by omega), List.any_cons]
  by_cases h : P (xs[i]'(by omega)) = true
  ·exact ⟨i, by rw [if_pos h], by rw [h]; simp⟩
  ·obtain ⟨r, hr, h3⟩ := ih (i + 1) k (by omega) (by omega)
   refine ⟨r, ?_, ?_⟩
   ·rw [if_neg h, w64 (by omega) (by omega), show (i : Int) + 1 = ((i + 1 : Nat) : Int) by omega]; exact hr
   ·rw [h3]; simp [h]
theorem slices_ContainsFunc__impl_isMap_1_at (P : S73 → Bool) (xs : List S73) (K k : Nat) (hP : ∀ e, e ∈ xs → ∀ k, K < k → impl_isMap_1.f k e.f0.f0 e.f0.f1 e.f1.f0 e.f1.f1 = some (P e)) (hn : xs.length ≤ 4611686018427387904) (hk : K + xs.length + 1 < k) : slices_ContainsFunc__impl_isMap_1.f k xs = some (xs.any P) := by
 obtain ⟨r, h1, h2⟩ := slices_IndexFunc__impl_isMap_1_l P xs K hP hn xs.length 0 k (by omega) hk
 simp only [slices_ContainsFunc__impl_isMap_1.f, slices_IndexFunc__impl_isMap_1.f]
 rw [show (0 : Int) = ((0 : Nat) : Int) by rfl, h1, Option.bind_some]
 simp only [List.drop_zero] at h2; rw [← h2]; rfl

/-! isMap -/
theorem impl_isCoord_at (n d : Int) (k : Nat) (hk : 1000000000 < k) : impl_isCoord.f k n d = some (coordB n d) := by
 simp only [impl_isCoord.f, impl_isUnit_at n d k hk, Option.bind_some, coordB]
 cases unitB n d <;> simp
theorem impl_isMap_1_at (p : S73) (k : Nat) (hk : 1000000000 < k) : impl_isMap_1.f k p.f0.f0 p.f0.f1 p.f1.f0 p.f1.f1 = some (!(ptB (pt p))) := by
 simp only [impl_isMap_1.f, impl_isCoord_at _ _ k hk, Option.bind_some, ptB, pt]
 cases coordB p.f0.f0 p.f0.f1 <;> simp
theorem impl_xsOf_l (xs : List S73) (hn : xs.length ≤ 1000) : ∀ (d i k : Nat) (acc : List S53), i + d = xs.length → acc.length = i → d < k →
  impl_xsOf.l0 k acc xs xs.length i = some (acc ++ (xs.drop i).map (·.f0)) := by
 intro d
 induction d with
 | zero =>
  intro i k acc h1 h2 h3
  obtain ⟨k, rfl⟩ : ∃ q, k = q + 1 := ⟨k - 1, by omega⟩
  simp only [impl_xsOf.l0]; rw [if_neg (by omega), List.drop_eq_nil_of_le (by omega)]; simp
 | succ d ih =>
  intro i k acc h1 h2 h3
  obtain ⟨k, rfl⟩ : ∃ q, k = q + 1 := ⟨k - 1, by omega⟩
  simp only [impl_xsOf.l0]
  rw [if_pos (by omega), if_pos (by omega), if_pos (by omega), if_pos (by omega), rdPt xs i (by omega), w64 (by omega) (by omega), show (i : Int) + 1 = ((i + 1 : Nat) : Int) by omega, ih (i + 1) k _ (by omega) (by simp; omega) (by omega), List.drop_eq_getElem_cons (show i < xs.length by omega)]
  simp only [List.map_cons, List.append_assoc, List.cons_append, List.nil_append]
theorem impl_isMap_at (l : List S73) (k : Nat) (hk : 1000000100 < k) : impl_isMap.f k l = some (mapB (l.map pt)) := by
 obtain ⟨k, rfl⟩ : ∃ q, k = q + 1 := ⟨k - 1, by omega⟩
 simp only [impl_isMap.f, impl_within_eq, Option.bind_some, mapB, List.length_map]
 by_cases h : (2 : Int) ≤ (l.length : Int) ∧ (l.length : Int) ≤ 12
 ·have h' : 2 ≤ l.length ∧ l.length ≤ 12 := by omega
  rw [decide_eq_true h, decide_eq_true h', Bool.true_and]
  simp only [if_true]
  rw [slices_ContainsFunc__impl_isMap_1_at (fun p => !(ptB (pt p))) l 1000000000 (k + 1) (fun e _ k hk => impl_isMap_1_at e k hk) (by omega) (by omega), Option.bind_some]
  by_cases ha : (l.map pt).all ptB = true
  ·have hb : (l.any fun p => !(ptB (pt p))) = false := by
    rw [List.any_eq_false]; intro p hp
    rw [List.all_eq_true] at ha
    have := ha (pt p) (List.mem_map_of_mem hp)
    simp [this]
   rw [hb, ha, Bool.true_and]
   have hgood : ∀ p ∈ l, goodB p.f0.f0 p.f0.f1 = true := by
    intro p hp
    rw [List.all_eq_true] at ha
    exact (coordB_iff.1 (ptB_iff.1 (ha (pt p) (List.mem_map_of_mem hp))).1).1
   have e0 : rd_T73 l 0 = l[0] := rdPt l 0 (by omega)
   have e1 : rd_T73 l ((l.length : Int) - 1) = l[l.length - 1] := by
    rw [show (l.length : Int) - 1 = ((l.length - 1 : Nat) : Int) by omega]; exact rdPt l (l.length - 1) (by omega)
   have f0 : (l.map pt).head?.map xOf = some ((l[0]).f0.f0, (l[0]).f0.f1) := by
    rw [List.head?_eq_getElem?]; simp [xOf, pt, show 0 < l.length by omega]
   have f1 : (l.map pt).getLast?.map xOf = some ((l[l.length - 1]).f0.f0, (l[l.length - 1]).f0.f1) := by
    rw [List.getLast?_eq_getElem?]; simp [xOf, pt, show l.length - 1 < l.length by omega]
   simp only [impl_isMap.j0, impl_zero.f, impl_oneRat.f, Option.bind_some, Bool.false_eq_true, if_false]
   rw [w64 (x := (l.length : Int) - 1) (by omega) (by omega), if_pos (show 0 < (l.length : Int) by omega), if_pos (show 0 ≤ (l.length : Int) - 1 by omega), if_pos (show (l.length : Int) - 1 < (l.length : Int) by omega), e0, e1, f0, f1]
   have hx := impl_xsOf_l l (by omega) l.length 0 k [] (by omega) rfl (by omega)
   have hr := impl_isRising_l (l.map (·.f0)) (by simp; omega) (fun x hx => by obtain ⟨p, hp, rfl⟩ := List.mem_map.1 hx; exact hgood p hp) (l.length - 1) 0 k (by simp; omega) (by omega)
   simp only [List.drop_zero, List.nil_append] at hx hr
   have hx' : impl_xsOf.f k l = some (l.map (·.f0)) := hx
   have hr' : impl_isRising.f k (l.map (·.f0)) = some (risB ((l.map (·.f0)).map rt)) := hr
   simp only [hx', hr', Option.bind_some, List.map_map]
   have em : (List.map (rt ∘ fun x => x.f0) l) = List.map (xOf ∘ pt) l := rfl
   rw [em]
   by_cases c0 : (l[0]).f0.f0 = 0 ∧ (l[0]).f0.f1 = 1
   ·by_cases c1 : (l[l.length - 1]).f0.f0 = 1 ∧ (l[l.length - 1]).f0.f1 = 1
    ·simp [c0.1, c0.2, c1.1, c1.2]
    ·rw [if_pos (by simp [c0.1, c0.2]), if_neg (by simp; intro h; exact fun h2 => c1 ⟨h, h2⟩)]
     have : ¬ (some ((l[l.length - 1]).f0.f0, (l[l.length - 1]).f0.f1) = some ((1 : Int), (1 : Int))) := by simp; intro h; exact fun h2 => c1 ⟨h, h2⟩
     simp [this]
   ·rw [if_neg (by simp; intro h; exact fun h2 => c0 ⟨h, h2⟩)]
    have : ¬ (some ((l[0]).f0.f0, (l[0]).f0.f1) = some ((0 : Int), (1 : Int))) := by simp; intro h; exact fun h2 => c0 ⟨h, h2⟩
    simp [this]
  ·have hb : (l.any fun p => !(ptB (pt p))) = true := by
    rw [← Bool.not_eq_false]; intro e; rw [List.any_eq_false] at e; apply ha; rw [List.all_eq_true]
    intro q hq; obtain ⟨p, hp, rfl⟩ := List.mem_map.1 hq; simpa using e p hp
   rw [hb, Bool.eq_false_iff.2 ha]; simp [impl_isMap.j0]
 ·have h' : ¬ (2 ≤ l.length ∧ l.length ≤ 12) := by omega
  rw [decide_eq_false h, decide_eq_false h']; simp [impl_isMap.j0]

/-! piece -/
/-- Is point i's X less than x/y? -/
def ltX (l : List Po) (i : Nat) (x y : Int) : Prop := (l.getD i z73).f0.f0 * y < x * (l.getD i z73).f0.f1
theorem getP (l : List Po) (i : Nat) (h : i < l.length) : l.getD i z73 = l[i] := by
 rw [List.getD_eq_getElem?_getD, List.getElem?_eq_getElem h]; rfl
theorem x_last {l : List Po} (hm : mapB (l.map pt) = true) (h : l.length - 1 < l.length) : (l[l.length - 1]).f0.f0 = 1 ∧ (l[l.length - 1]).f0.f1 = 1 := by
 simp only [mapB, Bool.and_eq_true, decide_eq_true_eq] at hm
 have e4 := hm.2.2.2.1
 rw [List.getLast?_eq_getElem?, List.length_map, List.getElem?_map, List.getElem?_eq_getElem h] at e4
 simp only [Option.map_some, Option.some.injEq, xOf, pt, Prod.mk.injEq] at e4
 exact e4
theorem x_first {l : List Po} (hm : mapB (l.map pt) = true) (h : 0 < l.length) : (l[0]).f0.f0 = 0 ∧ (l[0]).f0.f1 = 1 := by
 simp only [mapB, Bool.and_eq_true, decide_eq_true_eq] at hm
 have e4 := hm.2.2.1
 rw [List.head?_eq_getElem?, List.getElem?_map, List.getElem?_eq_getElem h] at e4
 simp only [Option.map_some, Option.some.injEq, xOf, pt, Prod.mk.injEq] at e4
 exact e4
theorem index_l (l : List Po) (hm : mapB (l.map pt) = true) (x y : Int) (hx : unitB x y = true) : ∀ (d i : Nat), i + d = l.length → 0 < d → (∀ j, j < i → ltX l j x y) →
  ∃ r : Nat, r < l.length ∧ ¬ ltX l r x y ∧ (∀ j, j < r → ltX l j x y) ∧ ∀ k, d < k → slices_IndexFunc__impl_pieceAt_1.l0 k l (l.length : Int) (i : Int) [(⟨x, y⟩ : S53)] = some (r : Int) := by
 obtain ⟨gx, x0, x1⟩ := unitB_iff.1 hx
 obtain ⟨m1, m2, _⟩ := mapB_parts hm
 rw [List.length_map] at m1 m2
 intro d
 induction d with
 | zero => intro i _ h; omega
 | succ d ih =>
  intro i h1 _ hb
  have hi : i < l.length := by omega
  have g := x_good hm i hi
  have q : impl_pieceAt_1_with.f (l[i]).f0.f0 (l[i]).f0.f1 (l[i]).f1.f0 (l[i]).f1.f1 [(⟨x, y⟩ : S53)] = some (!decide ((l[i]).f0.f0 * y < x * (l[i]).f0.f1)) := by
   simp only [impl_pieceAt_1_with.f, List.length_singleton]
   rw [if_pos (by decide), show rd_T53 [(⟨x, y⟩ : S53)] 0 = ⟨x, y⟩ from rfl, impl_less_at _ _ _ _ g gx, Option.bind_some]
  by_cases c : (l[i]).f0.f0 * y < x * (l[i]).f0.f1
  ·have nl : i + 1 ≠ l.length := fun he => by
    have e := x_last hm (by omega)
    have ei : l.length - 1 = i := by omega
    simp only [ei] at e
    rw [e.1, e.2] at c; omega
   obtain ⟨r, hr, h2, h3, hk⟩ := ih (i + 1) (by omega) (by omega) (fun j hj => by
    by_cases e : j = i
    ·subst e; unfold ltX; rw [getP l j hi]; exact c
    ·exact hb j (by omega))
   refine ⟨r, hr, h2, h3, fun k h4 => ?_⟩
   obtain ⟨k, rfl⟩ : ∃ q, k = q + 1 := ⟨k - 1, by omega⟩
   simp only [slices_IndexFunc__impl_pieceAt_1.l0]
   rw [if_pos (by omega), if_pos (by omega), if_pos (by omega), rdPt l i hi, q, Option.bind_some, decide_eq_true c, if_neg (by simp), w64 (by omega) (by omega), show (i : Int) + 1 = ((i + 1 : Nat) : Int) by omega]
   exact hk k (by omega)
  ·refine ⟨i, hi, by unfold ltX; rw [getP l i hi]; exact c, hb, fun k h4 => ?_⟩
   obtain ⟨k, rfl⟩ : ∃ q, k = q + 1 := ⟨k - 1, by omega⟩
   simp only [slices_IndexFunc__impl_pieceAt_1.l0]
   rw [if_pos (by omega), if_pos (by omega), if_pos (by omega), rdPt l i hi, q, Option.bind_some, decide_eq_false c, if_pos (by simp)]
theorem imPiece_l (l : List Po) (hm : mapB (l.map pt) = true) (x y : Int) (hx : unitB x y = true) (t : Nat) (ht : t + 1 < l.length) (hb : ∀ j, 0 < j → j ≤ t → ltX l j x y) (he : t + 2 < l.length → ¬ ltX l (t + 1) x y) : ∀ (d i k : Nat), i + d = t → d < k →
  spec_imPiece.l0 k l (i : Int) x y = some (t : Int) := by
 obtain ⟨gx, x0, x1⟩ := unitB_iff.1 hx
 obtain ⟨m1, m2, _⟩ := mapB_parts hm
 rw [List.length_map] at m1 m2
 have lt : ∀ a b : Int, cmpR a b x y < 0 ↔ a * y < x * b := fun a b => by unfold cmpR; repeat' split <;> omega
 intro d
 induction d with
 | zero =>
  intro i k h1 h2
  obtain ⟨k, rfl⟩ : ∃ q, k = q + 1 := ⟨k - 1, by omega⟩
  have : i = t := by omega
  subst this
  simp only [spec_imPiece.l0]
  rw [w64 (x := (i : Int) + 2) (by omega) (by omega), w64 (x := (i : Int) + 1) (by omega) (by omega)]
  by_cases c : (i : Int) + 2 < (l.length : Int)
  ·have hi : i + 1 < l.length := by omega
   have he := he (by omega)
   unfold ltX at he
   rw [getP l (i + 1) hi] at he
   rw [if_pos c, if_pos (by omega), if_pos (by omega), show (i : Int) + 1 = ((i + 1 : Nat) : Int) by omega, rdPt l (i + 1) hi, spec_raCmp_at _ _ _ _ (x_good hm (i + 1) hi) gx, Option.bind_some, if_neg (fun h => he ((lt _ _).1 h))]
  ·rw [if_neg c]
 | succ d ih =>
  intro i k h1 h2
  obtain ⟨k, rfl⟩ : ∃ q, k = q + 1 := ⟨k - 1, by omega⟩
  have hi : i + 1 < l.length := by omega
  have hc := hb (i + 1) (by omega) (by omega)
  unfold ltX at hc
  rw [getP l (i + 1) hi] at hc
  simp only [spec_imPiece.l0]
  rw [w64 (x := (i : Int) + 2) (by omega) (by omega), w64 (x := (i : Int) + 1) (by omega) (by omega), if_pos (by omega), if_pos (by omega), if_pos (by omega), show (i : Int) + 1 = ((i + 1 : Nat) : Int) by omega, rdPt l (i + 1) hi, spec_raCmp_at _ _ _ _ (x_good hm (i + 1) hi) gx, Option.bind_some, if_pos ((lt _ _).2 hc)]
  exact ih (i + 1) k (by omega) (by omega)
/-- The piece that has a fraction: both find the same, and the fraction lies on it. -/
theorem piece_at (l : List Po) (hm : mapB (l.map pt) = true) (x y : Int) (hx : unitB x y = true) : ∃ (t : Nat) (h : t + 1 < l.length), (l[t]'(by omega)).f0.f0 * y ≤ x * (l[t]'(by omega)).f0.f1 ∧ x * (l[t + 1]).f0.f1 ≤ (l[t + 1]).f0.f0 * y ∧
  ∀ k, 1000 < k → spec_imPiece.f k l x y = some (t : Int) ∧ impl_pieceAt.f k l x y = some (t : Int) := by
 obtain ⟨gx, x0, x1⟩ := unitB_iff.1 hx
 obtain ⟨m1, m2, _⟩ := mapB_parts hm
 rw [List.length_map] at m1 m2
 obtain ⟨r, hr, h2, h3, hk⟩ := index_l l hm x y hx l.length 0 (by omega) (by omega) (fun j hj => by omega)
 have f0 := x_first hm (show 0 < l.length by omega)
 have mxw : ∀ k, 1000 < k → impl_pieceAt.f k l x y = some ((r - 1 : Nat) : Int) := fun k h => by
  have := hk k (by omega)
  rw [show ((0 : Nat) : Int) = 0 by rfl] at this
  simp only [impl_pieceAt.f, slices_IndexFunc__impl_pieceAt_1.f, this, Option.bind_some]
  rw [w64 (by omega) (by omega), mx]
  congr 1
  split <;> omega
 have b2 : 0 < y := by have := (goodB_iff.1 gx).1; omega
 by_cases c : r = 0
 ·subst c
  have h1 : 0 + 1 < l.length := by omega
  have ri := x_rise hm 0 h1
  have g0 := x_good hm 0 (by omega)
  have g1 := x_good hm (0 + 1) h1
  unfold ltX at h2
  rw [getP l 0 (by omega)] at h2
  have c0 := goodB_iff.1 g0
  have c1 := goodB_iff.1 g1
  rw [f0.1, f0.2] at h2 ri
  have xz : x = 0 := by omega
  refine ⟨0, h1, by rw [f0.1, f0.2]; omega, ?_, fun k hk' => ⟨?_, mxw k hk'⟩⟩
  ·rw [xz, Int.zero_mul]
   exact Int.mul_nonneg (by omega) (by omega)
  ·exact imPiece_l l hm x y hx 0 h1 (fun j h5 h6 => by omega) (fun _ h7 => by
    unfold ltX at h7
    rw [getP l (0 + 1) h1, xz, Int.zero_mul] at h7
    have := Int.mul_nonneg (show 0 ≤ (l[0 + 1]).f0.f0 by omega) (show 0 ≤ y by omega)
    omega) 0 0 k (by omega) (by omega)
 ·have hb := h3 (r - 1) (by omega)
  unfold ltX at hb h2
  rw [getP l (r - 1) (by omega)] at hb
  rw [getP l r hr] at h2
  have e : r - 1 + 1 = r := by omega
  refine ⟨r - 1, by omega, by omega, by simp only [e]; omega, fun k hk' => ⟨?_, mxw k hk'⟩⟩
  exact imPiece_l l hm x y hx (r - 1) (by omega) (fun j h5 h6 => h3 j (by omega)) (fun _ h7 => by
   rw [e] at h7
   unfold ltX at h7
   rw [getP l r hr] at h7; exact h2 h7) (r - 1) 0 k (by omega) (by omega)

/-! raMake -/
theorem spec_raMake_at (num den : Int) (k : Nat) (h0 : den ≠ 0) (h1 : -4000000000000000000 ≤ num) (h2 : num ≤ 4000000000000000000) (h3 : -4000000000000000000 ≤ den) (h4 : den ≤ 4000000000000000000) (hk : 5000000000000000000 < k) :
  spec_raMake.f k num den = some (mk num den) := by
 have g1 := gcd_pos_right num den h0
 have g2 := gcd_le_right num den h0
 have e1 : ∀ s : Int, s ≠ 0 → -4000000000000000000 ≤ num.tdiv s ∧ num.tdiv s ≤ 4000000000000000000 := fun s hs => by
  have := Int.natAbs_tdiv_le_natAbs num s; omega
 have e2 : ∀ s : Int, s ≠ 0 → -4000000000000000000 ≤ den.tdiv s ∧ den.tdiv s ≤ 4000000000000000000 := fun s hs => by
  have := Int.natAbs_tdiv_le_natAbs den s; omega
 have eg : (Nat.gcd num.natAbs den.natAbs : Int) = (Int.gcd num den : Int) := rfl
 simp only [spec_raMake.f, spec_l1Abs_at num (by omega) (by omega), spec_l1Abs_at den (by omega) (by omega), spec_gcd_at num.natAbs den.natAbs k (by omega), Option.bind_some, mk, sg, if_neg h0, eg]
 by_cases hn : den < 0
 ·have hg : (-(Int.gcd num den : Int)) ≠ 0 := by omega
  have a := e1 _ hg; have b := e2 _ hg
  simp only [if_pos hn]
  rw [w64 (x := -(Int.gcd num den : Int)) (by omega) (by omega), if_neg hg, w64 (x := num.tdiv _) (by omega) (by omega), w64 (x := den.tdiv _) (by omega) (by omega), spec_raGood_at _ _ k (by omega), Option.bind_some]
  split <;> rfl
 ·have hg : ((Int.gcd num den : Int)) ≠ 0 := by omega
  have a := e1 _ hg; have b := e2 _ hg
  simp only [if_neg hn]
  rw [if_neg hg, w64 (x := num.tdiv _) (by omega) (by omega), w64 (x := den.tdiv _) (by omega) (by omega), spec_raGood_at _ _ k (by omega), Option.bind_some]
  split <;> rfl

/-! raSub -/
theorem spec_raSub_at (a b c d : Int) (k : Nat) (h1 : goodB a b = true) (h2 : goodB c d = true) (hk : 5000000000000000000 < k) : spec_raSub.f k a b c d = some (mk (a * d - c * b) (b * d)) := by
 obtain ⟨p1, p2, p3, _⟩ := goodB_mul h1 h2
 simp only [spec_raSub.f]
 rw [w64 (x := a * d) (by omega) (by omega), w64 (x := c * b) (by omega) (by omega), w64 (x := b * d) (by omega) (by omega), w64 (x := a * d - c * b) (by omega) (by omega), spec_raMake_at _ _ k (by omega) (by omega) (by omega) (by omega) (by omega) hk]; rfl

/-! imSlope -/
theorem spec_raDiv_at (a b c d : Int) (k : Nat) (h1 : goodB a b = true) (h2 : goodB c d = true) (hk : 5000000000000000000 < k) : spec_raDiv.f k a b c d = some (if c = 0 then (0, 0, false) else mk (a * d) (b * c)) := by
 simp only [spec_raDiv.f]
 by_cases hc : c = 0
 ·simp [hc]
 ·obtain ⟨p1, p2, p3, p4⟩ := goodB_mul h1 h2
  have p5 : b * c ≠ 0 := by
   have := (goodB_iff.1 h1).1
   exact Int.mul_ne_zero (by omega) hc
  have e : b * c = c * b := Int.mul_comm ..
  rw [if_neg hc, if_neg hc, w64 (x := a * d) (by omega) (by omega), w64 (x := b * c) (by omega) (by omega), spec_raMake_at _ _ k p5 (by omega) (by omega) (by omega) (by omega) hk]; rfl
theorem spec_imSlope_at (p r : Pt) (k : Nat) (hk : 5000000000000000000 < k) (hp : ptB p = true) (hr : ptB r = true) (hlt : p.xn * r.xd < r.xn * p.xd) :
  spec_imSlope.f k p.xn p.xd p.yn p.yd r.xn r.xd r.yn r.yd = some (slopeR p r) := by
 obtain ⟨u1, u2, v1, v2, s1, s2, e1, e2, e3, g1, g2, g3, hv, es⟩ := slope_ok hp hr hlt
 obtain ⟨hx, hy⟩ := ptB_iff.1 hp
 obtain ⟨kx, ky⟩ := ptB_iff.1 hr
 simp only [spec_imSlope.f, spec_raSub_at _ _ _ _ k (coordB_iff.1 ky).1 (coordB_iff.1 hy).1 hk, spec_raSub_at _ _ _ _ k (coordB_iff.1 kx).1 (coordB_iff.1 hx).1 hk, e1, e2, Option.bind_some, spec_raDiv_at _ _ _ _ k g1 g2 hk, if_neg (show ¬ v1 = 0 by omega), e3, es]

/-! raAddMul -/
theorem spec_raAdd_at (a b c d : Int) (k : Nat) (h1 : goodB a b = true) (h2 : goodB c d = true) (hk : 5000000000000000000 < k) : spec_raAdd.f k a b c d = some (addR a b c d) := by
 obtain ⟨p1, p2, p3, _⟩ := goodB_mul h1 h2
 simp only [spec_raAdd.f]
 rw [w64 (x := a * d) (by omega) (by omega), w64 (x := c * b) (by omega) (by omega), w64 (x := b * d) (by omega) (by omega), w64 (x := a * d + c * b) (by omega) (by omega), spec_raMake_at _ _ k (by omega) (by omega) (by omega) (by omega) (by omega) hk]; simp [addR, h1, h2]
theorem spec_raMul_at (a b c d : Int) (k : Nat) (h1 : goodB a b = true) (h2 : goodB c d = true) (hk : 5000000000000000000 < k) : spec_raMul.f k a b c d = some (mulR a b c d) := by
 obtain ⟨p1, p2, p3, p4⟩ := goodB_mul h1 h2
 simp only [spec_raMul.f]
 rw [w64 (x := a * c) (by omega) (by omega), w64 (x := b * d) (by omega) (by omega), spec_raMake_at _ _ k (by omega) (by omega) (by omega) (by omega) (by omega) hk]; simp [mulR, h1, h2]

/-! calcAdd -/
theorem impl_calc_add_at (s : Bool) (a b c d : Int) (k : Nat) (hk : 5000000000000000000 < k) : impl_calc_add.f k s a b c d = some (keepR s (addR a b c d)) := by
 simp only [impl_calc_add.f, impl_AddRats_at a b c d k hk, Option.bind_some, impl_calc_keep_at]

/-! calcMul -/
theorem impl_MultiplyRats_at (a b c d : Int) (k : Nat) (hk : 5000000000000000000 < k) : impl_MultiplyRats.f k a b c d = some (mulR a b c d) := by
 simp only [impl_MultiplyRats.f, impl_areRats_two a b c d k (by omega), Option.bind_some, mulR]
 cases h1 : goodB a b
 ·simp
 ·cases h2 : goodB c d
  ·simp
  ·obtain ⟨p1, p2, p3, p4⟩ := goodB_mul h1 h2
   simp only [Bool.and_self, if_true]
   rw [w64 (x := a * c) (by omega) (by omega), w64 (x := b * d) (by omega) (by omega), impl_lowest_at _ _ k (by omega) (by omega) (by omega) (by omega) (by omega) hk]; rfl
theorem impl_calc_mul_at (s : Bool) (a b c d : Int) (k : Nat) (hk : 5000000000000000000 < k) : impl_calc_mul.f k s a b c d = some (keepR s (mulR a b c d)) := by
 simp only [impl_calc_mul.f, impl_MultiplyRats_at a b c d k hk, Option.bind_some, impl_calc_keep_at]

/-! calcSub -/
theorem impl_calc_sub_at (s : Bool) (a b c d : Int) (k : Nat) (hk : 5000000000000000000 < k) (hc : -9223372036854775808 ≤ c) (hc2 : c ≤ 9223372036854775807) : impl_calc_sub.f k s a b c d = some (keepR s (subR a b c d)) := by
 simp only [impl_calc_sub.f, impl_SubtractRats_at a b c d k hk hc hc2, Option.bind_some, impl_calc_keep_at]

/-! value -/
/-- The value at x/y on the line of two points; the last part: does it fit? -/
def valR (p r : Pt) (x y : Int) : Int × Int × Bool :=
 if (subR x y p.xn p.xd).2.2 = true then
  (if (mulR (subR x y p.xn p.xd).1 (subR x y p.xn p.xd).2.1 (slopeR p r).1 (slopeR p r).2).2.2 = true then
   addR p.yn p.yd (mulR (subR x y p.xn p.xd).1 (subR x y p.xn p.xd).2.1 (slopeR p r).1 (slopeR p r).2).1 (mulR (subR x y p.xn p.xd).1 (subR x y p.xn p.xd).2.1 (slopeR p r).1 (slopeR p r).2).2.1
   else (0, 0, false)) else (0, 0, false)
theorem spec_raMul_00 (c d : Int) (k : Nat) : spec_raMul.f k 0 0 c d = some (0, 0, false) := by
 have e : wrap64 0 = 0 := w64 (by omega) (by omega)
 simp [spec_raMul.f, spec_raMake.f, e]
theorem mulR_comm (a b c d : Int) : mulR a b c d = mulR c d a b := by
 unfold mulR
 rw [Bool.and_comm, Int.mul_comm a c, Int.mul_comm b d]
theorem spec_imOn_at (p r : Pt) (x y : Int) (k : Nat) (hk : 5000000000000000000 < k) (hp : ptB p = true) (hr : ptB r = true) (hlt : p.xn * r.xd < r.xn * p.xd) (hx : goodB x y = true) :
  spec_imOn.f k p.xn p.xd p.yn p.yd r.xn r.xd r.yn r.yd x y = some (valR p r x y) := by
 obtain ⟨u1, u2, v1, v2, s1, s2, e1, e2, e3, g1, g2, g3, hv, es⟩ := slope_ok hp hr hlt
 obtain ⟨cx, cy⟩ := ptB_iff.1 hp
 have gx := (coordB_iff.1 cx).1
 have gy := (coordB_iff.1 cy).1
 have sb : spec_raSub.f k x y p.xn p.xd = some (subR x y p.xn p.xd) := by rw [spec_raSub_at x y p.xn p.xd k hx gx hk]; simp [subR, hx, gx]
 simp only [spec_imOn.f, sb, spec_imSlope_at p r k hk hp hr hlt, Option.bind_some, valR, es]
 rcases good_or x y p.xn p.xd with ⟨h1, h2⟩ | h
 ·rw [spec_raMul_at _ _ _ _ k h2 g3 hk, Option.bind_some, if_pos h1, if_pos h1]
  rcases mulR_or (subR x y p.xn p.xd).1 (subR x y p.xn p.xd).2.1 s1 s2 with ⟨h3, h4⟩ | h
  ·rw [if_pos h3, if_pos h3, spec_raAdd_at _ _ _ _ k gy h4 hk, Option.bind_some]
  ·rw [h]; rfl
 ·rw [h]
  simp only [spec_raMul_00, Option.bind_some]
  rfl
theorem impl_line_at (p r : Pt) (x y : Int) (k : Nat) (hk : 5000000000000000000 < k) (hp : ptB p = true) (hr : ptB r = true) (hlt : p.xn * r.xd < r.xn * p.xd) (hx : goodB x y = true) :
  ∃ w1 w2, impl_calc_line.f k false p.xn p.xd p.yn p.yd (slopeR p r).1 (slopeR p r).2 x y = some (w1, w2, !(valR p r x y).2.2) ∧ ((valR p r x y).2.2 = true → w1 = (valR p r x y).1 ∧ w2 = (valR p r x y).2.1) := by
 obtain ⟨u1, u2, v1, v2, s1, s2, e1, e2, e3, g1, g2, g3, hv, es⟩ := slope_ok hp hr hlt
 obtain ⟨cx, cy⟩ := ptB_iff.1 hp
 have gx := goodB_iff.1 (coordB_iff.1 cx).1
 simp only [impl_calc_line.f, impl_calc_sub_at _ x y p.xn p.xd k hk (by omega) (by omega), impl_calc_mul_at _ _ _ _ _ k hk, impl_calc_add_at _ _ _ _ _ k hk, Option.bind_some, valR, es]
 rcases good_or x y p.xn p.xd with ⟨h1, h2⟩ | h
 ·have f : keepR false (subR x y p.xn p.xd) = ((subR x y p.xn p.xd).1, (subR x y p.xn p.xd).2.1, false) := by rw [keepR, if_pos h1]
  rw [f, if_pos h1]
  simp only [mulR_comm s1 s2]
  rcases mulR_or (subR x y p.xn p.xd).1 (subR x y p.xn p.xd).2.1 s1 s2 with ⟨h3, h4⟩ | h
  ·have f2 : keepR false (mulR (subR x y p.xn p.xd).1 (subR x y p.xn p.xd).2.1 s1 s2) = ((mulR (subR x y p.xn p.xd).1 (subR x y p.xn p.xd).2.1 s1 s2).1, (mulR (subR x y p.xn p.xd).1 (subR x y p.xn p.xd).2.1 s1 s2).2.1, false) := by rw [keepR, if_pos h3]
   rw [f2, if_pos h3]
   rcases addR_or p.yn p.yd (mulR (subR x y p.xn p.xd).1 (subR x y p.xn p.xd).2.1 s1 s2).1 (mulR (subR x y p.xn p.xd).1 (subR x y p.xn p.xd).2.1 s1 s2).2.1 with ⟨h5, h6⟩ | h
   ·refine ⟨_, _, by rw [keepR, if_pos h5, h5]; rfl, fun _ => ⟨rfl, rfl⟩⟩
   ·rw [h]; exact ⟨0, 1, rfl, fun h => by simp at h⟩
  ·rw [h]
   refine ⟨(keepR true (addR p.yn p.yd 0 1)).1, (keepR true (addR p.yn p.yd 0 1)).2.1, ?_, fun h => by simp at h⟩
   simp only [keepR, Bool.false_eq_true, if_false]
   split <;> rfl
 ·rw [h]
  refine ⟨(keepR true (addR p.yn p.yd (keepR true (mulR s1 s2 0 1)).1 (keepR true (mulR s1 s2 0 1)).2.1)).1, (keepR true (addR p.yn p.yd (keepR true (mulR s1 s2 0 1)).1 (keepR true (mulR s1 s2 0 1)).2.1)).2.1, ?_, fun h => by simp at h⟩
  have kt : ∀ z, (keepR true z).2.2 = true := fun z => by unfold keepR; split <;> rfl
  have ko : keepR false (0, 0, false) = (0, 1, true) := rfl
  rw [ko]
  simp only [kt]
  rfl
theorem true3 {z : Int × Int × Bool} (h : z.2.2 = true) : z = (z.1, z.2.1, true) := by
 obtain ⟨a, b, c⟩ := z; simp only at h; rw [h]
theorem q01 {a b : Int} (h : coordB a b = true) : 0 ≤ q a b ∧ q a b ≤ 1 := by
 obtain ⟨g, h0, h1, _⟩ := coordB_iff.1 h
 have hb := (goodB_iff.1 g).1
 have e0 := q_le (a := 0) (b := 1) (c := a) (d := b) (by omega) (by omega)
 have e1 := q_le (a := a) (b := b) (c := 1) (d := 1) (by omega) (by omega)
 have z0 : q 0 1 = 0 := by unfold q; simp [Rat.div_def]
 have z1 : q 1 1 = 1 := by unfold q; rw [Rat.div_def]; exact Rat.mul_inv_cancel _ (by simp)
 rw [z0] at e0; rw [z1] at e1
 exact ⟨e0.2 (by omega), e1.2 (by omega)⟩
/-- A value on a piece stays within 0 .. 1. -/
theorem valR_unit (p r : Pt) (x y : Int) (hp : ptB p = true) (hr : ptB r = true) (hlt : p.xn * r.xd < r.xn * p.xd) (hx : goodB x y = true) (h0 : p.xn * y ≤ x * p.xd) (h1 : x * r.xd ≤ r.xn * y) (h : (valR p r x y).2.2 = true) :
  unitB (valR p r x y).1 (valR p r x y).2.1 = true := by
 obtain ⟨u1, u2, v1, v2, s1, s2, e1, e2, e3, g1, g2, g3, hv, es⟩ := slope_ok hp hr hlt
 obtain ⟨cx, cy⟩ := ptB_iff.1 hp
 obtain ⟨dx, dy⟩ := ptB_iff.1 hr
 have gx := (coordB_iff.1 cx).1
 have gy := (coordB_iff.1 cy).1
 have kx := (coordB_iff.1 dx).1
 have ky := (coordB_iff.1 dy).1
 have b1 := (goodB_iff.1 gx).1
 have b2 := (goodB_iff.1 gy).1
 have b3 := (goodB_iff.1 kx).1
 have b4 := (goodB_iff.1 ky).1
 have b5 := (goodB_iff.1 hx).1
 have b6 := (goodB_iff.1 g1).1
 have b7 := (goodB_iff.1 g2).1
 have b8 := (goodB_iff.1 g3).1
 unfold valR at h ⊢
 rw [es] at h ⊢
 by_cases c1 : (subR x y p.xn p.xd).2.2 = true
 ·rw [if_pos c1] at h ⊢
  by_cases c2 : (mulR (subR x y p.xn p.xd).1 (subR x y p.xn p.xd).2.1 s1 s2).2.2 = true
  ·rw [if_pos c2] at h ⊢
   have E1 : mk (x * p.xd - p.xn * y) (y * p.xd) = subR x y p.xn p.xd := by simp [subR, hx, gx]
   have t1 := true3 c1
   rw [t1] at E1
   have f := mk_good E1
   have b9 := (goodB_iff.1 f).1
   generalize (subR x y p.xn p.xd).1 = f1 at *
   generalize (subR x y p.xn p.xd).2.1 = f2 at *
   have E2 : mk (f1 * s1) (f2 * s2) = mulR f1 f2 s1 s2 := by simp [mulR, f, g3]
   have t2 := true3 c2
   rw [t2] at E2
   have f' := mk_good E2
   have b10 := (goodB_iff.1 f').1
   generalize (mulR f1 f2 s1 s2).1 = m1 at *
   generalize (mulR f1 f2 s1 s2).2.1 = m2 at *
   have E3 : mk (p.yn * m2 + m1 * p.yd) (p.yd * m2) = addR p.yn p.yd m1 m2 := by simp [addR, gy, f']
   have t3 := true3 h
   rw [t3] at E3
   have f3 := mk_good E3
   generalize (addR p.yn p.yd m1 m2).1 = w1 at *
   generalize (addR p.yn p.yd m1 m2).2.1 = w2 at *
   have b11 := (goodB_iff.1 f3).1
   have Q1 := q_sub (by omega) (by omega) E1
   have Q2 := q_mul (by omega) (by omega) E2
   have Q3 := q_add (by omega) (by omega) E3
   have Q4 := q_sub (by omega) (by omega) e1
   have Q5 := q_sub (by omega) (by omega) e2
   have Q6 := q_div (by omega) (by omega) (by omega) e3
   have cv := conv (X0 := q p.xn p.xd) (X1 := q r.xn r.xd) (x := q x y) (Y0 := q p.yn p.yd) (Y1 := q r.yn r.yd) ((q_lt (by omega) (by omega)).2 hlt) ((q_le (by omega) (by omega)).2 h0) ((q_le (by omega) (by omega)).2 h1) (q01 cy).1 (q01 cy).2 (q01 dy).1 (q01 dy).2
   rw [← Q4, ← Q5, ← Q6, ← Q1, ← Q2, ← Q3] at cv
   have z0 : q 0 1 = 0 := by unfold q; simp [Rat.div_def]
   have z1 : q 1 1 = 1 := by unfold q; rw [Rat.div_def]; exact Rat.mul_inv_cancel _ (by simp)
   have k0 := (q_le (a := 0) (b := 1) (c := w1) (d := w2) (by omega) (by omega)).1 (by rw [z0]; exact cv.1)
   have k1 := (q_le (a := w1) (b := w2) (c := 1) (d := 1) (by omega) (by omega)).1 (by rw [z1]; exact cv.2)
   exact unitB_iff.2 ⟨f3, by omega, by omega⟩
  ·rw [if_neg c2] at h; simp at h
 ·rw [if_neg c1] at h; simp at h

/-! orbit -/
theorem imAt_at (l : List Po) (hm : mapB (l.map pt) = true) (x y : Int) (hx : unitB x y = true) : ∃ v : Int × Int × Bool, (v.2.2 = true → unitB v.1 v.2.1 = true) ∧ ∀ k, 5000000000000000000 < k → spec_imAt.f k l x y = some v ∧
  ∃ w1 w2, impl_calc_value.f k false l x y = some (w1, w2, !v.2.2) ∧ (v.2.2 = true → w1 = v.1 ∧ w2 = v.2.1) := by
 obtain ⟨t, ht, a1, a2, hk⟩ := piece_at l hm x y hx
 obtain ⟨gx, _, _⟩ := unitB_iff.1 hx
 obtain ⟨m1, m2, _⟩ := mapB_parts hm
 rw [List.length_map] at m1 m2
 have p1 := pt_good hm t (by omega)
 have p2 := pt_good hm (t + 1) ht
 have ri := x_rise hm t ht
 refine ⟨valR (pt l[t]) (pt l[t + 1]) x y, fun h => valR_unit _ _ x y p1 p2 ri gx a1 a2 h, fun k h => ?_⟩
 obtain ⟨k1, k2⟩ := hk k (by omega)
 have so := spec_imOn_at (pt l[t]) (pt l[t + 1]) x y k h p1 p2 ri gx
 obtain ⟨w1, w2, io, iv⟩ := impl_line_at (pt l[t]) (pt l[t + 1]) x y k h p1 p2 ri gx
 have is := impl_calc_slope_at false (pt l[t]) (pt l[t + 1]) k h p1 p2 ri
 simp only [pt] at so io is
 constructor
 ·simp only [spec_imAt.f, k1, Option.bind_some]
  rw [if_pos (by omega), if_pos (by omega), w64 (by omega) (by omega), if_pos (by omega), if_pos (by omega), rdPt l t (by omega), show (t : Int) + 1 = ((t + 1 : Nat) : Int) by omega, rdPt l (t + 1) ht, so, Option.bind_some]; rfl
 ·refine ⟨w1, w2, ?_, iv⟩
  simp only [impl_calc_value.f, k2, Option.bind_some]
  rw [if_pos (by omega), if_pos (by omega), w64 (by omega) (by omega), if_pos (by omega), if_pos (by omega), rdPt l t (by omega), show (t : Int) + 1 = ((t + 1 : Nat) : Int) by omega, rdPt l (t + 1) ht, is, Option.bind_some]
  simp only []
  rw [io, Option.bind_some]
  rfl
theorem orbit_l (l : List Po) (hm : mapB (l.map pt) = true) (n : Nat) (hn : n ≤ 1000) : ∀ (d i : Nat) (acc : List S53) (x y : Int), i + d = n → acc.length = i → unitB x y = true → (∀ e ∈ acc, unitB e.f0 e.f1 = true) →
  ∃ L : List S53, (∀ e ∈ L, unitB e.f0 e.f1 = true) ∧ L.length ≤ n + 1 ∧ 0 < L.length ∧ ∀ k, 5000000000000000000 + d + 1 < k → spec_orRun.l0 k l n (acc ++ [⟨x, y⟩]) = some L ∧ impl_orbit.l0 k l (acc ++ [⟨x, y⟩]) n i x y false = some L := by
 intro d
 induction d with
 | zero =>
  intro i acc x y h1 h2 hx ha
  refine ⟨acc ++ [⟨x, y⟩], fun e he => ?_, by simp; omega, by simp, fun k hk => ?_⟩
  ·rcases List.mem_append.1 he with he | he
   ·exact ha e he
   ·rw [List.mem_singleton.1 he]; exact hx
  ·obtain ⟨k, rfl⟩ : ∃ q, k = q + 1 := ⟨k - 1, by omega⟩
   constructor
   ·simp only [spec_orRun.l0]; rw [if_neg (by simp; omega)]
   ·simp only [impl_orbit.l0]; rw [if_neg (by omega)]
 | succ d ih =>
  intro i acc x y h1 h2 hx ha
  obtain ⟨v, v1, v2⟩ := imAt_at l hm x y hx
  have hl : (acc ++ [(⟨x, y⟩ : S53)]).length = i + 1 := by simp; omega
  have last : rd_T53 (acc ++ [(⟨x, y⟩ : S53)]) (i : Int) = ⟨x, y⟩ := by
   rw [rdRt _ i (by omega)]; simp [← h2]
  by_cases hv : v.2.2 = true
  ·obtain ⟨L, L1, L2, L3, L4⟩ := ih (i + 1) (acc ++ [⟨x, y⟩]) v.1 v.2.1 (by omega) hl (v1 hv) (fun e he => by
    rcases List.mem_append.1 he with he | he
    ·exact ha e he
    ·rw [List.mem_singleton.1 he]; exact hx)
   refine ⟨L, L1, L2, L3, fun k hk => ?_⟩
   obtain ⟨k, rfl⟩ : ∃ q, k = q + 1 := ⟨k - 1, by omega⟩
   obtain ⟨c1, w1, w2, c2, c3⟩ := v2 k (by omega)
   obtain ⟨c3, c4⟩ := c3 hv
   obtain ⟨d1, d2⟩ := L4 k (by omega)
   constructor
   ·simp only [spec_orRun.l0, hl]
    rw [if_pos (by omega), w64 (by omega) (by omega), show ((i + 1 : Nat) : Int) - 1 = (i : Int) by omega, if_pos (by omega), if_pos (by omega), last, c1, Option.bind_some, if_pos hv, if_pos (by omega)]
    exact d1
   ·simp only [impl_orbit.l0, hl]
    rw [if_pos (by omega), c2, Option.bind_some, hv]
    simp only [Bool.not_true, Bool.false_eq_true, if_false]
    rw [if_pos (by omega), w64 (by omega) (by omega), show (i : Int) + 1 = ((i + 1 : Nat) : Int) by omega, c3, c4]
    exact d2
  ·rw [Bool.not_eq_true] at hv
   refine ⟨acc ++ [⟨x, y⟩], fun e he => ?_, by omega, by omega, fun k hk => ?_⟩
   ·rcases List.mem_append.1 he with he | he
    ·exact ha e he
    ·rw [List.mem_singleton.1 he]; exact hx
   ·obtain ⟨k, rfl⟩ : ∃ q, k = q + 1 := ⟨k - 1, by omega⟩
    obtain ⟨c1, w1, w2, c2, c3⟩ := v2 k (by omega)
    constructor
    ·simp only [spec_orRun.l0, hl]
     rw [if_pos (by omega), w64 (by omega) (by omega), show ((i + 1 : Nat) : Int) - 1 = (i : Int) by omega, if_pos (by omega), if_pos (by omega), last, c1, Option.bind_some, if_neg (by rw [hv]; simp)]
    ·simp only [impl_orbit.l0, hl]
     rw [if_pos (by omega), c2, Option.bind_some, hv]
     simp
/-- Both run the same orbit. -/
theorem orbit_at (l : List Po) (hm : mapB (l.map pt) = true) (n : Nat) (hn : n ≤ 1000) (x y : Int) (hx : unitB x y = true) :
  ∃ L : List S53, (∀ e ∈ L, unitB e.f0 e.f1 = true) ∧ L.length ≤ n + 1 ∧ 0 < L.length ∧ ∀ k, 5000000000000002000 < k → spec_orRun.f k l x y n = some L ∧ impl_orbit.f k l x y n = some L := by
 obtain ⟨L, a, b, c, h⟩ := orbit_l l hm n hn n 0 [] x y (by omega) rfl hx (by simp)
 refine ⟨L, a, b, c, fun k hk => ?_⟩
 have := h k (by omega)
 simpa [spec_orRun.f, impl_orbit.f] using this

/-! keepOk -/
theorem keepR_ok (s : Bool) (v : Int × Int × Bool) (h : (v.2.2 = true ∧ goodB v.1 v.2.1 = true) ∨ v = (0, 0, false)) :
  ∃ x y, keepR s v = (x, y, s || !v.2.2) ∧ goodB x y = true ∧ (v.2.2 = true → x = v.1 ∧ y = v.2.1) := by
 rcases h with ⟨h1, h2⟩ | h
 ·exact ⟨v.1, v.2.1, by unfold keepR; rw [if_pos h1, h1]; simp, h2, fun _ => ⟨rfl, rfl⟩⟩
 ·subst h
  exact ⟨0, 1, by unfold keepR; simp, by decide, fun h => by simp at h⟩

/-! slopesGet -/
theorem slopesR_get : ∀ (L : List Pt) (i : Nat) (h : i + 1 < L.length) (h2 : i < (slopesR L).length), (slopesR L)[i] = slopeR (L[i]'(by omega)) L[i + 1]
 | p :: r :: L, 0, _, _ => rfl
 | p :: r :: L, i + 1, h, h2 => slopesR_get (r :: L) i (by simpa using h) (by simpa [slopesR] using h2)
theorem slopesR_ln : ∀ l, (slopesR l).length = l.length - 1
 | [] => rfl
 | [_] => rfl
 | p :: r :: l => by rw [slopesR, List.length_cons, slopesR_ln (r :: l)]; simp

/-! slopesL -/
theorem impl_slopes_l (l : List S73) (hm : mapB (l.map pt) = true) : ∀ (d i k : Nat) (acc : List S53) (s : Bool), i + 1 + d = l.length → acc.length ≤ i → 5000000000000000000 + d + 1 < k →
  impl_slopes.l0 k l acc ((i + 1 : Nat) : Int) s = some (acc ++ (slopesR ((l.drop i).map pt)).map mkRt) := by
 obtain ⟨m1, m2, m3, m4⟩ := mapB_parts hm
 simp only [List.length_map] at m1 m2
 intro d
 induction d with
 | zero =>
  intro i k acc s h1 h2 h3
  obtain ⟨k, rfl⟩ : ∃ q, k = q + 1 := ⟨k - 1, by omega⟩
  simp only [impl_slopes.l0]; rw [if_neg (by omega), List.drop_eq_getElem_cons (show i < l.length by omega), List.drop_eq_nil_of_le (by omega)]; simp [slopesR]
 | succ d ih =>
  intro i k acc s h1 h2 h3
  obtain ⟨k, rfl⟩ : ∃ q, k = q + 1 := ⟨k - 1, by omega⟩
  have hp : ptB (pt (l[i]'(by omega))) = true := m3 _ (List.mem_map_of_mem (List.getElem_mem _))
  have hr : ptB (pt (l[i + 1]'(by omega))) = true := m3 _ (List.mem_map_of_mem (List.getElem_mem _))
  have hlt := risB_get (l.map pt) i (by simp; omega) m4
  simp only [List.getElem_map] at hlt
  have hs := impl_calc_slope_at s (pt (l[i]'(by omega))) (pt (l[i + 1]'(by omega))) k (by omega) hp hr hlt
  simp only [impl_slopes.l0]
  rw [if_pos (by omega), w64 (x := ((i + 1 : Nat) : Int) - 1) (by omega) (by omega), if_pos (by omega), if_pos (by omega), if_pos (by omega), show ((i + 1 : Nat) : Int) - 1 = ((i : Nat) : Int) by omega, rdPt l i (by omega), rdPt l (i + 1) (by omega)]
  refine (congrArg (fun o => Option.bind o _) hs).trans ?_
  rw [Option.bind_some, if_pos (by omega), w64 (by omega) (by omega), show ((i + 1 : Nat) : Int) + 1 = ((i + 1 + 1 : Nat) : Int) by omega, ih (i + 1) k _ _ (by omega) (by simp; omega) (by omega), List.drop_eq_getElem_cons (show i < l.length by omega), List.drop_eq_getElem_cons (show i + 1 < l.length by omega)]
  simp only [List.map_cons, slopesR, List.append_assoc, List.cons_append, List.nil_append]; rfl
theorem impl_slopes_at (l : List S73) (hm : mapB (l.map pt) = true) (k : Nat) (hk : 5000000000000000100 < k) : impl_slopes.f k l = some ((slopesR (l.map pt)).map mkRt) := by
 obtain ⟨m1, m2, _⟩ := mapB_parts hm
 simp only [List.length_map] at m1 m2
 have := impl_slopes_l l hm (l.length - 1) 0 k [] false (by omega) (by simp) (by omega)
 simpa [impl_slopes.f] using this

/-! mult -/
theorem at_same (xs : List S53) (n : Int) : ∀ (k : Nat) (i a b : Int), impl_Rat_114.l0 k xs n i a b = spec_orAt.l0 k xs n i a b := by
 intro k
 induction k with
 | zero => intro i a b; rfl
 | succ k ih =>
  intro i a b
  simp only [impl_Rat_114.l0, spec_orAt.l0, ih]
theorem period_same (xs ys : List S53) (n : Int) : ∀ (k : Nat) (i : Int), impl_periodIn.l0 k xs ys n i = spec_orPeriod.l0 k xs ys n i := by
 intro k
 induction k with
 | zero => intro i; rfl
 | succ k ih =>
  intro i
  simp only [impl_periodIn.l0, spec_orPeriod.l0, ih, impl_Rat_114.f, spec_orAt.f, at_same]
theorem at_l (xs : List S53) (hn : xs.length ≤ 1000) (a b : Int) : ∀ (d i : Nat), i + d = xs.length → ∃ t : Int, -1 ≤ t ∧ t < (xs.length : Int) ∧ ∀ k, d < k → spec_orAt.l0 k xs (xs.length : Int) (i : Int) a b = some t := by
 intro d
 induction d with
 | zero =>
  intro i h1
  refine ⟨-1, by omega, by omega, fun k h2 => ?_⟩
  obtain ⟨k, rfl⟩ : ∃ q, k = q + 1 := ⟨k - 1, by omega⟩
  simp only [spec_orAt.l0]; rw [if_neg (by omega)]
 | succ d ih =>
  intro i h1
  obtain ⟨t, t1, t2, ht⟩ := ih (i + 1) (by omega)
  have wi : wrap64 ((i : Int) + 1) = ((i + 1 : Nat) : Int) := by rw [w64 (by omega) (by omega)]; omega
  by_cases c : (a == ((rd_T53 xs (i : Int)).f0) && (b == ((rd_T53 xs (i : Int)).f1))) = true
  ·refine ⟨(i : Int), by omega, by omega, fun k h2 => ?_⟩
   obtain ⟨k, rfl⟩ : ∃ q, k = q + 1 := ⟨k - 1, by omega⟩
   simp only [spec_orAt.l0]; rw [if_pos (by omega), if_pos (by omega), if_pos (by omega), if_pos c]
  ·refine ⟨t, t1, t2, fun k h2 => ?_⟩
   obtain ⟨k, rfl⟩ : ∃ q, k = q + 1 := ⟨k - 1, by omega⟩
   simp only [spec_orAt.l0]; rw [if_pos (by omega), if_pos (by omega), if_pos (by omega), if_neg c, wi]; exact ht k (by omega)
theorem period_l (xs : List S53) (hn : xs.length ≤ 1000) : ∀ (d i : Nat), i + d = xs.length → ∃ (t p : Int) (c : Bool), (c = true → 0 ≤ t ∧ 0 < p ∧ t + p < (xs.length : Int)) ∧ ∀ k, 2000 + d < k → spec_orPeriod.l0 k xs xs (xs.length : Int) (i : Int) = some (t, p, c) := by
 intro d
 induction d with
 | zero =>
  intro i h1
  refine ⟨0, 0, false, fun h => by simp at h, fun k h2 => ?_⟩
  obtain ⟨k, rfl⟩ : ∃ q, k = q + 1 := ⟨k - 1, by omega⟩
  simp only [spec_orPeriod.l0]; rw [if_neg (by omega)]
 | succ d ih =>
  intro i h1
  have hi : i < xs.length := by omega
  obtain ⟨t, p, c, tp, ht⟩ := ih (i + 1) (by omega)
  have wi : wrap64 ((i : Int) + 1) = ((i + 1 : Nat) : Int) := by rw [w64 (by omega) (by omega)]; omega
  have tl : (xs.take i).length = i := by rw [List.length_take]; omega
  obtain ⟨q, q1, q2, hq⟩ := at_l (xs.take i) (by omega) (rd_T53 xs (i : Int)).f0 (rd_T53 xs (i : Int)).f1 (xs.take i).length 0 (by omega)
  rw [show ((0 : Nat) : Int) = 0 by rfl] at hq
  rw [tl] at q2
  by_cases g : q ≥ 0
  ·refine ⟨q, (i : Int) - q, true, fun _ => by omega, fun k h2 => ?_⟩
   obtain ⟨k, rfl⟩ : ∃ z, k = z + 1 := ⟨k - 1, by omega⟩
   simp only [spec_orPeriod.l0, Int.toNat_natCast, spec_orAt.f]
   rw [if_pos (by omega), if_pos (by omega), if_pos (by omega), if_pos (by omega), hq k (by omega), Option.bind_some, if_pos g, w64 (by omega) (by omega)]
  ·refine ⟨t, p, c, tp, fun k h2 => ?_⟩
   obtain ⟨k, rfl⟩ : ∃ z, k = z + 1 := ⟨k - 1, by omega⟩
   simp only [spec_orPeriod.l0, Int.toNat_natCast, spec_orAt.f]
   rw [if_pos (by omega), if_pos (by omega), if_pos (by omega), if_pos (by omega), hq k (by omega), Option.bind_some, if_neg g, wi]; exact ht k (by omega)
/-- The slope at a fraction, as both tell it. -/
theorem slope_both (l : List Po) (hm : mapB (l.map pt) = true) (x y : Int) (hx : unitB x y = true) : ∃ (s1 s2 : Int) (c : Bool), goodB s1 s2 = true ∧ ∀ k, 5000000000000000200 < k → spec_orSlope.f k l x y = some (if c = true then (s1, s2, true) else (0, 0, false)) ∧ impl_slopeAt.f k l x y = some (s1, s2, c) := by
 obtain ⟨t, ht, z1, z2, hk⟩ := piece_at l hm x y hx
 clear z1 z2
 obtain ⟨m1, m2, m3, m4⟩ := mapB_parts hm
 rw [List.length_map] at m1 m2
 have ln := slopesR_ln (l.map pt)
 rw [List.length_map] at ln
 have p1 := pt_good hm t (by omega)
 have p2 := pt_good hm (t + 1) ht
 obtain ⟨_, _, _, _, s1, s2, _, _, _, _, _, g3, _, es⟩ := slope_ok p1 p2 (x_rise hm t ht)
 have gS : ∀ (j : Nat) (h : j + 1 < l.length), rd_T53 ((slopesR (l.map pt)).map mkRt) (j : Int) = mkRt (slopeR (pt (l[j]'(by omega))) (pt l[j + 1])) := fun j h => by
  rw [rdRt _ j (by rw [List.length_map]; omega), List.getElem_map, slopesR_get (l.map pt) j (by rw [List.length_map]; omega) (by omega)]
  simp
 have w1 : wrap64 ((t : Int) + 1) = ((t + 1 : Nat) : Int) := by rw [w64 (by omega) (by omega)]; omega
 have w2 : wrap64 ((t : Int) + 2) = ((t + 2 : Nat) : Int) := by rw [w64 (by omega) (by omega)]; omega
 have J0 : (0 : Int) ≤ (t : Int) := by omega
 have J1 : (t : Int) < (l.length : Int) := by omega
 have J2 : (0 : Int) ≤ ((t + 1 : Nat) : Int) := by omega
 have J3 : ((t + 1 : Nat) : Int) < (l.length : Int) := by omega
 have J4 : (t : Int) < (((slopesR (l.map pt)).map mkRt).length : Int) := by rw [List.length_map]; omega
 have J5 : (0 : Int) ≤ ((t + 2 : Nat) : Int) := by omega
 have sp := fun k hk => spec_imSlope_at (pt l[t]) (pt l[t + 1]) k hk p1 p2 (x_rise hm t ht)
 simp only [es] at sp
 simp only [pt] at sp
 have gt := gS t ht
 rw [es] at gt
 -- the two ways
 by_cases e : l[t + 1].f0.f0 = x ∧ l[t + 1].f0.f1 = y
 ·by_cases h2 : t + 2 < l.length
  ·have p3 := pt_good hm (t + 2) h2
   obtain ⟨_, _, _, _, q1, q2, _, _, _, _, _, _, _, es2⟩ := slope_ok p2 p3 (x_rise hm (t + 1) h2)
   have sp2 := fun k hk => spec_imSlope_at (pt l[t + 1]) (pt l[t + 2]) k hk p2 p3 (x_rise hm (t + 1) h2)
   simp only [es2] at sp2
   simp only [pt] at sp2
   have gt2 := gS (t + 1) h2
   rw [es2] at gt2
   refine ⟨s1, s2, (s1 == q1 && s2 == q2), g3, fun k hk2 => ?_⟩
   obtain ⟨k1, k2⟩ := hk k (by omega)
   constructor
   ·simp only [spec_orSlope.f, k1, Option.bind_some, w1, w2]
    rw [if_pos J0, if_pos J1, if_pos J2, if_pos J3, rdPt l t (by omega), rdPt l (t + 1) ht, sp k (by omega), Option.bind_some, if_pos (show ((t + 2 : Nat) : Int) < (l.length : Int) by omega)]
    simp only [e.1, e.2, beq_self_eq_true, Bool.and_self, if_true]
    rw [if_pos J5, rdPt l (t + 2) h2, ← e.1, ← e.2, sp2 k (by omega), Option.bind_some]
    by_cases z1 : q1 = s1
    ·by_cases z2 : q2 = s2
     ·subst z1; subst z2; simp
     ·simp [z1, z2, Ne.symm z2, show ¬ s2 = q2 from fun h => z2 h.symm]
    ·simp [z1, show ¬ s1 = q1 from fun h => z1 h.symm]
   ·simp only [impl_slopeAt.f, impl_slopes_at l hm k (by omega), k2, Option.bind_some, w1]
    rw [if_pos J0, if_pos J4, if_pos J2, if_pos J3, rdPt l (t + 1) ht]
    simp only [e.1, e.2, beq_self_eq_true, Bool.not_true, Bool.or_self, Bool.false_eq_true, if_false]
    rw [if_neg (by rw [List.length_map]; omega), if_pos (by rw [List.length_map]; omega), gt, gt2]; rfl
  ·refine ⟨s1, s2, true, g3, fun k hk2 => ?_⟩
   obtain ⟨k1, k2⟩ := hk k (by omega)
   constructor
   ·simp only [spec_orSlope.f, k1, Option.bind_some, w1, w2]
    rw [if_pos J0, if_pos J1, if_pos J2, if_pos J3, rdPt l t (by omega), rdPt l (t + 1) ht, sp k (by omega), Option.bind_some, if_neg (show ¬ ((t + 2 : Nat) : Int) < (l.length : Int) by omega)]; rfl
   ·simp only [impl_slopeAt.f, impl_slopes_at l hm k (by omega), k2, Option.bind_some, w1]
    rw [if_pos J0, if_pos J4, if_pos J2, if_pos J3, rdPt l (t + 1) ht]
    simp only [e.1, e.2, beq_self_eq_true, Bool.not_true, Bool.or_self, Bool.false_eq_true, if_false]
    rw [if_pos (by rw [List.length_map]; omega), gt]; rfl
 ·have e1 : (l[t + 1].f0.f0 == x && (l[t + 1].f0.f1 == y)) = false := by
   rw [Bool.and_eq_false_iff, beq_eq_false_iff_ne, beq_eq_false_iff_ne]
   by_cases z : l[t + 1].f0.f0 = x
   ·exact .inr fun h => e ⟨z, h⟩
   ·exact .inl z
  have e2 : (!(l[t + 1].f0.f0 == x) || (!(l[t + 1].f0.f1 == y))) = true := by rw [← Bool.not_and, e1]; rfl
  refine ⟨s1, s2, true, g3, fun k hk2 => ?_⟩
  obtain ⟨k1, k2⟩ := hk k (by omega)
  constructor
  ·simp only [spec_orSlope.f, k1, Option.bind_some, w1, w2]
   rw [if_pos J0, if_pos J1, if_pos J2, if_pos J3, rdPt l t (by omega), rdPt l (t + 1) ht, sp k (by omega), Option.bind_some, e1]
   simp only [Bool.false_eq_true, if_false, if_true, ite_self]
  ·simp only [impl_slopeAt.f, impl_slopes_at l hm k (by omega), k2, Option.bind_some, w1]
   rw [if_pos J0, if_pos J4, if_pos J2, if_pos J3, rdPt l (t + 1) ht, if_pos e2, gt]; rfl
theorem mult_l (l : List Po) (hm : mapB (l.map pt) = true) (C : List S53) (hC : ∀ e ∈ C, unitB e.f0 e.f1 = true) (hn : C.length ≤ 1000) : ∀ (d i : Nat) (s : Bool) (m : Int × Int), i + d = C.length → goodB m.1 m.2 = true →
  ∃ r : Int × Int × Bool, (r.2.2 = true → goodB r.1 r.2.1 = true) ∧ (r.2.2 = false → r = (0, 0, false)) ∧ (s = true → r = (0, 0, false)) ∧ ∀ k, 5000000000000000300 + d < k → impl_multiplier.l0 k l C (C.length : Int) (i : Int) s m.1 m.2 = some r ∧ (s = false → spec_MultiplierAt.l0 k l C (C.length : Int) (i : Int) m.1 m.2 = some r) := by
 intro d
 induction d with
 | zero =>
  intro i s m h1 gm
  refine ⟨if s = true then (0, 0, false) else (m.1, m.2, true), ?_, ?_, ?_, fun k h2 => ?_⟩
  ·cases s <;> simp [gm]
  ·cases s <;> simp
  ·intro h; rw [if_pos h]
  ·obtain ⟨k, rfl⟩ : ∃ q, k = q + 1 := ⟨k - 1, by omega⟩
   constructor
   ·simp only [impl_multiplier.l0]; rw [if_neg (by omega)]; cases s <;> rfl
   ·intro h; subst h
    simp only [spec_MultiplierAt.l0]; rw [if_neg (by omega)]; rfl
 | succ d ih =>
  intro i s m h1 gm
  have hi : i < C.length := by omega
  have wi : wrap64 ((i : Int) + 1) = ((i + 1 : Nat) : Int) := by rw [w64 (by omega) (by omega)]; omega
  obtain ⟨s1, s2, c, gs, hk⟩ := slope_both l hm (C[i]).f0 (C[i]).f1 (hC _ (List.getElem_mem hi))
  have I0 : (0 : Int) ≤ (i : Int) := by omega
  have I1 : (i : Int) < (C.length : Int) := by omega
  have rdc := rdRt C i hi
  cases c with
  | false =>
   refine ⟨(0, 0, false), fun h => by simp at h, fun _ => rfl, fun _ => rfl, fun k h2 => ?_⟩
   obtain ⟨k, rfl⟩ : ∃ q, k = q + 1 := ⟨k - 1, by omega⟩
   obtain ⟨a1, a2⟩ := hk k (by omega)
   constructor
   ·simp only [impl_multiplier.l0]; rw [if_pos I1, if_pos I0, if_pos I1, rdc, a2, Option.bind_some]; rfl
   ·intro _; simp only [spec_MultiplierAt.l0]; rw [if_pos I1, if_pos I0, if_pos I1, rdc, a1, Option.bind_some]; rfl
  | true =>
   obtain ⟨a, b, e1, g1, v1⟩ := keepR_ok s (mulR m.1 m.2 s1 s2) (mulR_or _ _ _ _)
   obtain ⟨r, r1, r2, r3, hr⟩ := ih (i + 1) (s || !(mulR m.1 m.2 s1 s2).2.2) (a, b) (by omega) g1
   refine ⟨r, r1, r2, fun h => r3 (by rw [h]; rfl), fun k h2 => ?_⟩
   obtain ⟨k, rfl, h3⟩ : ∃ q, k = q + 1 ∧ 5000000000000000300 + d < q := ⟨k - 1, by omega, by omega⟩
   obtain ⟨a1, a2⟩ := hk k (by omega)
   obtain ⟨b1, b2⟩ := hr k h3
   constructor
   ·simp only [impl_multiplier.l0]
    rw [if_pos I1, if_pos I0, if_pos I1, rdc, a2, Option.bind_some]
    simp only [if_true]
    rw [impl_calc_mul_at _ _ _ _ _ k (by omega), e1, Option.bind_some, wi]; exact b1
   ·intro h; subst h
    simp only [spec_MultiplierAt.l0]
    rw [if_pos I1, if_pos I0, if_pos I1, rdc, a1, Option.bind_some]
    simp only [if_true]
    rw [spec_raMul_at _ _ _ _ k gm gs (by omega), Option.bind_some, wi]
    cases hM : (mulR m.1 m.2 s1 s2).2.2
    ·rw [if_neg (by simp), r3 (by rw [hM]; rfl)]
    ·obtain ⟨x1, x2⟩ := v1 hM
     have q := b2 (by rw [hM]; rfl)
     simp only [x1, x2] at q
     rw [if_pos rfl]; exact q
theorem Multiplier_at (l : List Po) (x y n : Int) : ∃ r : Int × Int × Bool, (r.2.2 = true → goodB r.1 r.2.1 = true) ∧ ∀ k, 5900000000000000000 < k → spec_MultiplierAt.f k l x y n = some r ∧ impl_MultiplierAt.f k l x y n = some r := by
 have asked : ∀ k, 5900000000000000000 < k → spec_orAsked.f k l x y n = some (mapB (l.map pt) && (unitB x y && decide (0 ≤ n ∧ n ≤ 60))) ∧ impl_isStart.f k l x y n = some (mapB (l.map pt) && (unitB x y && decide (0 ≤ n ∧ n ≤ 60))) := fun k hk => by
  simp only [spec_orAsked.f, impl_isStart.f, spec_imGood_at l k (by omega), impl_isMap_at l k (by omega), spec_raUnit_at x y k (by omega), impl_isUnit_at x y k (by omega), spec_orSteps.f, spec_l1In_eq, impl_within_eq, Option.bind_some]
  cases mapB (l.map pt) <;> cases unitB x y <;> simp
 by_cases h : (mapB (l.map pt) && (unitB x y && decide (0 ≤ n ∧ n ≤ 60))) = true
 ·have h0 := h
  rw [Bool.and_eq_true, Bool.and_eq_true, decide_eq_true_eq] at h
  obtain ⟨hm, hu, hn⟩ := h
  obtain ⟨n, rfl⟩ : ∃ q : Nat, n = (q : Int) := ⟨n.toNat, by omega⟩
  obtain ⟨L, L1, L2, L3, hk⟩ := orbit_at l hm n (by omega) x y hu
  by_cases c : (L.length : Int) ≤ (n : Int)
  ·refine ⟨(0, 0, false), fun h => by simp at h, fun k h2 => ?_⟩
   obtain ⟨a1, a2⟩ := asked k h2
   obtain ⟨k1, k2⟩ := hk k (by omega)
   rw [h0] at a1 a2
   simp only [spec_MultiplierAt.f, impl_MultiplierAt.f, impl_cycleFrom.f, impl_OrbitOf.f, spec_orCycle.f, spec_orPeriod.f, a1, a2, k1, k2, Option.bind_some, if_true, if_pos c, Bool.false_eq_true, if_false, and_self]
  ·obtain ⟨t, p, f, tp, hp⟩ := period_l L (by omega) L.length 0 (by omega)
   rw [show ((0 : Nat) : Int) = 0 by rfl] at hp
   cases f with
   | false =>
    refine ⟨(0, 0, false), fun h => by simp at h, fun k h2 => ?_⟩
    obtain ⟨a1, a2⟩ := asked k h2
    obtain ⟨k1, k2⟩ := hk k (by omega)
    have hp := hp k (by omega)
    rw [h0] at a1 a2
    simp only [spec_MultiplierAt.f, impl_MultiplierAt.f, impl_cycleFrom.f, impl_OrbitOf.f, spec_orCycle.f, spec_orPeriod.f, impl_periodIn.f, period_same, a1, a2, k1, k2, hp, Option.bind_some, if_true, if_neg c, Bool.false_eq_true, if_false, and_self]
   | true =>
    obtain ⟨t0, p0, tpl⟩ := tp rfl
    by_cases g : t > 0
    ·refine ⟨(0, 0, false), fun h => by simp at h, fun k h2 => ?_⟩
     obtain ⟨a1, a2⟩ := asked k h2
     obtain ⟨k1, k2⟩ := hk k (by omega)
     have hp := hp k (by omega)
     rw [h0] at a1 a2
     simp only [spec_MultiplierAt.f, impl_MultiplierAt.f, impl_cycleFrom.f, impl_OrbitOf.f, spec_orCycle.f, spec_orPeriod.f, impl_periodIn.f, period_same, a1, a2, k1, k2, hp, Option.bind_some, if_true, if_neg c, if_pos g, Bool.false_eq_true, if_false, and_self]
    ·have tl : (L.take p.toNat).length ≤ 1000 := by rw [List.length_take]; omega
     obtain ⟨r, r1, _, _, hr⟩ := mult_l l hm (L.take p.toNat) (fun e he => L1 e (List.mem_of_mem_take he)) tl (L.take p.toNat).length 0 false (1, 1) (by omega) (by decide)
     rw [show ((0 : Nat) : Int) = 0 by rfl] at hr
     refine ⟨r, r1, fun k h2 => ?_⟩
     obtain ⟨a1, a2⟩ := asked k h2
     obtain ⟨k1, k2⟩ := hk k (by omega)
     have hp := hp k (by omega)
     obtain ⟨b1, b2⟩ := hr k (by omega)
     have b2 := b2 rfl
     rw [h0] at a1 a2
     have P0 : 0 ≤ p := by omega
     have P1 : p ≤ (L.length : Int) := by omega
     have P2 : (L.take p.toNat).length < 8796093022208 := by omega
     constructor
     ·simp only [spec_MultiplierAt.f, spec_orCycle.f, spec_orPeriod.f, a1, k1, hp, Option.bind_some, if_true, if_neg c, if_neg g, if_pos P0, if_pos P1, spec_raInt.f]; exact b2
     ·simp only [impl_MultiplierAt.f, impl_cycleFrom.f, impl_OrbitOf.f, impl_periodIn.f, period_same, a2, k2, hp, Option.bind_some, if_true, if_neg c, if_neg g, if_pos P0, if_pos P1, impl_Rat_100.f, if_pos P2, impl_multiplier.f, impl_oneRat.f, b1]
 ·rw [Bool.not_eq_true] at h
  refine ⟨(0, 0, false), fun h => by simp at h, fun k h2 => ?_⟩
  obtain ⟨a1, a2⟩ := asked k h2
  rw [h] at a1 a2
  simp only [spec_MultiplierAt.f, impl_MultiplierAt.f, impl_cycleFrom.f, impl_OrbitOf.f, a1, a2, Option.bind_some, Bool.false_eq_true, if_false, and_self]

/-! toPointS -/
/-- A law's point, as the program's. -/
def cv (x : S76) : S73 := ⟨⟨x.f0.f0, x.f0.f1⟩, ⟨x.f1.f0, x.f1.f1⟩⟩
theorem rdLp (xs : List S76) (i : Nat) (h : i < xs.length) : rd_T76 xs (i : Int) = xs[i] := by
 simp [rd_T76, List.getD_eq_getElem?_getD, List.getElem?_eq_getElem h]
theorem laws_toPointS_l : ∀ (b a : List S76) (k : Nat), (a.length : Int) + b.length ≤ 4611686018427387904 → b.length < k → ∀ xs, xs = a ++ b →
  laws_toPointS.l0 k xs (a.map cv ++ List.replicate b.length z73) a.length = some (xs.map cv) := by
 intro b
 induction b with
 | nil =>
  intro a k h1 h2 xs hx
  obtain ⟨k, rfl⟩ : ∃ q, k = q + 1 := ⟨k - 1, by omega⟩
  subst hx
  simp [laws_toPointS.l0]
 | cons x b ih =>
  intro a k h1 h2 xs hx
  obtain ⟨k, rfl⟩ : ∃ q, k = q + 1 := ⟨k - 1, by omega⟩
  simp only [List.length_cons] at h1 h2
  have hl : xs.length = a.length + b.length + 1 := by rw [hx]; simp; omega
  simp only [laws_toPointS.l0, laws_toPoint.f, laws_toRat.f, Option.bind_some]
  have a1 : rd_T76 xs (a.length : Int) = x := by rw [rdLp xs a.length (by omega)]; subst hx; simp
  rw [if_pos (by omega), if_pos (by omega), if_pos (by simp; omega), w64 (by omega) (by omega), a1]
  have e : (a.map cv ++ List.replicate (x :: b).length z73).set (a.length : Int).toNat (⟨⟨x.f0.f0, x.f0.f1⟩, ⟨x.f1.f0, x.f1.f1⟩⟩) = (a ++ [x]).map cv ++ List.replicate b.length z73 := by
   simp [List.set_append, List.replicate_succ, cv]
  rw [e, show (a.length : Int) + 1 = ((a ++ [x]).length : Int) by simp]
  exact ih (a ++ [x]) k (by simp; omega) (by omega) xs (by rw [hx]; simp)
theorem laws_toPointS_at (xs : List S76) (k : Nat) (hn : xs.length ≤ 8796093022208) (hk : xs.length < k) : laws_toPointS.f k xs = some (xs.map cv) := by
 simp only [laws_toPointS.f]
 rw [if_pos (by omega), if_pos (by simpa using hn), Int.toNat_natCast]
 have := laws_toPointS_l xs [] k (by simp; omega) hk xs (by simp)
 simpa using this
theorem laws_szPointS_at (xs : List S76) (a : Int) (hn : xs.length ≤ 8796093022208) (h1 : 0 ≤ a) (h2 : a ≤ 1048576) : laws_szPointS.f xs a = some (if (xs.length : Int) ≤ a then a - xs.length else -1) := by
 simp only [laws_szPointS.f]
 rw [w64 (by omega) (by omega)]
 by_cases h : (xs.length : Int) ≤ a
 ·rw [if_neg (by omega), if_pos h]
 ·rw [if_pos (by omega), if_neg h]

/-! eqPointS -/
theorem laws_eqPointS_l (xs : List S73) (hn : xs.length ≤ 4611686018427387904) : ∀ (d i k : Nat), i + d = xs.length → d < k → laws_eqPointS.l0 k xs xs i = some true := by
 intro d
 induction d with
 | zero =>
  intro i k h1 h2
  obtain ⟨k, rfl⟩ : ∃ q, k = q + 1 := ⟨k - 1, by omega⟩
  simp only [laws_eqPointS.l0]; rw [if_neg (by omega)]
 | succ d ih =>
  intro i k h1 h2
  obtain ⟨k, rfl⟩ : ∃ q, k = q + 1 := ⟨k - 1, by omega⟩
  simp only [laws_eqPointS.l0, laws_eqPoint.f, laws_eqRat.f, if_true, Option.bind_some]
  rw [if_pos (by omega), if_pos (by omega), if_pos (by omega), w64 (by omega) (by omega), show (i : Int) + 1 = ((i + 1 : Nat) : Int) by omega, ih (i + 1) k (by omega) (by omega)]
theorem laws_eqPointS_at (xs : List S73) (k : Nat) (hn : xs.length ≤ 4611686018427387904) (hk : xs.length < k) : laws_eqPointS.f k xs xs = some true := by
 simp only [laws_eqPointS.f, if_true]
 exact laws_eqPointS_l xs hn xs.length 0 k (by omega) hk

end FnExactIsRepelling_
open FnExactIsRepelling_
theorem FnExactIsRepelling : laws_FnExactIsRepelling.Pure := by
 intro l a b n _ hl _ _ _ _
 refine ⟨6000000000000000000, ?_⟩
 simp only [laws_FnExactIsRepelling.f, laws_szPointS_at l 1048576 (by omega) (by omega) (by omega), Option.bind_some]
 by_cases h : (l.length : Int) ≤ 1048576
 ·rw [if_pos h, if_neg (by omega)]
  have key : ∃ r : Bool × Bool, spec_IsRepelling.f 6000000000000000000 (l.map cv) a b n = some r ∧ impl_IsRepelling.f 6000000000000000000 (l.map cv) a b n = some r := by
   obtain ⟨r, r1, hk⟩ := Multiplier_at (l.map cv) a b n
   obtain ⟨k1, k2⟩ := hk 6000000000000000000 (by omega)
   obtain ⟨x, y, c⟩ := r
   simp only [spec_IsRepelling.f, impl_IsRepelling.f, k1, k2, Option.bind_some]
   cases c with
   | false => exact ⟨(false, false), rfl, rfl⟩
   | true =>
    have g := goodB_iff.1 (r1 rfl)
    simp only [if_true, spec_l1Abs_at x (by omega) (by omega), impl_abs_at x (by omega), Option.bind_some]
    exact ⟨_, rfl, rfl⟩
  obtain ⟨r, k1, k2⟩ := key
  simp only [laws_toPointS_at l 6000000000000000000 (by omega) (by omega), laws_toRat.f, Option.bind_some, k1, k2, bne_self_eq_false, laws_FnExactIsRepelling.j0, Bool.false_eq_true, if_false, laws_toPointS_at l 5999999999999999999 (by omega) (by omega), laws_eqPointS_at _ 5999999999999999999 (show (l.map cv).length ≤ 4611686018427387904 by simp; omega) (show (l.map cv).length < 5999999999999999999 by simp; omega), if_true]
 ·rw [if_neg h, if_pos (by omega)]

end Go.Proofs.Ytannadjfkaghjaa.Pure
