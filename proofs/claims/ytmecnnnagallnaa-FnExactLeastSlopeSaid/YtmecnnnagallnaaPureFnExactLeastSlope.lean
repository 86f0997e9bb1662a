/- The program's LeastSlope returns what the reference's returns, for all arguments. -/
import Derived.Test.YtmecnnnagallnaaPFnExactLeastSlopex17
import Derived.Test.YtmecnnnagallnaaMathRat
import Derived.Test.YtmecnnnagallnaaMathQ
import Derived.Test.YtmecnnnagallnaaMathMap
import Derived.Test.YtmecnnnagallnaaMathRatOps
namespace Go.Proofs.Ytmecnnnagallnaa.Pure
open Go.RowKit Go.Proofs.Ytmecnnnagallnaa.PFnExactLeastSlope Go.Proofs.YtmecnnnagallnaaW.PrintWords Go.Proofs.YtmecnnnagallnaaW.PrintLast Go.Proofs.YtmecnnnagallnaaW.PrintMore Go.Proofs.Ytmecnnnagallnaa.Math
set_option linter.unusedVariables false
set_option linter.unusedSimpArgs false
namespace FnExactLeastSlope_
/-! wrap -/
theorem w64 {x : Int} (h1 : -9223372036854775808 ≤ x) (h2 : x ≤ 9223372036854775807) : wrap64 x = x := by unfold wrap64; omega

/-! cmpI -/
theorem impl_compare_at (a b c d : Int) (h : goodB a b = true) (h2 : goodB c d = true) : impl_compare.f a b c d = some (cmpR a b c d) := by
  obtain ⟨p1, p2, _⟩ := goodB_mul h h2
  simp only [impl_compare.f, cmpR]
  rw [w64 (by omega) (by omega), w64 (by omega) (by omega)]
  by_cases q : a * d < c * b
  · rw [if_pos q, if_pos q]
  · rw [if_neg q, if_neg q]; split <;> rfl
theorem impl_less_at (a b c d : Int) (h : goodB a b = true) (h2 : goodB c d = true) : impl_less.f a b c d = some (decide (a * d < c * b)) := by
  simp only [impl_less.f, impl_compare_at a b c d h h2, Option.bind_some, cmpR]
  congr 2; rw [eq_iff_iff]; repeat' split <;> omega

/-! cmpS -/
theorem spec_raCmp_at (a b c d : Int) (h : goodB a b = true) (h2 : goodB c d = true) : spec_raCmp.f a b c d = some (cmpR a b c d) := by
  obtain ⟨p1, p2, _⟩ := goodB_mul h h2
  simp only [spec_raCmp.f, spec_l1Sign.f, cmpR]
  rw [w64 (x := a * d) (by omega) (by omega), w64 (x := c * b) (by omega) (by omega), w64 (by omega) (by omega)]
  by_cases q : a * d < c * b
  · rw [if_neg (by omega), if_pos (by omega), if_pos q]; rfl
  · by_cases r : a * d > c * b
    · rw [if_pos (by omega), if_neg q, if_pos r]; rfl
    · rw [if_neg (by omega), if_neg (by omega), if_neg q, if_neg r]; rfl

/-! common -/
theorem impl_greater_at (a b c d : Int) (h : goodB a b = true) (h2 : goodB c d = true) : impl_greater.f a b c d = some (if a * d < c * b then (c, d) else (a, b)) := by
  simp only [impl_greater.f, impl_less_at a b c d h h2, Option.bind_some, decide_eq_true_eq]; split <;> rfl
theorem impl_lesser_at (a b c d : Int) (h : goodB a b = true) (h2 : goodB c d = true) : impl_lesser.f a b c d = some (if c * b < a * d then (c, d) else (a, b)) := by
  simp only [impl_lesser.f, impl_less_at c d a b h2 h, Option.bind_some, decide_eq_true_eq]; split <;> rfl
/-- What two intervals have in common. -/
def comR (a b c d a' b' c' d' : Int) : Int × Int × Int × Int × Bool :=
  let A := if a * b' < a' * b then (a', b') else (a, b)
  let B := if c' * d < c * d' then (c', d') else (c, d)
  if A.1 * B.2 < B.1 * A.2 then (A.1, A.2, B.1, B.2, true) else (0, 0, 0, 0, false)
theorem impl_common_at (a b c d a' b' c' d' : Int) (h1 : goodB a b = true) (h2 : goodB c d = true) (h3 : goodB a' b' = true) (h4 : goodB c' d' = true) : impl_common.f a b c d a' b' c' d' = some (comR a b c d a' b' c' d') := by
  simp only [impl_common.f, impl_greater_at a b a' b' h1 h3, impl_lesser_at c d c' d' h2 h4, Option.bind_some, comR]
  by_cases p : a * b' < a' * b <;> by_cases r : c' * d < c * d' <;> simp only [p, r, if_true, if_false]
  · rw [impl_less_at _ _ _ _ h3 h4, Option.bind_some]; simp only [decide_eq_true_eq]; split <;> rfl
  · rw [impl_less_at _ _ _ _ h3 h2, Option.bind_some]; simp only [decide_eq_true_eq]; split <;> rfl
  · rw [impl_less_at _ _ _ _ h1 h4, Option.bind_some]; simp only [decide_eq_true_eq]; split <;> rfl
  · rw [impl_less_at _ _ _ _ h1 h2, Option.bind_some]; simp only [decide_eq_true_eq]; split <;> rfl

/-! gcdI -/
theorem impl_gcd_l (b : Nat) : ∀ (a k : Nat), b < k → impl_greatestDivisor.l0 k (a : Int) (b : Int) = some ((Nat.gcd a b : Nat) : Int) := by
  induction b using Nat.strongRecOn with
  | _ b ih =>
    intro a k hk
    obtain ⟨k, rfl⟩ : ∃ m, k = m + 1 := ⟨k - 1, by omega⟩
    simp only [impl_greatestDivisor.l0]
    by_cases h : b = 0
    · subst h; simp
    · rw [if_neg (by omega), Int.tmod_eq_emod_of_nonneg (by omega), show (a : Int) % (b : Int) = ((a % b : Nat) : Int) by omega, ih (a % b) (Nat.mod_lt _ (by omega)) b k (by have := Nat.mod_lt a (show b > 0 by omega); omega)]
      rw [Nat.gcd_comm a b, Nat.gcd_rec b a, Nat.gcd_comm]
theorem impl_abs_at (a : Int) (h : -9000000000000000000 ≤ a) : impl_abs.f a = some ((a.natAbs : Nat) : Int) := by
  unfold impl_abs.f
  by_cases h0 : a < 0
  · rw [if_pos h0]
    by_cases h1 : -a ≤ 9223372036854775807
    · rw [w64 (by omega) h1]; congr 1; omega
    · omega
  · rw [if_neg h0]; congr 1; omega
theorem impl_gcd_at (a b : Int) (k : Nat) (ha : -9000000000000000000 ≤ a) (hb : -9000000000000000000 ≤ b) (hk : b.natAbs < k) : impl_greatestDivisor.f k a b = some ((Int.gcd a b : Nat) : Int) := by
  simp only [impl_greatestDivisor.f, impl_abs_at a ha, impl_abs_at b hb, Option.bind_some, impl_gcd_l b.natAbs a.natAbs k hk]; rfl

/-! within -/
theorem impl_within_eq (a b c : Int) : impl_within.f a b c = some (decide (b ≤ a ∧ a ≤ c)) := by
  unfold impl_within.f; split <;> simp <;> omega

/-! isRat -/
theorem impl_isRat_at (n d : Int) (k : Nat) (hk : 1000000000 < k) : impl_isRat.f k n d = some (goodB n d) := by
  simp only [impl_isRat.f, impl_within_eq, Option.bind_some, goodB]
  by_cases h : 1 ≤ d ∧ d ≤ 1000000000
  · by_cases h2 : -1000000000 ≤ n ∧ n ≤ 1000000000
    · rw [decide_eq_true h, decide_eq_true h2, impl_gcd_at n d k (by omega) (by omega) (by omega)]
      simp only [if_true, Option.bind_some]; congr 1; rw [Bool.eq_iff_iff]; simp [h, h2]; omega
    · rw [decide_eq_true h, decide_eq_false h2]; simp only [if_true, Bool.false_eq_true, if_false]; congr 1; symm; apply decide_eq_false; omega
  · rw [decide_eq_false h]; simp only [Bool.false_eq_true, if_false]; congr 1; symm; apply decide_eq_false; omega

/-! isUnit -/
theorem impl_isUnit_at (n d : Int) (k : Nat) (hk : 1000000000 < k) : impl_isUnit.f k n d = some (unitB n d) := by
  simp only [impl_isUnit.f, impl_isRat_at n d k hk, Option.bind_some, unitB]
  cases goodB n d
  · simp
  · by_cases h : n ≥ 0 <;> simp [h]

/-! isInterval -/
/-- A valid interval. -/
def ivB (a b c d : Int) : Bool := unitB a b && (unitB c d && decide (a * d < c * b))
theorem impl_areUnits_two (a b c d : Int) (k : Nat) (hk : 1000000010 < k) : impl_areUnits.f k [(⟨a, b⟩ : S28), ⟨c, d⟩] = some (unitB a b && unitB c d) := by
  obtain ⟨k, rfl⟩ : ∃ q, k = q + 3 := ⟨k - 3, by omega⟩
  have e1 : wrap64 (0 + 1) = 1 := by unfold wrap64; omega
  have e2 : wrap64 (1 + 1) = 2 := by unfold wrap64; omega
  have r0 : rd_T28 [(⟨a, b⟩ : S28), ⟨c, d⟩] 0 = ⟨a, b⟩ := rfl
  have r1 : rd_T28 [(⟨a, b⟩ : S28), ⟨c, d⟩] 1 = ⟨c, d⟩ := rfl
  simp only [impl_areUnits.f, slices_ContainsFunc__impl_areUnits_1.f, slices_IndexFunc__impl_areUnits_1.f, slices_IndexFunc__impl_areUnits_1.l0, e1, e2, r0, r1, impl_areUnits_1.f, impl_isUnit_at a b (k + 2) (by omega), impl_isUnit_at c d (k + 1) (by omega), Option.bind_some]
  cases unitB a b <;> cases unitB c d <;> simp
theorem impl_isInterval_at (a b c d : Int) (k : Nat) (hk : 1000000010 < k) : impl_isInterval.f k a b c d = some (ivB a b c d) := by
  simp only [impl_isInterval.f, impl_areUnits_two a b c d k hk, Option.bind_some, ivB]
  cases h1 : unitB a b
  · simp
  · cases h2 : unitB c d
    · simp
    · rw [impl_less_at a b c d (unitB_iff.1 h1).1 (unitB_iff.1 h2).1]; simp

/-! commonSame -/
theorem ivB_good {a b c d : Int} (h : ivB a b c d = true) : goodB a b = true ∧ goodB c d = true ∧ a * d < c * b := by
  simp [ivB, unitB] at h; exact ⟨h.1.1, h.2.1.1, h.2.2⟩
/-- Two intervals have something in common where they aren't separate. -/
theorem comR_sep (a b c d a' b' c' d' : Int) (h1 : ivB a b c d = true) (h2 : ivB a' b' c' d' = true) :
    comR a b c d a' b' c' d' = if (c * b' ≤ a' * d ∨ c' * b ≤ a * d') then (0, 0, 0, 0, false) else ((if a * b' < a' * b then (a', b') else (a, b)).1, (if a * b' < a' * b then (a', b') else (a, b)).2, (if c' * d < c * d' then (c', d') else (c, d)).1, (if c' * d < c * d' then (c', d') else (c, d)).2, true) := by
  obtain ⟨g1, g2, l1⟩ := ivB_good h1
  obtain ⟨g3, g4, l2⟩ := ivB_good h2
  have n1 : (c * b' ≤ a' * d) ↔ ¬ q a' b' < q c d := by rw [← good_lt g3 g2]; omega
  have n2 : (c' * b ≤ a * d') ↔ ¬ q a b < q c' d' := by rw [← good_lt g1 g4]; omega
  have e1 := good_lt g1 g3
  have e2 := good_lt g4 g2
  have e3 := good_lt g3 g4
  have e4 := good_lt g3 g2
  have e5 := good_lt g1 g4
  have e6 := good_lt g1 g2
  rw [e6] at l1; rw [e3] at l2
  unfold comR
  simp only [n1, n2]
  generalize q a b = A at *
  generalize q c d = B at *
  generalize q a' b' = A' at *
  generalize q c' d' = B' at *
  by_cases p : a * b' < a' * b <;> by_cases r : c' * d < c * d' <;> simp only [p, r, if_true, if_false, e3, e4, e5, e6] <;> (rw [e1] at p; rw [e2] at r)
  · rw [if_pos l2, if_neg (by grind)]
  · by_cases s : A' < B
    · rw [if_pos s, if_neg (by grind)]
    · rw [if_neg s, if_pos (by grind)]
  · by_cases s : A < B'
    · rw [if_pos s, if_neg (by grind)]
    · rw [if_neg s, if_pos (by grind)]
  · rw [if_pos l1, if_neg (by grind)]

/-! gcdS -/
theorem spec_gcd_l (b : Nat) : ∀ (a k : Nat), b < k → spec_raCommon.l0 k (a : Int) (b : Int) = some ((Nat.gcd a b : Nat) : Int) := by
  induction b using Nat.strongRecOn with
  | _ b ih =>
    intro a k hk
    obtain ⟨k, rfl⟩ : ∃ m, k = m + 1 := ⟨k - 1, by omega⟩
    simp only [spec_raCommon.l0]
    by_cases h : b = 0
    · subst h; simp
    · rw [if_pos (by omega), if_neg (by omega), Int.tmod_eq_emod_of_nonneg (by omega), show (a : Int) % (b : Int) = ((a % b : Nat) : Int) by omega, ih (a % b) (Nat.mod_lt _ (by omega)) b k (by have := Nat.mod_lt a (show b > 0 by omega); omega)]
      rw [Nat.gcd_comm a b, Nat.gcd_rec b a, Nat.gcd_comm]
theorem spec_l1Abs_at (a : Int) (h : -9000000000000000000 ≤ a) (h2 : a ≤ 9000000000000000000) : spec_l1Abs.f a = some ((a.natAbs : Nat) : Int) := by
  simp only [spec_l1Abs.f, spec_l1Most.f]
  rw [w64 (by omega) (by omega)]
  by_cases h0 : a > -a
  · rw [if_pos h0, Option.bind_some]; congr 1; omega
  · rw [if_neg h0, Option.bind_some]; congr 1; omega
theorem spec_gcd_at (a b : Nat) (k : Nat) (hk : b < k) : spec_raCommon.f k (a : Int) (b : Int) = some ((Nat.gcd a b : Nat) : Int) := by
  simp only [spec_raCommon.f]; exact spec_gcd_l b a k hk

/-! l1In -/
theorem spec_l1In_eq (a b c : Int) : spec_l1In.f a b c = some (decide (b ≤ a ∧ a ≤ c)) := by
  unfold spec_l1In.f; split <;> simp <;> omega

/-! raGood -/
theorem spec_raGood_at (n d : Int) (k : Nat) (hk : 1000000000 < k) : spec_raGood.f k n d = some (goodB n d) := by
  simp only [spec_raGood.f, spec_l1In_eq, Option.bind_some, goodB]
  by_cases h : 1 ≤ d ∧ d ≤ 1000000000
  · by_cases h2 : -1000000000 ≤ n ∧ n ≤ 1000000000
    · have e : d = ((d.natAbs : Nat) : Int) := by omega
      rw [decide_eq_true h, decide_eq_true h2, spec_l1Abs_at n (by omega) (by omega)]
      simp only [if_true, Option.bind_some]
      rw [show spec_raCommon.f k ((n.natAbs : Nat) : Int) d = some ((Nat.gcd n.natAbs d.natAbs : Nat) : Int) by
        have := spec_gcd_at n.natAbs d.natAbs k (by omega)
        rwa [← e] at this, Option.bind_some]
      congr 1; rw [Bool.eq_iff_iff]; simp [h, h2, Int.gcd]; omega
    · rw [decide_eq_true h, decide_eq_false h2]; simp only [if_true, Bool.false_eq_true, if_false]; congr 1; symm; apply decide_eq_false; omega
  · rw [decide_eq_false h]; simp only [Bool.false_eq_true, if_false]; congr 1; symm; apply decide_eq_false; omega

/-! raUnit -/
theorem spec_raUnit_at (n d : Int) (k : Nat) (hk : 1000000000 < k) : spec_raUnit.f k n d = some (unitB n d) := by
  simp only [spec_raUnit.f, spec_raGood_at n d k hk, spec_l1In_eq, Option.bind_some, unitB]
  cases goodB n d <;> simp

/-! ivGood -/
theorem spec_ivGood_at (a b c d : Int) (k : Nat) (hk : 1000000010 < k) : spec_ivGood.f k a b c d = some (unitB a b && (unitB c d && decide (a * d < c * b))) := by
  simp only [spec_ivGood.f, spec_raUnit_at a b k (by omega), spec_raUnit_at c d k (by omega), Option.bind_some]
  cases h1 : unitB a b
  · simp
  · cases h2 : unitB c d
    · simp
    · rw [spec_raCmp_at a b c d (unitB_iff.1 h1).1 (unitB_iff.1 h2).1]
      simp only [if_true, Option.bind_some, Bool.true_and, cmpR]
      congr 2; rw [eq_iff_iff]; repeat' split <;> omega

/-! cmpLe -/
theorem cmp_le (a b c d : Int) : cmpR a b c d ≤ 0 ↔ a * d ≤ c * b := by unfold cmpR; repeat' split <;> omega
theorem cmp_lt (a b c d : Int) : cmpR a b c d < 0 ↔ a * d < c * b := by unfold cmpR; repeat' split <;> omega

/-! rdRt -/
theorem rdRt (xs : List S28) (i : Nat) (h : i < xs.length) : rd_T28 xs (i : Int) = xs[i] := by
  simp [rd_T28, List.getD_eq_getElem?_getD, List.getElem?_eq_getElem h]
def rt (x : S28) : Int × Int := (x.f0, x.f1)

/-! rdPt -/
theorem rdPt (xs : List S68) (i : Nat) (h : i < xs.length) : rd_T68 xs (i : Int) = xs[i] := by
  simp [rd_T68, List.getD_eq_getElem?_getD, List.getElem?_eq_getElem h]
def pt (x : S68) : Pt := ⟨x.f0.f0, x.f0.f1, x.f1.f0, x.f1.f1⟩

/-! lowest -/
theorem impl_lowest_at (num den : Int) (k : Nat) (h0 : den ≠ 0) (h1 : -4000000000000000000 ≤ num) (h2 : num ≤ 4000000000000000000) (h3 : -4000000000000000000 ≤ den) (h4 : den ≤ 4000000000000000000) (hk : 5000000000000000000 < k) :
    impl_lowest.f k num den = some (mk num den) := by
  have g1 := gcd_pos_right num den h0
  have g2 := gcd_le_right num den h0
  have e1 : ∀ s : Int, s ≠ 0 → -4000000000000000000 ≤ num.tdiv s ∧ num.tdiv s ≤ 4000000000000000000 := fun s hs => by
    have := Int.natAbs_tdiv_le_natAbs num s; omega
  have e2 : ∀ s : Int, s ≠ 0 → -4000000000000000000 ≤ den.tdiv s ∧ den.tdiv s ≤ 4000000000000000000 := fun s hs => by
    have := Int.natAbs_tdiv_le_natAbs den s; omega
  simp only [impl_lowest.f, impl_gcd_at num den k (by omega) (by omega) (by omega), Option.bind_some, mk, sg]
  by_cases hn : den < 0
  · have hg : (-(Int.gcd num den : Int)) ≠ 0 := by omega
    have a := e1 _ hg; have b := e2 _ hg
    simp only [if_pos hn]
    rw [w64 (x := -(Int.gcd num den : Int)) (by omega) (by omega), if_neg hg, w64 (x := num.tdiv _) (by omega) (by omega), w64 (x := den.tdiv _) (by omega) (by omega), impl_isRat_at _ _ k (by omega), Option.bind_some]
    split <;> rfl
  · have hg : ((Int.gcd num den : Int)) ≠ 0 := by omega
    have a := e1 _ hg; have b := e2 _ hg
    simp only [if_neg hn]
    rw [if_neg hg, w64 (x := num.tdiv _) (by omega) (by omega), w64 (x := den.tdiv _) (by omega) (by omega), impl_isRat_at _ _ k (by omega), Option.bind_some]
    split <;> rfl

/-! addRats -/
theorem impl_areRats_two (a b c d : Int) (k : Nat) (hk : 1000000010 < k) : impl_areRats.f k [(⟨a, b⟩ : S28), ⟨c, d⟩] = some (goodB a b && goodB c d) := by
  obtain ⟨k, rfl⟩ : ∃ q, k = q + 3 := ⟨k - 3, by omega⟩
  have e1 : wrap64 (0 + 1) = 1 := by unfold wrap64; omega
  have e2 : wrap64 (1 + 1) = 2 := by unfold wrap64; omega
  have r0 : rd_T28 [(⟨a, b⟩ : S28), ⟨c, d⟩] 0 = ⟨a, b⟩ := rfl
  have r1 : rd_T28 [(⟨a, b⟩ : S28), ⟨c, d⟩] 1 = ⟨c, d⟩ := rfl
  simp only [impl_areRats.f, impl_areRats.l0, e1, e2, r0, r1, impl_isRat_at a b (k + 2) (by omega), impl_isRat_at c d (k + 1) (by omega), Option.bind_some]
  cases goodB a b <;> cases goodB c d <;> simp
theorem impl_AddRats_at (a b c d : Int) (k : Nat) (hk : 5000000000000000000 < k) : impl_AddRats.f k a b c d = some (addR a b c d) := by
  simp only [impl_AddRats.f, impl_areRats_two a b c d k (by omega), Option.bind_some, addR]
  cases h1 : goodB a b
  · simp
  · cases h2 : goodB c d
    · simp
    · obtain ⟨p1, p2, p3, _⟩ := goodB_mul h1 h2
      simp only [Bool.and_self, if_true]
      rw [w64 (x := a * d) (by omega) (by omega), w64 (x := c * b) (by omega) (by omega), w64 (x := b * d) (by omega) (by omega), w64 (x := a * d + c * b) (by omega) (by omega), impl_lowest_at _ _ k (by omega) (by omega) (by omega) (by omega) (by omega) hk]; rfl
theorem impl_SubtractRats_at (a b c d : Int) (k : Nat) (hk : 5000000000000000000 < k) (hc : -9223372036854775808 ≤ c) (hc2 : c ≤ 9223372036854775807) : impl_SubtractRats.f k a b c d = some (subR a b c d) := by
  simp only [impl_SubtractRats.f, impl_negated.f, Option.bind_some, impl_AddRats_at _ _ _ _ k hk]
  rw [addR_neg a b c d hc hc2]

/-! calcs -/
theorem impl_calc_keep_true (s : Bool) (n d : Int) : impl_calc_keep.f s n d true = some (n, d, s) := by simp [impl_calc_keep.f]
theorem impl_calc_keep_false (s : Bool) (n d : Int) : impl_calc_keep.f s n d false = some (0, 1, true) := by simp [impl_calc_keep.f, impl_zero.f]
/-- A result, or 0 and a note that it is too large. -/
def keepR (s : Bool) (x : Int × Int × Bool) : Int × Int × Bool := if x.2.2 = true then (x.1, x.2.1, s) else (0, 1, true)
theorem impl_calc_keep_at (s : Bool) (x : Int × Int × Bool) : impl_calc_keep.f s x.1 x.2.1 x.2.2 = some (keepR s x) := by
  obtain ⟨a, b, c⟩ := x
  cases c <;> simp [keepR, impl_calc_keep_true, impl_calc_keep_false]

/-! slopes -/
theorem impl_DivideRats_at (a b c d : Int) (k : Nat) (hk : 5000000000000000000 < k) : impl_DivideRats.f k a b c d = some (divR a b c d) := by
  simp only [impl_DivideRats.f, impl_areRats_two a b c d k (by omega), Option.bind_some, divR]
  cases h1 : goodB a b
  · simp
  · cases h2 : goodB c d
    · simp
    · by_cases hc : c = 0
      · simp [hc]
      · obtain ⟨p1, p2, p3, p4⟩ := goodB_mul h1 h2
        have p5 : b * c ≠ 0 := by
          have := (goodB_iff.1 h1).1
          exact Int.mul_ne_zero (by omega) hc
        have e : b * c = c * b := Int.mul_comm ..
        simp only [Bool.and_self, if_true, if_neg hc]
        rw [w64 (x := a * d) (by omega) (by omega), w64 (x := b * c) (by omega) (by omega), impl_lowest_at _ _ k p5 (by omega) (by omega) (by omega) (by omega) hk]; rfl
/-- Differences and slopes of coordinates are valid. -/
theorem coord_sub {a b c d : Int} (h1 : coordB a b = true) (h2 : coordB c d = true) :
    ∃ n m, mk (a * d - c * b) (b * d) = (n, m, true) ∧ goodB n m = true ∧ n * (b * d) = (a * d - c * b) * m ∧ n.natAbs ≤ 10000 ∧ m ≤ 10000 := by
  obtain ⟨g1, a1, a2, a3⟩ := coordB_iff.1 h1
  obtain ⟨g2, b1, b2, b3⟩ := coordB_iff.1 h2
  have d1 := (goodB_iff.1 g1).1
  have d2 := (goodB_iff.1 g2).1
  have e1 := mul_bd (M := 100) (N := 100) (show -100 ≤ a by omega) (by omega) (show -100 ≤ d by omega) b3
  have e2 := mul_bd (M := 100) (N := 100) (show -100 ≤ c by omega) (by omega) (show -100 ≤ b by omega) a3
  have e3 := mul_bd (M := 100) (N := 100) (show -100 ≤ b by omega) (by omega) (show -100 ≤ d by omega) b3
  have e4 : 0 < b * d := Int.mul_pos (by omega) (by omega)
  have e5 : 0 ≤ a * d := Int.mul_nonneg a1 (by omega)
  have e6 : 0 ≤ c * b := Int.mul_nonneg b1 (by omega)
  obtain ⟨n, m, h, g, v, l1, l2⟩ := mk_ok (num := a * d - c * b) (den := b * d) (by omega) (by omega) (by omega) (by omega)
  exact ⟨n, m, h, g, v, by omega, by omega⟩
/-- The slope of a piece, as both compute it. -/
theorem slope_ok {p r : Pt} (hp : ptB p = true) (hr : ptB r = true) (hlt : p.xn * r.xd < r.xn * p.xd) :
    ∃ u1 u2 v1 v2 s1 s2, mk (r.yn * p.yd - p.yn * r.yd) (r.yd * p.yd) = (u1, u2, true) ∧ mk (r.xn * p.xd - p.xn * r.xd) (r.xd * p.xd) = (v1, v2, true) ∧ mk (u1 * v2) (u2 * v1) = (s1, s2, true) ∧
      goodB u1 u2 = true ∧ goodB v1 v2 = true ∧ goodB s1 s2 = true ∧ 0 < v1 ∧ slopeR p r = (s1, s2) := by
  obtain ⟨hx, hy⟩ := ptB_iff.1 hp
  obtain ⟨kx, ky⟩ := ptB_iff.1 hr
  obtain ⟨u1, u2, e1, g1, f1, b1, b2⟩ := coord_sub ky hy
  obtain ⟨v1, v2, e2, g2, f2, c1, c2⟩ := coord_sub kx hx
  have m1 := (goodB_iff.1 g1).1
  have m2 := (goodB_iff.1 g2).1
  have x1 := (goodB_iff.1 (coordB_iff.1 hx).1).1
  have x2 := (goodB_iff.1 (coordB_iff.1 kx).1).1
  have hv : 0 < v1 := by
    have q1 : 0 < (r.xn * p.xd - p.xn * r.xd) * v2 := Int.mul_pos (by omega) (by omega)
    rw [← f2] at q1
    have q2 : 0 < r.xd * p.xd := Int.mul_pos (by omega) (by omega)
    exact Int.pos_of_mul_pos_left q1 (by omega)
  have t1 := mul_bd (M := 10000) (N := 10000) (show -10000 ≤ u1 by omega) (by omega) (show -10000 ≤ v2 by omega) c2
  have t2 := mul_bd (M := 10000) (N := 10000) (show -10000 ≤ u2 by omega) b2 (show -10000 ≤ v1 by omega) (by omega)
  have t3 : 0 < u2 * v1 := Int.mul_pos (by omega) hv
  obtain ⟨s1, s2, e3, g3, _⟩ := mk_ok (num := u1 * v2) (den := u2 * v1) (by omega) (by omega) (by omega) (by omega)
  refine ⟨u1, u2, v1, v2, s1, s2, e1, e2, e3, g1, g2, g3, hv, ?_⟩
  simp only [slopeR, e1, e2, e3]
theorem impl_calc_sub_ok (s : Bool) {a b c d n m : Int} (k : Nat) (hk : 5000000000000000000 < k) (h1 : goodB a b = true) (h2 : goodB c d = true) (h : mk (a * d - c * b) (b * d) = (n, m, true)) : impl_calc_sub.f k s a b c d = some (n, m, s) := by
  have hc := goodB_iff.1 h2
  simp only [impl_calc_sub.f, impl_SubtractRats_at a b c d k hk (by omega) (by omega), Option.bind_some, subR, h1, h2, Bool.and_self, if_true, h, impl_calc_keep_true]
theorem impl_calc_div_ok (s : Bool) {a b c d n m : Int} (k : Nat) (hk : 5000000000000000000 < k) (h1 : goodB a b = true) (h2 : goodB c d = true) (hc : c ≠ 0) (h : mk (a * d) (b * c) = (n, m, true)) : impl_calc_div.f k s a b c d = some (n, m, s) := by
  simp only [impl_calc_div.f, impl_DivideRats_at a b c d k hk, Option.bind_some, divR, h1, h2, Bool.and_self, if_true, if_neg hc, h, impl_calc_keep_true]
theorem impl_calc_slope_at (s : Bool) (p r : Pt) (k : Nat) (hk : 5000000000000000000 < k) (hp : ptB p = true) (hr : ptB r = true) (hlt : p.xn * r.xd < r.xn * p.xd) :
    impl_calc_slope.f k s p.xn p.xd p.yn p.yd r.xn r.xd r.yn r.yd = some ((slopeR p r).1, (slopeR p r).2, s) := by
  obtain ⟨u1, u2, v1, v2, s1, s2, e1, e2, e3, g1, g2, g3, hv, es⟩ := slope_ok hp hr hlt
  obtain ⟨hx, hy⟩ := ptB_iff.1 hp
  obtain ⟨kx, ky⟩ := ptB_iff.1 hr
  simp only [impl_calc_slope.f, impl_calc_sub_ok s k hk (coordB_iff.1 ky).1 (coordB_iff.1 hy).1 e1, Option.bind_some, impl_calc_sub_ok s k hk (coordB_iff.1 kx).1 (coordB_iff.1 hx).1 e2, impl_calc_div_ok s k hk g1 g2 (by omega) e3, es]

/-! slopesR -/
/-- The slopes of all pieces. -/
def slopesR : List Pt → List (Int × Int)
  | p :: r :: l => slopeR p r :: slopesR (r :: l)
  | _ => []
def mkRt (x : Int × Int) : S28 := ⟨x.1, x.2⟩
theorem risB_get (l : List Pt) : ∀ (i : Nat) (h : i + 1 < l.length), risB (l.map xOf) = true → (l[i]'(by omega)).xn * (l[i + 1]'h).xd < (l[i + 1]'h).xn * (l[i]'(by omega)).xd := by
  induction l with
  | nil => intro i h; simp at h
  | cons p l ih =>
    intro i h hr
    cases l with
    | nil => simp at h
    | cons r l =>
      simp only [List.map_cons, risB, Bool.and_eq_true, decide_eq_true_eq] at hr
      cases i with
      | zero => exact hr.1
      | succ i => exact ih i (by simpa using h) hr.2
theorem mapB_parts {l : List Pt} (h : mapB l = true) : 2 ≤ l.length ∧ l.length ≤ 12 ∧ (∀ p ∈ l, ptB p = true) ∧ risB (l.map xOf) = true := by
  simp only [mapB, Bool.and_eq_true, decide_eq_true_eq, List.all_eq_true] at h
  exact ⟨h.1.1, h.1.2, h.2.1, h.2.2.2.2⟩

/-! raMake -/
theorem spec_raMake_at (num den : Int) (k : Nat) (h0 : den ≠ 0) (h1 : -4000000000000000000 ≤ num) (h2 : num ≤ 4000000000000000000) (h3 : -4000000000000000000 ≤ den) (h4 : den ≤ 4000000000000000000) (hk : 5000000000000000000 < k) :
    spec_raMake.f k num den = some (mk num den) := by
  have g1 := gcd_pos_right num den h0
  have g2 := gcd_le_right num den h0
  have e1 : ∀ s : Int, s ≠ 0 → -4000000000000000000 ≤ num.tdiv s ∧ num.tdiv s ≤ 4000000000000000000 := fun s hs => by
    have := Int.natAbs_tdiv_le_natAbs num s; omega
  have e2 : ∀ s : Int, s ≠ 0 → -4000000000000000000 ≤ den.tdiv s ∧ den.tdiv s ≤ 4000000000000000000 := fun s hs => by
    have := Int.natAbs_tdiv_le_natAbs den s; omega
  have eg : (Nat.gcd num.natAbs den.natAbs : Int) = (Int.gcd num den : Int) := rfl
  simp only [spec_raMake.f, spec_l1Abs_at num (by omega) (by omega), spec_l1Abs_at den (by omega) (by omega), spec_gcd_at num.natAbs den.natAbs k (by omega), Option.bind_some, mk, sg, if_neg h0, eg]
  by_cases hn : den < 0
  · have hg : (-(Int.gcd num den : Int)) ≠ 0 := by omega
    have a := e1 _ hg; have b := e2 _ hg
    simp only [if_pos hn]
    rw [w64 (x := -(Int.gcd num den : Int)) (by omega) (by omega), if_neg hg, w64 (x := num.tdiv _) (by omega) (by omega), w64 (x := den.tdiv _) (by omega) (by omega), spec_raGood_at _ _ k (by omega), Option.bind_some]
    split <;> rfl
  · have hg : ((Int.gcd num den : Int)) ≠ 0 := by omega
    have a := e1 _ hg; have b := e2 _ hg
    simp only [if_neg hn]
    rw [if_neg hg, w64 (x := num.tdiv _) (by omega) (by omega), w64 (x := den.tdiv _) (by omega) (by omega), spec_raGood_at _ _ k (by omega), Option.bind_some]
    split <;> rfl

/-! raSub -/
theorem spec_raSub_at (a b c d : Int) (k : Nat) (h1 : goodB a b = true) (h2 : goodB c d = true) (hk : 5000000000000000000 < k) : spec_raSub.f k a b c d = some (mk (a * d - c * b) (b * d)) := by
  obtain ⟨p1, p2, p3, _⟩ := goodB_mul h1 h2
  simp only [spec_raSub.f]
  rw [w64 (x := a * d) (by omega) (by omega), w64 (x := c * b) (by omega) (by omega), w64 (x := b * d) (by omega) (by omega), w64 (x := a * d - c * b) (by omega) (by omega), spec_raMake_at _ _ k (by omega) (by omega) (by omega) (by omega) (by omega) hk]; rfl

/-! imSlope -/
theorem spec_raDiv_at (a b c d : Int) (k : Nat) (h1 : goodB a b = true) (h2 : goodB c d = true) (hk : 5000000000000000000 < k) : spec_raDiv.f k a b c d = some (if c = 0 then (0, 0, false) else mk (a * d) (b * c)) := by
  simp only [spec_raDiv.f]
  by_cases hc : c = 0
  · simp [hc]
  · obtain ⟨p1, p2, p3, p4⟩ := goodB_mul h1 h2
    have p5 : b * c ≠ 0 := by
      have := (goodB_iff.1 h1).1
      exact Int.mul_ne_zero (by omega) hc
    have e : b * c = c * b := Int.mul_comm ..
    rw [if_neg hc, if_neg hc, w64 (x := a * d) (by omega) (by omega), w64 (x := b * c) (by omega) (by omega), spec_raMake_at _ _ k p5 (by omega) (by omega) (by omega) (by omega) hk]; rfl
theorem spec_imSlope_at (p r : Pt) (k : Nat) (hk : 5000000000000000000 < k) (hp : ptB p = true) (hr : ptB r = true) (hlt : p.xn * r.xd < r.xn * p.xd) :
    spec_imSlope.f k p.xn p.xd p.yn p.yd r.xn r.xd r.yn r.yd = some (slopeR p r) := by
  obtain ⟨u1, u2, v1, v2, s1, s2, e1, e2, e3, g1, g2, g3, hv, es⟩ := slope_ok hp hr hlt
  obtain ⟨hx, hy⟩ := ptB_iff.1 hp
  obtain ⟨kx, ky⟩ := ptB_iff.1 hr
  simp only [spec_imSlope.f, spec_raSub_at _ _ _ _ k (coordB_iff.1 ky).1 (coordB_iff.1 hy).1 hk, spec_raSub_at _ _ _ _ k (coordB_iff.1 kx).1 (coordB_iff.1 hx).1 hk, e1, e2, Option.bind_some, spec_raDiv_at _ _ _ _ k g1 g2 hk, if_neg (show ¬ v1 = 0 by omega), e3, es]

/-! slopesL -/
theorem impl_slopes_l (l : List S68) (hm : mapB (l.map pt) = true) : ∀ (d i k : Nat) (acc : List S28) (s : Bool), i + 1 + d = l.length → acc.length ≤ i → 5000000000000000000 + d + 1 < k →
    impl_slopes.l0 k l acc ((i + 1 : Nat) : Int) s = some (acc ++ (slopesR ((l.drop i).map pt)).map mkRt) := by
  obtain ⟨m1, m2, m3, m4⟩ := mapB_parts hm
  simp only [List.length_map] at m1 m2
  intro d
  induction d with
  | zero =>
    intro i k acc s h1 h2 h3
    obtain ⟨k, rfl⟩ : ∃ q, k = q + 1 := ⟨k - 1, by omega⟩
    simp only [impl_slopes.l0]; rw [if_neg (by omega), List.drop_eq_getElem_cons (show i < l.length by omega), List.drop_eq_nil_of_le (by omega)]; simp [slopesR]
  | succ d ih =>
    intro i k acc s h1 h2 h3
    obtain ⟨k, rfl⟩ : ∃ q, k = q + 1 := ⟨k - 1, by omega⟩
    have hp : ptB (pt (l[i]'(by omega))) = true := m3 _ (List.mem_map_of_mem (List.getElem_mem _))
    have hr : ptB (pt (l[i + 1]'(by omega))) = true := m3 _ (List.mem_map_of_mem (List.getElem_mem _))
    have hlt := risB_get (l.map pt) i (by simp; omega) m4
    simp only [List.getElem_map] at hlt
    have hs := impl_calc_slope_at s (pt (l[i]'(by omega))) (pt (l[i + 1]'(by omega))) k (by omega) hp hr hlt
    simp only [impl_slopes.l0]
    rw [if_pos (by omega), w64 (x := ((i + 1 : Nat) : Int) - 1) (by omega) (by omega), if_pos (by omega), if_pos (by omega), if_pos (by omega), show ((i + 1 : Nat) : Int) - 1 = ((i : Nat) : Int) by omega, rdPt l i (by omega), rdPt l (i + 1) (by omega)]
    refine (congrArg (fun o => Option.bind o _) hs).trans ?_
    rw [Option.bind_some, if_pos (by omega), w64 (by omega) (by omega), show ((i + 1 : Nat) : Int) + 1 = ((i + 1 + 1 : Nat) : Int) by omega, ih (i + 1) k _ _ (by omega) (by simp; omega) (by omega), List.drop_eq_getElem_cons (show i < l.length by omega), List.drop_eq_getElem_cons (show i + 1 < l.length by omega)]
    simp only [List.map_cons, slopesR, List.append_assoc, List.cons_append, List.nil_append]; rfl
theorem impl_slopes_at (l : List S68) (hm : mapB (l.map pt) = true) (k : Nat) (hk : 5000000000000000100 < k) : impl_slopes.f k l = some ((slopesR (l.map pt)).map mkRt) := by
  obtain ⟨m1, m2, _⟩ := mapB_parts hm
  simp only [List.length_map] at m1 m2
  have := impl_slopes_l l hm (l.length - 1) 0 k [] false (by omega) (by simp) (by omega)
  simpa [impl_slopes.f] using this

/-! imSlopes -/
theorem spec_imSlopes_l (l : List S68) (hm : mapB (l.map pt) = true) : ∀ (d i k : Nat) (acc : List S28), i + 1 + d = l.length → acc.length ≤ i → 5000000000000000000 + d + 1 < k →
    spec_imSlopes.l0 k l acc ((i + 1 : Nat) : Int) = some (acc ++ (slopesR ((l.drop i).map pt)).map mkRt) := by
  obtain ⟨m1, m2, m3, m4⟩ := mapB_parts hm
  simp only [List.length_map] at m1 m2
  intro d
  induction d with
  | zero =>
    intro i k acc h1 h2 h3
    obtain ⟨k, rfl⟩ : ∃ q, k = q + 1 := ⟨k - 1, by omega⟩
    simp only [spec_imSlopes.l0]; rw [if_neg (by omega), List.drop_eq_getElem_cons (show i < l.length by omega), List.drop_eq_nil_of_le (by omega)]; simp [slopesR]
  | succ d ih =>
    intro i k acc h1 h2 h3
    obtain ⟨k, rfl⟩ : ∃ q, k = q + 1 := ⟨k - 1, by omega⟩
    have hp : ptB (pt (l[i]'(by omega))) = true := m3 _ (List.mem_map_of_mem (List.getElem_mem _))
    have hr : ptB (pt (l[i + 1]'(by omega))) = true := m3 _ (List.mem_map_of_mem (List.getElem_mem _))
    have hlt := risB_get (l.map pt) i (by simp; omega) m4
    simp only [List.getElem_map] at hlt
    have hs := spec_imSlope_at (pt (l[i]'(by omega))) (pt (l[i + 1]'(by omega))) k (by omega) hp hr hlt
    simp only [spec_imSlopes.l0]
    rw [if_pos (by omega), w64 (x := ((i + 1 : Nat) : Int) - 1) (by omega) (by omega), if_pos (by omega), if_pos (by omega), if_pos (by omega), show ((i + 1 : Nat) : Int) - 1 = ((i : Nat) : Int) by omega, rdPt l i (by omega), rdPt l (i + 1) (by omega)]
    refine (congrArg (fun o => Option.bind o _) hs).trans ?_
    rw [Option.bind_some, if_pos (by omega), w64 (by omega) (by omega), show ((i + 1 : Nat) : Int) + 1 = ((i + 1 + 1 : Nat) : Int) by omega, ih (i + 1) k _ (by omega) (by simp; omega) (by omega), List.drop_eq_getElem_cons (show i < l.length by omega), List.drop_eq_getElem_cons (show i + 1 < l.length by omega)]
    simp only [List.map_cons, slopesR, List.append_assoc, List.cons_append, List.nil_append]; rfl
theorem spec_imSlopes_at (l : List S68) (hm : mapB (l.map pt) = true) (k : Nat) (hk : 5000000000000000100 < k) : spec_imSlopes.f k l = some ((slopesR (l.map pt)).map mkRt) := by
  obtain ⟨m1, m2, _⟩ := mapB_parts hm
  simp only [List.length_map] at m1 m2
  have := spec_imSlopes_l l hm (l.length - 1) 0 k [] (by omega) (by simp) (by omega)
  simpa [spec_imSlopes.f] using this

/-! imCoord -/
theorem spec_imCoord_at (n d : Int) (k : Nat) (hk : 1000000000 < k) : spec_imCoord.f k n d = some (coordB n d) := by
  simp only [spec_imCoord.f, spec_raUnit_at n d k hk, Option.bind_some, coordB]
  cases unitB n d <;> simp

/-! imGood -/
/-- What is asked behind the loop. -/
def finB (l : List S68) : Bool := decide (((l.map pt).head?.map xOf) = some (0, 1)) && decide (((l.map pt).getLast?.map xOf) = some (1, 1))
theorem good01 : goodB 0 1 = true := by decide
theorem good11 : goodB 1 1 = true := by decide
theorem cmpR_eq0 {a b c d : Int} (h1 : goodB a b = true) (h2 : goodB c d = true) : cmpR a b c d = 0 ↔ (a = c ∧ b = d) := by
  unfold cmpR
  constructor
  · intro h; apply good_inj h1 h2; repeat' split at h <;> omega
  · rintro ⟨rfl, rfl⟩; simp
theorem spec_imGood_fin (l : List S68) (h2 : 2 ≤ l.length) (hn : l.length ≤ 12) (hg : ∀ x ∈ l, ptB (pt x) = true) (k : Nat) (i : Int) (hi : ¬ i < (l.length : Int)) (hk : 0 < k) :
    spec_imGood.l0 k l l l.length i = some (finB l) := by
  obtain ⟨k, rfl⟩ : ∃ q, k = q + 1 := ⟨k - 1, by omega⟩
  have hgood : ∀ p ∈ l, goodB p.f0.f0 p.f0.f1 = true := fun p hp => (coordB_iff.1 (ptB_iff.1 (hg p hp)).1).1
  have e0 : rd_T68 l 0 = l[0] := rdPt l 0 (by omega)
  have e1 : rd_T68 l ((l.length : Int) - 1) = l[l.length - 1] := by
    rw [show (l.length : Int) - 1 = ((l.length - 1 : Nat) : Int) by omega]; exact rdPt l (l.length - 1) (by omega)
  have f0 : (l.map pt).head?.map xOf = some ((l[0]).f0.f0, (l[0]).f0.f1) := by
    rw [List.head?_eq_getElem?]; simp [xOf, pt, show 0 < l.length by omega]
  have f1 : (l.map pt).getLast?.map xOf = some ((l[l.length - 1]).f0.f0, (l[l.length - 1]).f0.f1) := by
    rw [List.getLast?_eq_getElem?]; simp [xOf, pt, show l.length - 1 < l.length by omega]
  have g0 := hgood (l[0]) (List.getElem_mem _)
  have g1 := hgood (l[l.length - 1]) (List.getElem_mem _)
  simp only [spec_imGood.l0, spec_raInt.f, Option.bind_some]
  rw [if_neg hi, if_pos (show 0 < (l.length : Int) by omega), e0, spec_raCmp_at _ _ _ _ g0 good01, Option.bind_some, w64 (x := (l.length : Int) - 1) (by omega) (by omega), if_pos (show 0 ≤ (l.length : Int) - 1 by omega), if_pos (show (l.length : Int) - 1 < (l.length : Int) by omega), e1, spec_raCmp_at _ _ _ _ g1 good11, Option.bind_some]
  unfold finB
  rw [f0, f1]
  have q0 := cmpR_eq0 g0 good01
  have q1 := cmpR_eq0 g1 good11
  by_cases c0 : (l[0]).f0.f0 = 0 ∧ (l[0]).f0.f1 = 1
  · rw [if_pos (q0.2 c0)]
    have : (some ((l[0]).f0.f0, (l[0]).f0.f1) = some ((0 : Int), (1 : Int))) := by simp [c0]
    rw [decide_eq_true this, Bool.true_and]
    by_cases c1 : (l[l.length - 1]).f0.f0 = 1 ∧ (l[l.length - 1]).f0.f1 = 1
    · rw [q1.2 c1]; simp [c1]
    · have : ¬ (some ((l[l.length - 1]).f0.f0, (l[l.length - 1]).f0.f1) = some ((1 : Int), (1 : Int))) := by simp; intro h; exact fun h2 => c1 ⟨h, h2⟩
      have z : ¬ cmpR (l[l.length - 1]).f0.f0 (l[l.length - 1]).f0.f1 1 1 = 0 := fun h => c1 (q1.1 h)
      rw [decide_eq_false this]; congr 1; simp [z]
  · rw [if_neg (fun h => c0 (q0.1 h))]
    have : ¬ (some ((l[0]).f0.f0, (l[0]).f0.f1) = some ((0 : Int), (1 : Int))) := by simp; intro h; exact fun h2 => c0 ⟨h, h2⟩
    rw [decide_eq_false this]; rfl
theorem spec_imGood_l (l : List S68) (h2 : 2 ≤ l.length) (hn : l.length ≤ 12) : ∀ (d i k : Nat) (h : i + 1 + d = l.length), 1000000000 + d + 1 < k → (∀ x ∈ l.take (i + 1), ptB (pt x) = true) →
    spec_imGood.l0 k l l l.length ((i + 1 : Nat) : Int) = some (chk (some (pt (l[i]'(by omega)))) ((l.drop (i + 1)).map pt) && finB l) := by
  intro d
  induction d with
  | zero =>
    intro i k h1 h3 h4
    rw [spec_imGood_fin l h2 hn (by rwa [List.take_of_length_le (by omega)] at h4) k _ (by omega) (by omega), List.drop_eq_nil_of_le (by omega)]; simp [chk]
  | succ d ih =>
    intro i k h1 h3 h4
    obtain ⟨k, rfl⟩ : ∃ q, k = q + 1 := ⟨k - 1, by omega⟩
    have hp : ptB (pt (l[i]'(by omega))) = true := h4 _ (by rw [List.take_succ_eq_append_getElem (by omega)]; exact List.mem_append_right _ (List.mem_singleton_self _))
    have hgi : goodB (l[i]'(by omega)).f0.f0 (l[i]'(by omega)).f0.f1 = true := (coordB_iff.1 (ptB_iff.1 hp).1).1
    simp only [spec_imGood.l0]
    rw [if_pos (by omega), if_pos (by omega), if_pos (by omega), rdPt l (i + 1) (by omega), spec_imCoord_at _ _ k (by omega), Option.bind_some, List.drop_eq_getElem_cons (show i + 1 < l.length by omega), List.map_cons, chk]
    by_cases c1 : coordB (l[i + 1]).f0.f0 (l[i + 1]).f0.f1 = true
    · rw [if_pos c1, spec_imCoord_at _ _ k (by omega), Option.bind_some]
      by_cases c2 : coordB (l[i + 1]).f1.f0 (l[i + 1]).f1.f1 = true
      · have hp1 : ptB (pt (l[i + 1])) = true := ptB_iff.2 ⟨c1, c2⟩
        rw [if_pos c2, if_pos (show ((i + 1 : Nat) : Int) > 0 by omega), w64 (x := ((i + 1 : Nat) : Int) - 1) (by omega) (by omega), if_pos (by omega), if_pos (by omega), show ((i + 1 : Nat) : Int) - 1 = ((i : Nat) : Int) by omega, rdPt l i (by omega), spec_raCmp_at _ _ _ _ hgi (coordB_iff.1 c1).1, Option.bind_some, hp1, Bool.true_and]
        have z : (cmpR (l[i]'(by omega)).f0.f0 (l[i]'(by omega)).f0.f1 (l[i + 1]).f0.f0 (l[i + 1]).f0.f1 ≥ 0) ↔ ¬ ((l[i]'(by omega)).f0.f0 * (l[i + 1]).f0.f1 < (l[i + 1]).f0.f0 * (l[i]'(by omega)).f0.f1) := by
          unfold cmpR; repeat' split <;> omega
        have e : (pt (l[i]'(by omega))).xn * (pt (l[i + 1])).xd < (pt (l[i + 1])).xn * (pt (l[i]'(by omega))).xd ↔ ((l[i]'(by omega)).f0.f0 * (l[i + 1]).f0.f1 < (l[i + 1]).f0.f0 * (l[i]'(by omega)).f0.f1) := Iff.rfl
        by_cases s : ((l[i]'(by omega)).f0.f0 * (l[i + 1]).f0.f1 < (l[i + 1]).f0.f0 * (l[i]'(by omega)).f0.f1)
        · rw [if_neg (fun h => z.1 h s), decide_eq_true (e.2 s), Bool.true_and, w64 (by omega) (by omega), show ((i + 1 : Nat) : Int) + 1 = ((i + 1 + 1 : Nat) : Int) by omega]
          refine ih (i + 1) k (by omega) (by omega) ?_
          intro x hx
          rw [List.take_succ_eq_append_getElem (by omega)] at hx
          rcases List.mem_append.1 hx with hx | hx
          · exact h4 x hx
          · simp at hx; rw [hx]; exact hp1
        · rw [if_pos (z.2 s), decide_eq_false (fun h => s (e.1 h))]; rfl
      · have hp1 : ptB (pt (l[i + 1])) = false := by rw [Bool.eq_false_iff]; intro h; exact c2 (ptB_iff.1 h).2
        rw [if_neg c2, hp1]; rfl
    · have hp1 : ptB (pt (l[i + 1])) = false := by rw [Bool.eq_false_iff]; intro h; exact c1 (ptB_iff.1 h).1
      rw [if_neg c1, hp1]; rfl
theorem spec_imGood_at (l : List S68) (k : Nat) (hk : 1000000100 < k) : spec_imGood.f k l = some (mapB (l.map pt)) := by
  simp only [spec_imGood.f, spec_l1In_eq, Option.bind_some, mapB, List.length_map]
  by_cases h : (2 : Int) ≤ (l.length : Int) ∧ (l.length : Int) ≤ 12
  · have h' : 2 ≤ l.length ∧ l.length ≤ 12 := by omega
    rw [decide_eq_true h, decide_eq_true h', Bool.true_and]
    simp only [if_true]
    obtain ⟨k, rfl⟩ : ∃ q, k = q + 1 := ⟨k - 1, by omega⟩
    have key : spec_imGood.l0 (k + 1) l l l.length 0 = some (chk none (l.map pt) && finB l) := by
      have ed : l.map pt = pt (l[0]'(by omega)) :: (l.drop 1).map pt := by
        conv => lhs; rw [← List.drop_zero (l := l), List.drop_eq_getElem_cons (show 0 < l.length by omega)]
        rfl
      simp only [spec_imGood.l0]
      rw [if_pos (show (0 : Int) < (l.length : Int) by omega), if_pos (show (0 : Int) ≤ 0 by omega), if_pos (show (0 : Int) < (l.length : Int) by omega)]
      have e0 : rd_T68 l 0 = l[0] := rdPt l 0 (by omega)
      rw [e0, spec_imCoord_at _ _ k (by omega), Option.bind_some, ed, chk]
      by_cases c1 : coordB (l[0]).f0.f0 (l[0]).f0.f1 = true
      · rw [if_pos c1, spec_imCoord_at _ _ k (by omega), Option.bind_some]
        by_cases c2 : coordB (l[0]).f1.f0 (l[0]).f1.f1 = true
        · have hp1 : ptB (pt (l[0])) = true := ptB_iff.2 ⟨c1, c2⟩
          rw [if_pos c2, if_neg (show ¬ (0 : Int) > 0 by omega), hp1, Bool.true_and, w64 (by omega) (by omega)]
          have := spec_imGood_l l h'.1 h'.2 (l.length - 1) 0 k (by omega) (by omega) (by
            intro x hx
            rw [List.take_succ_eq_append_getElem (by omega)] at hx
            simp at hx; rw [hx]; exact hp1)
          rw [show (0 : Int) + 1 = ((0 + 1 : Nat) : Int) by rfl]; exact this
        · have hp1 : ptB (pt (l[0])) = false := by rw [Bool.eq_false_iff]; intro h; exact c2 (ptB_iff.1 h).2
          rw [if_neg c2, hp1]; rfl
      · have hp1 : ptB (pt (l[0])) = false := by rw [Bool.eq_false_iff]; intro h; exact c1 (ptB_iff.1 h).1
        rw [if_neg c1, hp1]; rfl
    rw [key, chk_none]
    unfold finB
    cases (l.map pt).all ptB <;> cases risB ((l.map pt).map xOf) <;> cases decide (Option.map xOf (List.map pt l).head? = some (0, 1)) <;> cases decide (Option.map xOf (List.map pt l).getLast? = some (1, 1)) <;> rfl
  · have h' : ¬ (2 ≤ l.length ∧ l.length ≤ 12) := by omega
    rw [decide_eq_false h, decide_eq_false h']; simp

/-! isRising -/
theorem impl_isRising_l (xs : List S28) (hn : xs.length ≤ 1000) (hg : ∀ x ∈ xs, goodB x.f0 x.f1 = true) : ∀ (d i k : Nat), i + 1 + d = xs.length → d < k →
    impl_isRising.l0 k xs ((i + 1 : Nat) : Int) = some (risB ((xs.drop i).map rt)) := by
  intro d
  induction d with
  | zero =>
    intro i k h1 h3
    obtain ⟨k, rfl⟩ : ∃ q, k = q + 1 := ⟨k - 1, by omega⟩
    simp only [impl_isRising.l0]; rw [if_neg (by omega), List.drop_eq_getElem_cons (show i < xs.length by omega), List.drop_eq_nil_of_le (by omega)]; rfl
  | succ d ih =>
    intro i k h1 h3
    obtain ⟨k, rfl⟩ : ∃ q, k = q + 1 := ⟨k - 1, by omega⟩
    simp only [impl_isRising.l0]
    rw [if_pos (by omega), w64 (x := ((i + 1 : Nat) : Int) - 1) (by omega) (by omega), if_pos (by omega), if_pos (by omega), if_pos (by omega), show ((i + 1 : Nat) : Int) - 1 = ((i : Nat) : Int) by omega, rdRt xs i (by omega), rdRt xs (i + 1) (by omega),
      impl_less_at _ _ _ _ (hg _ (List.getElem_mem _)) (hg _ (List.getElem_mem _)), Option.bind_some, w64 (by omega) (by omega), show ((i + 1 : Nat) : Int) + 1 = ((i + 1 + 1 : Nat) : Int) by omega, ih (i + 1) k (by omega) (by omega),
      List.drop_eq_getElem_cons (show i < xs.length by omega), List.drop_eq_getElem_cons (show i + 1 < xs.length by omega)]
    simp only [List.map_cons, risB, rt]
    by_cases h : (xs[i]).f0 * (xs[i + 1]).f1 < (xs[i + 1]).f0 * (xs[i]).f1
    · rw [decide_eq_true h, if_pos rfl, Bool.true_and]
    · rw [decide_eq_false h, if_neg (by simp), Bool.false_and]

/-! anyS(I=slices_IndexFunc__impl_isMap_1;C=slices_ContainsFunc__impl_isMap_1;S=S68;RD=rdPt;PRED=impl_isMap_1.f k e.f0.f0 e.f0.f1 e.f1.f0 e.f1.f1) -/
/-- ContainsFunc over structs, the predicate with rounds. -/
theorem slices_IndexFunc__impl_isMap_1_l (P : S68 → Bool) (xs : List S68) (K : Nat) (hP : ∀ e, e ∈ xs → ∀ k, K < k → impl_isMap_1.f k e.f0.f0 e.f0.f1 e.f1.f0 e.f1.f1 = some (P e)) (hn : xs.length ≤ 4611686018427387904) : ∀ (d i k : Nat), i + d = xs.length → K + d + 1 < k →
    ∃ r : Int, slices_IndexFunc__impl_isMap_1.l0 k xs xs.length i = some r ∧ (decide (r ≥ 0)) = (xs.drop i).any P := by
  intro d
  induction d with
  | zero =>
    intro i k h1 h2
    obtain ⟨k, rfl⟩ : ∃ q, k = q + 1 := ⟨k - 1, by omega⟩
    refine ⟨-1, ?_, ?_⟩
    · simp only [slices_IndexFunc__impl_isMap_1.l0]; rw [if_neg (by omega)]
    · rw [List.drop_eq_nil_of_le (by omega)]; rfl
  | succ d ih =>
    intro i k h1 h2
    obtain ⟨k, rfl⟩ : ∃ q, k = q + 1 := ⟨k - 1, by omega⟩
    simp only [slices_IndexFunc__impl_isMap_1.l0]
    have a2 := hP (xs[i]'(by omega)) (List.getElem_mem _) k (by omega)
    rw [if_pos (by omega), if_pos (by omega), if_pos (by omega), rdPt xs i (by omega), a2, Option.bind_some, List.drop_eq_getElem_cons (show i < xs.length by omega), List.any_cons]
    by_cases h : P (xs[i]'(by omega)) = true
    · exact ⟨i, by rw [if_pos h], by rw [h]; simp⟩
    · obtain ⟨r, hr, h3⟩ := ih (i + 1) k (by omega) (by omega)
      refine ⟨r, ?_, ?_⟩
      · rw [if_neg h, w64 (by omega) (by omega), show (i : Int) + 1 = ((i + 1 : Nat) : Int) by omega]; exact hr
      · rw [h3]; simp [h]
theorem slices_ContainsFunc__impl_isMap_1_at (P : S68 → Bool) (xs : List S68) (K k : Nat) (hP : ∀ e, e ∈ xs → ∀ k, K < k → impl_isMap_1.f k e.f0.f0 e.f0.f1 e.f1.f0 e.f1.f1 = some (P e)) (hn : xs.length ≤ 4611686018427387904) (hk : K + xs.length + 1 < k) : slices_ContainsFunc__impl_isMap_1.f k xs = some (xs.any P) := by
  obtain ⟨r, h1, h2⟩ := slices_IndexFunc__impl_isMap_1_l P xs K hP hn xs.length 0 k (by omega) hk
  simp only [slices_ContainsFunc__impl_isMap_1.f, slices_IndexFunc__impl_isMap_1.f]
  rw [show (0 : Int) = ((0 : Nat) : Int) by rfl, h1, Option.bind_some]
  simp only [List.drop_zero] at h2; rw [← h2]; rfl

/-! isMap -/
theorem impl_isCoord_at (n d : Int) (k : Nat) (hk : 1000000000 < k) : impl_isCoord.f k n d = some (coordB n d) := by
  simp only [impl_isCoord.f, impl_isUnit_at n d k hk, Option.bind_some, coordB]
  cases unitB n d <;> simp
theorem impl_isMap_1_at (p : S68) (k : Nat) (hk : 1000000000 < k) : impl_isMap_1.f k p.f0.f0 p.f0.f1 p.f1.f0 p.f1.f1 = some (!(ptB (pt p))) := by
  simp only [impl_isMap_1.f, impl_isCoord_at _ _ k hk, Option.bind_some, ptB, pt]
  cases coordB p.f0.f0 p.f0.f1 <;> simp
theorem impl_xsOf_l (xs : List S68) (hn : xs.length ≤ 1000) : ∀ (d i k : Nat) (acc : List S28), i + d = xs.length → acc.length = i → d < k →
    impl_xsOf.l0 k acc xs xs.length i = some (acc ++ (xs.drop i).map (·.f0)) := by
  intro d
  induction d with
  | zero =>
    intro i k acc h1 h2 h3
    obtain ⟨k, rfl⟩ : ∃ q, k = q + 1 := ⟨k - 1, by omega⟩
    simp only [impl_xsOf.l0]; rw [if_neg (by omega), List.drop_eq_nil_of_le (by omega)]; simp
  | succ d ih =>
    intro i k acc h1 h2 h3
    obtain ⟨k, rfl⟩ : ∃ q, k = q + 1 := ⟨k - 1, by omega⟩
    simp only [impl_xsOf.l0]
    rw [if_pos (by omega), if_pos (by omega), if_pos (by omega), if_pos (by omega), rdPt xs i (by omega), w64 (by omega) (by omega), show (i : Int) + 1 = ((i + 1 : Nat) : Int) by omega, ih (i + 1) k _ (by omega) (by simp; omega) (by omega), List.drop_eq_getElem_cons (show i < xs.length by omega)]
    simp only [List.map_cons, List.append_assoc, List.cons_append, List.nil_append]
theorem impl_isMap_at (l : List S68) (k : Nat) (hk : 1000000100 < k) : impl_isMap.f k l = some (mapB (l.map pt)) := by
  obtain ⟨k, rfl⟩ : ∃ q, k = q + 1 := ⟨k - 1, by omega⟩
  simp only [impl_isMap.f, impl_within_eq, Option.bind_some, mapB, List.length_map]
  by_cases h : (2 : Int) ≤ (l.length : Int) ∧ (l.length : Int) ≤ 12
  · have h' : 2 ≤ l.length ∧ l.length ≤ 12 := by omega
    rw [decide_eq_true h, decide_eq_true h', Bool.true_and]
    simp only [if_true]
    rw [slices_ContainsFunc__impl_isMap_1_at (fun p => !(ptB (pt p))) l 1000000000 (k + 1) (fun e _ k hk => impl_isMap_1_at e k hk) (by omega) (by omega), Option.bind_some]
    by_cases ha : (l.map pt).all ptB = true
    · have hb : (l.any fun p => !(ptB (pt p))) = false := by
        rw [List.any_eq_false]; intro p hp
        rw [List.all_eq_true] at ha
        have := ha (pt p) (List.mem_map_of_mem hp)
        simp [this]
      rw [hb, ha, Bool.true_and]
      have hgood : ∀ p ∈ l, goodB p.f0.f0 p.f0.f1 = true := by
        intro p hp
        rw [List.all_eq_true] at ha
        exact (coordB_iff.1 (ptB_iff.1 (ha (pt p) (List.mem_map_of_mem hp))).1).1
      have e0 : rd_T68 l 0 = l[0] := rdPt l 0 (by omega)
      have e1 : rd_T68 l ((l.length : Int) - 1) = l[l.length - 1] := by
        rw [show (l.length : Int) - 1 = ((l.length - 1 : Nat) : Int) by omega]; exact rdPt l (l.length - 1) (by omega)
      have f0 : (l.map pt).head?.map xOf = some ((l[0]).f0.f0, (l[0]).f0.f1) := by
        rw [List.head?_eq_getElem?]; simp [xOf, pt, show 0 < l.length by omega]
      have f1 : (l.map pt).getLast?.map xOf = some ((l[l.length - 1]).f0.f0, (l[l.length - 1]).f0.f1) := by
        rw [List.getLast?_eq_getElem?]; simp [xOf, pt, show l.length - 1 < l.length by omega]
      simp only [impl_isMap.j0, impl_zero.f, impl_oneRat.f, Option.bind_some, Bool.false_eq_true, if_false]
      rw [w64 (x := (l.length : Int) - 1) (by omega) (by omega), if_pos (show 0 < (l.length : Int) by omega), if_pos (show 0 ≤ (l.length : Int) - 1 by omega), if_pos (show (l.length : Int) - 1 < (l.length : Int) by omega), e0, e1, f0, f1]
      have hx := impl_xsOf_l l (by omega) l.length 0 k [] (by omega) rfl (by omega)
      have hr := impl_isRising_l (l.map (·.f0)) (by simp; omega) (fun x hx => by obtain ⟨p, hp, rfl⟩ := List.mem_map.1 hx; exact hgood p hp) (l.length - 1) 0 k (by simp; omega) (by omega)
      simp only [List.drop_zero, List.nil_append] at hx hr
      have hx' : impl_xsOf.f k l = some (l.map (·.f0)) := hx
      have hr' : impl_isRising.f k (l.map (·.f0)) = some (risB ((l.map (·.f0)).map rt)) := hr
      simp only [hx', hr', Option.bind_some, List.map_map]
      have em : (List.map (rt ∘ fun x => x.f0) l) = List.map (xOf ∘ pt) l := rfl
      rw [em]
      by_cases c0 : (l[0]).f0.f0 = 0 ∧ (l[0]).f0.f1 = 1
      · by_cases c1 : (l[l.length - 1]).f0.f0 = 1 ∧ (l[l.length - 1]).f0.f1 = 1
        · simp [c0.1, c0.2, c1.1, c1.2]
        · rw [if_pos (by simp [c0.1, c0.2]), if_neg (by simp; intro h; exact fun h2 => c1 ⟨h, h2⟩)]
          have : ¬ (some ((l[l.length - 1]).f0.f0, (l[l.length - 1]).f0.f1) = some ((1 : Int), (1 : Int))) := by simp; intro h; exact fun h2 => c1 ⟨h, h2⟩
          simp [this]
      · rw [if_neg (by simp; intro h; exact fun h2 => c0 ⟨h, h2⟩)]
        have : ¬ (some ((l[0]).f0.f0, (l[0]).f0.f1) = some ((0 : Int), (1 : Int))) := by simp; intro h; exact fun h2 => c0 ⟨h, h2⟩
        simp [this]
    · have hb : (l.any fun p => !(ptB (pt p))) = true := by
        rw [← Bool.not_eq_false]; intro e; rw [List.any_eq_false] at e; apply ha; rw [List.all_eq_true]
        intro q hq; obtain ⟨p, hp, rfl⟩ := List.mem_map.1 hq; simpa using e p hp
      rw [hb, Bool.eq_false_iff.2 ha]; simp [impl_isMap.j0]
  · have h' : ¬ (2 ≤ l.length ∧ l.length ≤ 12) := by omega
    rw [decide_eq_false h, decide_eq_false h']; simp [impl_isMap.j0]

/-! toPointS -/
/-- A law's point, as the program's. -/
def cv (x : S72) : S68 := ⟨⟨x.f0.f0, x.f0.f1⟩, ⟨x.f1.f0, x.f1.f1⟩⟩
theorem rdLp (xs : List S72) (i : Nat) (h : i < xs.length) : rd_T72 xs (i : Int) = xs[i] := by
  simp [rd_T72, List.getD_eq_getElem?_getD, List.getElem?_eq_getElem h]
theorem laws_toPointS_l : ∀ (b a : List S72) (k : Nat), (a.length : Int) + b.length ≤ 4611686018427387904 → b.length < k → ∀ xs, xs = a ++ b →
    laws_toPointS.l0 k xs (a.map cv ++ List.replicate b.length z68) a.length = some (xs.map cv) := by
  intro b
  induction b with
  | nil =>
    intro a k h1 h2 xs hx
    obtain ⟨k, rfl⟩ : ∃ q, k = q + 1 := ⟨k - 1, by omega⟩
    subst hx
    simp [laws_toPointS.l0]
  | cons x b ih =>
    intro a k h1 h2 xs hx
    obtain ⟨k, rfl⟩ : ∃ q, k = q + 1 := ⟨k - 1, by omega⟩
    simp only [List.length_cons] at h1 h2
    have hl : xs.length = a.length + b.length + 1 := by rw [hx]; simp; omega
    simp only [laws_toPointS.l0, laws_toPoint.f, laws_toRat.f, Option.bind_some]
    have a1 : rd_T72 xs (a.length : Int) = x := by rw [rdLp xs a.length (by omega)]; subst hx; simp
    rw [if_pos (by omega), if_pos (by omega), if_pos (by simp; omega), w64 (by omega) (by omega), a1]
    have e : (a.map cv ++ List.replicate (x :: b).length z68).set (a.length : Int).toNat (⟨⟨x.f0.f0, x.f0.f1⟩, ⟨x.f1.f0, x.f1.f1⟩⟩) = (a ++ [x]).map cv ++ List.replicate b.length z68 := by
      simp [List.set_append, List.replicate_succ, cv]
    rw [e, show (a.length : Int) + 1 = ((a ++ [x]).length : Int) by simp]
    exact ih (a ++ [x]) k (by simp; omega) (by omega) xs (by rw [hx]; simp)
theorem laws_toPointS_at (xs : List S72) (k : Nat) (hn : xs.length ≤ 8796093022208) (hk : xs.length < k) : laws_toPointS.f k xs = some (xs.map cv) := by
  simp only [laws_toPointS.f]
  rw [if_pos (by omega), if_pos (by simpa using hn), Int.toNat_natCast]
  have := laws_toPointS_l xs [] k (by simp; omega) hk xs (by simp)
  simpa using this
theorem laws_szPointS_at (xs : List S72) (a : Int) (hn : xs.length ≤ 8796093022208) (h1 : 0 ≤ a) (h2 : a ≤ 1048576) : laws_szPointS.f xs a = some (if (xs.length : Int) ≤ a then a - xs.length else -1) := by
  simp only [laws_szPointS.f]
  rw [w64 (by omega) (by omega)]
  by_cases h : (xs.length : Int) ≤ a
  · rw [if_neg (by omega), if_pos h]
  · rw [if_pos (by omega), if_neg h]

/-! eqPointS -/
theorem laws_eqPointS_l (xs : List S68) (hn : xs.length ≤ 4611686018427387904) : ∀ (d i k : Nat), i + d = xs.length → d < k → laws_eqPointS.l0 k xs xs i = some true := by
  intro d
  induction d with
  | zero =>
    intro i k h1 h2
    obtain ⟨k, rfl⟩ : ∃ q, k = q + 1 := ⟨k - 1, by omega⟩
    simp only [laws_eqPointS.l0]; rw [if_neg (by omega)]
  | succ d ih =>
    intro i k h1 h2
    obtain ⟨k, rfl⟩ : ∃ q, k = q + 1 := ⟨k - 1, by omega⟩
    simp only [laws_eqPointS.l0, laws_eqPoint.f, laws_eqRat.f, if_true, Option.bind_some]
    rw [if_pos (by omega), if_pos (by omega), if_pos (by omega), w64 (by omega) (by omega), show (i : Int) + 1 = ((i + 1 : Nat) : Int) by omega, ih (i + 1) k (by omega) (by omega)]
theorem laws_eqPointS_at (xs : List S68) (k : Nat) (hn : xs.length ≤ 4611686018427387904) (hk : xs.length < k) : laws_eqPointS.f k xs xs = some true := by
  simp only [laws_eqPointS.f, if_true]
  exact laws_eqPointS_l xs hn xs.length 0 k (by omega) hk

end FnExactLeastSlope_
open FnExactLeastSlope_
def mnF (m : S28) (xs : List S28) : S28 := xs.foldl (fun m y => if y.f0 * m.f1 < m.f0 * y.f1 then y else m) m
theorem mnF_mem : ∀ (xs : List S28) (m : S28), mnF m xs = m ∨ mnF m xs ∈ xs
  | [], m => .inl rfl
  | y :: xs, m => by
    have e : mnF m (y :: xs) = mnF (if y.f0 * m.f1 < m.f0 * y.f1 then y else m) xs := rfl
    rw [e]
    rcases mnF_mem xs (if y.f0 * m.f1 < m.f0 * y.f1 then y else m) with h | h
    · rw [h]
      by_cases c : y.f0 * m.f1 < m.f0 * y.f1
      · rw [if_pos c]; exact .inr (by simp)
      · rw [if_neg c]; exact .inl rfl
    · exact .inr (List.mem_cons_of_mem _ h)
theorem minL (xs : List S28) (hg : ∀ x ∈ xs, goodB x.f0 x.f1 = true) (hn : xs.length ≤ 1000) : ∀ (d i k : Nat) (m : S28), i + d = xs.length → d < k → goodB m.f0 m.f1 = true →
    slices_MinFunc__impl_compare.l0 k xs (i : Int) m.f0 m.f1 = some ((mnF m (xs.drop i)).f0, (mnF m (xs.drop i)).f1) := by
  intro d
  induction d with
  | zero =>
    intro i k m h1 h2 h3
    obtain ⟨k, rfl⟩ : ∃ q, k = q + 1 := ⟨k - 1, by omega⟩
    simp only [slices_MinFunc__impl_compare.l0]; rw [if_neg (by omega), List.drop_eq_nil_of_le (by omega)]; rfl
  | succ d ih =>
    intro i k m h1 h2 h3
    obtain ⟨k, rfl⟩ : ∃ q, k = q + 1 := ⟨k - 1, by omega⟩
    have hi : i < xs.length := by omega
    have gx := hg xs[i] (List.getElem_mem hi)
    simp only [slices_MinFunc__impl_compare.l0]
    rw [if_pos (by omega), if_pos (by omega), rdRt xs i hi, impl_compare_at _ _ _ _ gx h3, Option.bind_some, w64 (by omega) (by omega), show (i : Int) + 1 = ((i + 1 : Nat) : Int) by omega, List.drop_eq_getElem_cons hi]
    have e : mnF m (xs[i] :: xs.drop (i + 1)) = mnF (if (xs[i]).f0 * m.f1 < m.f0 * (xs[i]).f1 then xs[i] else m) (xs.drop (i + 1)) := rfl
    rw [e]
    by_cases c : (xs[i]).f0 * m.f1 < m.f0 * (xs[i]).f1
    · rw [if_pos ((cmp_lt _ _ _ _).2 c), if_pos c, ih (i + 1) k xs[i] (by omega) (by omega) gx]
    · rw [if_neg (fun h => c ((cmp_lt _ _ _ _).1 h)), if_neg c, ih (i + 1) k m (by omega) (by omega) h3]
/-- The least of what was found so far, as the reference keeps it. -/
def stA : List S28 → Int × Int
  | [] => (-1, 1)
  | x :: xs => ((mnF x xs).f0, (mnF x xs).f1)
theorem minAt (x : S28) (xs : List S28) (hg : ∀ y ∈ x :: xs, goodB y.f0 y.f1 = true) (hn : (x :: xs).length ≤ 1000) (k : Nat) (hk : 1000 < k) : slices_MinFunc__impl_compare.f k (x :: xs) = some (stA (x :: xs)) := by
  simp only [slices_MinFunc__impl_compare.f]
  have := minL (x :: xs) hg hn xs.length 1 k x (by simp; omega) (by simp at hn; omega) (hg x (by simp))
  have e0 : rd_T28 (x :: xs) 0 = x := rfl
  rw [if_neg (by simp only [List.length_cons]; omega), if_pos (by simp only [List.length_cons]; omega), e0]
  exact this
theorem stA_snoc (acc : List S28) (h : acc ≠ []) (y : S28) : stA (acc ++ [y]) = if y.f0 * (stA acc).2 < (stA acc).1 * y.f1 then (y.f0, y.f1) else stA acc := by
  cases acc with
  | nil => exact absurd rfl h
  | cons x xs =>
    have e : mnF x (xs ++ [y]) = if y.f0 * (mnF x xs).f1 < (mnF x xs).f0 * y.f1 then y else mnF x xs := by unfold mnF; rw [List.foldl_append]; rfl
    have e2 : stA (x :: xs ++ [y]) = ((mnF x (xs ++ [y])).f0, (mnF x (xs ++ [y])).f1) := rfl
    rw [e2, e]
    show _ = if y.f0 * (mnF x xs).f1 < (mnF x xs).f0 * y.f1 then (y.f0, y.f1) else ((mnF x xs).f0, (mnF x xs).f1)
    by_cases c : y.f0 * (mnF x xs).f1 < (mnF x xs).f0 * y.f1
    · rw [if_pos c, if_pos c]
    · rw [if_neg c, if_neg c]
theorem between_no {a b c d x y : Int} (hb : 0 < b) (hd : 0 < d) (hy : 0 < y) (q : x * b ≤ a * y) (f : c * y ≤ x * d) (l : a * d < c * b) : False := by
  have t1 : x * b * d ≤ a * y * d := Int.mul_le_mul_of_nonneg_right q (by omega)
  have t2 : c * y * b ≤ x * d * b := Int.mul_le_mul_of_nonneg_right f (by omega)
  have t3 : a * d * y < c * b * y := Int.mul_lt_mul_of_pos_right l hy
  have e1 : x * b * d = x * d * b := by rw [Int.mul_assoc, Int.mul_comm b d, ← Int.mul_assoc]
  have e2 : a * y * d = a * d * y := by rw [Int.mul_assoc, Int.mul_comm y d, ← Int.mul_assoc]
  have e3 : c * y * b = c * b * y := by rw [Int.mul_assoc, Int.mul_comm y b, ← Int.mul_assoc]
  omega
theorem end_no {a b c d : Int} (hb : 0 < b) (hd : 0 < d) (q : b ≤ a) (u : c ≤ d) (l : a * d < c * b) : False := by
  have e1 : b * d ≤ a * d := Int.mul_le_mul_of_nonneg_right q (by omega)
  have e2 : c * b ≤ d * b := Int.mul_le_mul_of_nonneg_right u (by omega)
  rw [Int.mul_comm d b] at e2
  omega
theorem slopesR_get : ∀ (L : List Pt) (i : Nat) (h : i + 1 < L.length) (h2 : i < (slopesR L).length), (slopesR L)[i] = slopeR (L[i]'(by omega)) L[i + 1]
  | p :: r :: L, 0, _, _ => rfl
  | p :: r :: L, i + 1, h, h2 => slopesR_get (r :: L) i (by simpa using h) (by simpa [slopesR] using h2)
theorem slopesR_ln : ∀ l, (slopesR l).length = l.length - 1
  | [] => rfl
  | [_] => rfl
  | p :: r :: l => by rw [slopesR, List.length_cons, slopesR_ln (r :: l)]; simp
set_option maxHeartbeats 2000000 in
theorem least_l (l : List S68) (hm : mapB (l.map pt) = true) (S : List S28) (hS : S.length + 1 = l.length) (hSg : ∀ (i : Nat) (h : i < S.length), goodB (S[i]).f0 (S[i]).f1 = true)
    (a b c d' : Int) (hi : ivB a b c d' = true) : ∀ (d i : Nat) (acc : List S28), i + d = S.length → acc.length ≤ i → (∀ y ∈ acc, goodB y.f0 y.f1 = true ∧ 0 ≤ y.f0) →
    (∀ hx : i < l.length, acc = [] → (l[i]).f0.f0 * b ≤ a * (l[i]).f0.f1) →
    ∃ r : Int × Int, ∀ k, 2000 + 2 * d < k → spec_LeastSlope.l0 k l S (S.length : Int) (i : Int) a b c d' (stA acc).1 (stA acc).2 = some (r.1, r.2, true) ∧ impl_LeastSlope.l0 k l acc S (S.length : Int) (i : Int) a b c d' = some (r.1, r.2, true) := by
  have hm' := hm
  obtain ⟨m1, m2, m3, m4⟩ := mapB_parts hm
  simp only [List.length_map] at m1 m2
  obtain ⟨gi, gk, hlti⟩ := ivB_good hi
  have pos := fun (n m : Int) (h : goodB n m = true) => (goodB_iff.1 h).1
  intro d
  induction d with
  | zero =>
    intro i acc h1 h2 h3 h4
    have hx : i < l.length := by omega
    cases acc with
    | nil =>
      exfalso
      have q := h4 hx rfl
      simp only [mapB, Bool.and_eq_true, decide_eq_true_eq] at hm'
      have e4 := hm'.2.2.2.1
      rw [List.getLast?_eq_getElem?, List.length_map, List.getElem?_map, show l.length - 1 = i by omega, List.getElem?_eq_getElem hx] at e4
      simp only [Option.map_some, Option.some.injEq, xOf, pt, Prod.mk.injEq] at e4
      rw [e4.1, e4.2] at q
      have u : unitB c d' = true := by simp only [ivB, Bool.and_eq_true] at hi; exact hi.2.1
      have u2 := (unitB_iff.1 u).2.2
      exact end_no (pos _ _ gi) (pos _ _ gk) (by omega) u2 hlti
    | cons x xs =>
      refine ⟨stA (x :: xs), fun k hk => ?_⟩
      obtain ⟨k, rfl⟩ : ∃ q, k = q + 1 := ⟨k - 1, by omega⟩
      constructor
      · simp only [spec_LeastSlope.l0]; rw [if_neg (by omega)]
      · simp only [impl_LeastSlope.l0]; rw [if_neg (by omega), minAt x xs (fun y hy => (h3 y hy).1) (by omega) k (by omega), Option.bind_some]
  | succ d ih =>
    intro i acc h1 h2 h3 h4
    have hx : i < l.length := by omega
    have hx1 : i + 1 < l.length := by omega
    have hs : i < S.length := by omega
    have kk : ∀ k, 2000 + 2 * (d + 1) < k → ∃ q, k = q + 1 + 1 ∧ 2000 + 2 * d < q := fun k h => ⟨k - 2, by omega, by omega⟩
    have I0 : (0 : Int) ≤ (i : Int) := by omega
    have I1 : (i : Int) < (S.length : Int) := by omega
    have I2 : (i : Int) < (l.length : Int) := by omega
    have I3 : (0 : Int) ≤ ((i + 1 : Nat) : Int) := by omega
    have I4 : ((i + 1 : Nat) : Int) < (l.length : Int) := by omega
    have I5 : i + 1 + d = S.length := by omega
    have I6 : acc.length < 8796093022208 := by omega
    have wi : wrap64 ((i : Int) + 1) = ((i + 1 : Nat) : Int) := by rw [w64 (by omega) (by omega)]; omega
    have hp : ptB (pt (l[i]'(by omega))) = true := m3 _ (List.mem_map_of_mem (List.getElem_mem _))
    have hr : ptB (pt (l[i + 1]'(by omega))) = true := m3 _ (List.mem_map_of_mem (List.getElem_mem _))
    have hlt := risB_get (l.map pt) i (by simp; omega) m4
    simp only [List.getElem_map] at hlt
    have cp := coordB_iff.1 (ptB_iff.1 hp).1
    have cr := coordB_iff.1 (ptB_iff.1 hr).1
    have hiv : ivB (l[i]).f0.f0 (l[i]).f0.f1 (l[i + 1]).f0.f0 (l[i + 1]).f0.f1 = true := by
      simp only [ivB, Bool.and_eq_true, decide_eq_true_eq]
      exact ⟨unitB_iff.2 ⟨cp.1, cp.2.1, cp.2.2.1⟩, unitB_iff.2 ⟨cr.1, cr.2.1, cr.2.2.1⟩, hlt⟩
    have p3 := pos _ _ cp.1
    simp only [pt] at p3
    have gs := hSg i hs
    have bs : -1000000000 ≤ (S[i]).f0 ∧ (S[i]).f0 ≤ 1000000000 := ⟨(goodB_iff.1 gs).2.2.1, (goodB_iff.1 gs).2.2.2.1⟩
    have hcom := impl_common_at a b c d' _ _ _ _ gi gk cp.1 cr.1
    simp only [pt] at hcom
    rw [comR_sep a b c d' _ _ _ _ hi hiv] at hcom
    have g1 := spec_raCmp_at _ _ a b cr.1 gi
    have g2 := spec_raCmp_at c d' _ _ gk cp.1
    simp only [pt] at g1 g2
    by_cases far : c * (l[i]).f0.f1 ≤ (l[i]).f0.f0 * d' ∨ (l[i + 1]).f0.f0 * b ≤ a * (l[i + 1]).f0.f1
    · obtain ⟨r, hr⟩ := ih (i + 1) acc I5 (Nat.le_succ_of_le h2) h3 (fun _ he => by
        rcases far with f | f
        · exfalso
          have q := h4 hx he
          have p1 := pos _ _ gi
          have p2 := pos _ _ gk
          exact between_no (by omega) (by omega) (by omega) q f hlti
        · exact f)
      refine ⟨r, fun k hk => ?_⟩
      obtain ⟨k, rfl, hj⟩ := kk k hk
      have q1 := (hr k hj).1
      have q2 := (hr (k + 1) (Nat.lt_succ_of_lt hj)).2
      constructor
      · simp only [spec_LeastSlope.l0, wi]
        rw [if_pos I1, if_pos I0, if_pos I1, if_pos I3, if_pos I4, rdPt l (i + 1) hx1, g1, Option.bind_some]
        by_cases z : cmpR (l[i + 1]).f0.f0 (l[i + 1]).f0.f1 a b ≤ 0
        · rw [if_pos z]; simp only [spec_LeastSlope.j2, wi, if_true]; exact q1
        · have z2 : cmpR c d' (l[i]).f0.f0 (l[i]).f0.f1 ≤ 0 := (cmp_le _ _ _ _).2 (far.resolve_right fun h => z ((cmp_le _ _ _ _).2 h))
          rw [if_neg z, if_pos I2, rdPt l i hx, g2, Option.bind_some, decide_eq_true z2]; simp only [spec_LeastSlope.j2, wi, if_true]; exact q1
      · generalize k + 1 = m at q2 ⊢
        simp only [impl_LeastSlope.l0, wi]
        rw [if_pos I1, if_pos I0, if_pos I1, if_pos I2, if_pos I3, if_pos I4, rdPt l (i + 1) hx1, rdPt l i hx, hcom, Option.bind_some, if_pos far]
        simp only [Bool.false_eq_true, if_false]; exact q2
    · have gy : goodB (((S[i]).f0.natAbs : Nat) : Int) (S[i]).f1 = true := by
        rw [goodB_iff] at gs ⊢
        obtain ⟨z1, z2, z3, z4, z5⟩ := gs
        refine ⟨by omega, by omega, by omega, by omega, ?_⟩
        rw [← z5]; simp [Int.gcd]
      have ab : spec_l1Abs.f (S[i]).f0 = some (((S[i]).f0.natAbs : Nat) : Int) := spec_l1Abs_at _ (by omega) (by omega)
      have ab2 : impl_abs.f (S[i]).f0 = some (((S[i]).f0.natAbs : Nat) : Int) := impl_abs_at _ (by omega)
      generalize hy : (⟨(((S[i]).f0.natAbs : Nat) : Int), (S[i]).f1⟩ : S28) = y at *
      have y0 : y.f0 = (((S[i]).f0.natAbs : Nat) : Int) := by rw [← hy]
      have y1 : y.f1 = (S[i]).f1 := by rw [← hy]
      obtain ⟨r, hr⟩ := ih (i + 1) (acc ++ [y]) I5 (by rw [List.length_append]; exact Nat.succ_le_succ h2) (fun z hz => by
        rcases List.mem_append.1 hz with hz | hz
        · exact h3 z hz
        · rw [List.mem_singleton.1 hz, y0, y1]; exact ⟨gy, by omega⟩) (fun _ he => by simp at he)
      have st : ∀ k, 2000 + 2 * d < k → (if (stA acc).1 < 0 then spec_LeastSlope.l0 k l S (S.length : Int) ((i + 1 : Nat) : Int) a b c d' (((S[i]).f0.natAbs : Nat) : Int) (S[i]).f1 else
          ((spec_raCmp.f (((S[i]).f0.natAbs : Nat) : Int) (S[i]).f1 (stA acc).1 (stA acc).2).bind fun t192 => (if t192 < 0 then (spec_LeastSlope.l0 k l S (S.length : Int) ((i + 1 : Nat) : Int) a b c d' (((S[i]).f0.natAbs : Nat) : Int) (S[i]).f1) else (spec_LeastSlope.l0 k l S (S.length : Int) ((i + 1 : Nat) : Int) a b c d' (stA acc).1 (stA acc).2)))) = some (r.1, r.2, true) := by
        intro k hk
        have q := (hr k hk).1
        rw [← y0, ← y1] at gy ⊢
        cases acc with
        | nil => rw [if_pos (show (stA []).1 < 0 by decide)]; exact q
        | cons x xs =>
          have me : goodB (stA (x :: xs)).1 (stA (x :: xs)).2 = true ∧ 0 ≤ (stA (x :: xs)).1 := by
            rcases mnF_mem xs x with h | h
            · simp only [stA, h]; exact h3 x (by simp)
            · exact h3 _ (List.mem_cons_of_mem _ h)
          rw [stA_snoc _ (by simp)] at q
          rw [if_neg (by omega), spec_raCmp_at _ _ _ _ gy me.1, Option.bind_some]
          by_cases z : y.f0 * (stA (x :: xs)).2 < (stA (x :: xs)).1 * y.f1
          · rw [if_pos ((cmp_lt _ _ _ _).2 z)]; rw [if_pos z] at q; exact q
          · rw [if_neg (fun h => z ((cmp_lt _ _ _ _).1 h))]; rw [if_neg z] at q; exact q
      refine ⟨r, fun k hk => ?_⟩
      obtain ⟨k, rfl, hj⟩ := kk k hk
      have q1 := st k hj
      have q2 := (hr (k + 1) (Nat.lt_succ_of_lt hj)).2
      have z1 : ¬ cmpR (l[i + 1]).f0.f0 (l[i + 1]).f0.f1 a b ≤ 0 := fun h => far (.inr ((cmp_le _ _ _ _).1 h))
      have z2 : ¬ cmpR c d' (l[i]).f0.f0 (l[i]).f0.f1 ≤ 0 := fun h => far (.inl ((cmp_le _ _ _ _).1 h))
      constructor
      · simp only [spec_LeastSlope.l0, wi]
        rw [if_pos I1, if_pos I0, if_pos I1, if_pos I3, if_pos I4, rdPt l (i + 1) hx1, g1, Option.bind_some, if_neg z1, if_pos I2, rdPt l i hx, g2, Option.bind_some, decide_eq_false z2, rdRt S i hs]
        simp only [spec_LeastSlope.j2, wi, Bool.false_eq_true, if_false, ab, Option.bind_some]; exact q1
      · generalize k + 1 = m at q2 ⊢
        simp only [impl_LeastSlope.l0, wi]
        rw [if_pos I1, if_pos I0, if_pos I1, if_pos I2, if_pos I3, if_pos I4, rdPt l (i + 1) hx1, rdPt l i hx, hcom, Option.bind_some, if_neg far]
        simp only [if_true]
        rw [rdRt S i hs, ab2, Option.bind_some, if_pos I6, hy]; exact q2
theorem FnExactLeastSlope : laws_FnExactLeastSlope.Pure := by
  intro l a b c d _ hl _ _ _ _ _
  refine ⟨6000000000000000000, ?_⟩
  simp only [laws_FnExactLeastSlope.f, laws_szPointS_at l 1048576 (by omega) (by omega) (by omega), Option.bind_some]
  by_cases h : (l.length : Int) ≤ 1048576
  · rw [if_pos h, if_neg (by omega)]
    have key : ∃ r : Int × Int × Bool, spec_LeastSlope.f 6000000000000000000 (l.map cv) a b c d = some r ∧ impl_LeastSlope.f 6000000000000000000 (l.map cv) a b c d = some r := by
      have s1 := spec_ivGood_at a b c d 6000000000000000000 (by omega)
      rw [show (unitB a b && (unitB c d && decide (a * d < c * b))) = ivB a b c d from rfl] at s1
      simp only [spec_LeastSlope.f, impl_LeastSlope.f, spec_imGood_at _ 6000000000000000000 (by omega), impl_isMap_at _ 6000000000000000000 (by omega), s1, impl_isInterval_at a b c d 6000000000000000000 (by omega), Option.bind_some]
      generalize hL : l.map cv = L
      cases hm : mapB (L.map pt)
      · exact ⟨(0, 0, false), by simp [spec_LeastSlope.j0], by simp [impl_LeastSlope.j0]⟩
      · cases hv : ivB a b c d
        · exact ⟨(0, 0, false), by simp [spec_LeastSlope.j0], by simp [impl_LeastSlope.j0]⟩
        · obtain ⟨m1, m2, m3, m4⟩ := mapB_parts hm
          have ln := slopesR_ln (L.map pt)
          simp only [List.length_map] at m1 m2 ln
          obtain ⟨gi, gk, hlti⟩ := ivB_good hv
          have hu : unitB a b = true := by simp only [ivB, Bool.and_eq_true] at hv; exact hv.1
          obtain ⟨r, hr⟩ := least_l L hm ((slopesR (L.map pt)).map mkRt) (by rw [List.length_map]; omega) (fun i hi => by
            rw [List.length_map] at hi
            have hp : ptB ((L.map pt)[i]'(by simp; omega)) = true := m3 _ (List.getElem_mem _)
            have hr : ptB ((L.map pt)[i + 1]'(by simp; omega)) = true := m3 _ (List.getElem_mem _)
            have hlt := risB_get (L.map pt) i (by simp; omega) m4
            obtain ⟨_, _, _, _, s1, s2, _, _, _, _, _, g3, _, es⟩ := slope_ok hp hr hlt
            rw [List.getElem_map, slopesR_get (L.map pt) i (by simp; omega) hi, es]; exact g3) a b c d hv ((slopesR (L.map pt)).map mkRt).length 0 [] (by omega) (by simp) (by simp) (fun hx _ => by
              simp only [mapB, Bool.and_eq_true, decide_eq_true_eq] at hm
              have e4 := hm.2.2.1
              rw [List.head?_eq_getElem?, List.getElem?_map, List.getElem?_eq_getElem hx] at e4
              simp only [Option.map_some, Option.some.injEq, xOf, pt, Prod.mk.injEq] at e4
              rw [e4.1, e4.2]
              have := (unitB_iff.1 hu).2.1
              omega)
          have hk := hr 5999999999999999999 (by rw [List.length_map]; omega)
          rw [show ((0 : Nat) : Int) = 0 by rfl] at hk
          refine ⟨(r.1, r.2, true), ?_, ?_⟩
          · simp only [if_true, Bool.not_true, spec_LeastSlope.j0, Bool.false_eq_true, if_false, spec_imSlopes_at L hm 5999999999999999999 (by omega), Option.bind_some]; exact hk.1
          · simp only [if_true, Bool.not_true, impl_LeastSlope.j0, Bool.false_eq_true, if_false, impl_slopes_at L hm 5999999999999999999 (by omega), Option.bind_some]; exact hk.2
    obtain ⟨r, k1, k2⟩ := key
    simp only [laws_toPointS_at l 6000000000000000000 (by omega) (by omega), laws_toInterval.f, laws_toRat.f, Option.bind_some, k1, k2, bne_self_eq_false, laws_eqRat.f, if_true, decide_true, laws_FnExactLeastSlope.j0, Bool.false_eq_true, if_false, laws_toPointS_at l 5999999999999999999 (by omega) (by omega), laws_eqPointS_at _ 5999999999999999999 (show (l.map cv).length ≤ 4611686018427387904 by simp; omega) (show (l.map cv).length < 5999999999999999999 by simp; omega)]
  · rw [if_neg h, if_pos (by omega)]

end Go.Proofs.Ytmecnnnagallnaa.Pure
