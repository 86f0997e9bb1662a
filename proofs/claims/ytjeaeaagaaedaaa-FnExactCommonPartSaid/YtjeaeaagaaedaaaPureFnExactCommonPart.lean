/- The program's CommonPart returns what the reference's returns, for all arguments. -/
import Derived.Test.YtjeaeaagaaedaaaPFnExactCommonPartx6
import Derived.Test.YtjeaeaagaaedaaaMathRat
import Derived.Test.YtjeaeaagaaedaaaMathQ
namespace Go.Proofs.Ytjeaeaagaaedaaa.Pure
open Go.RowKit Go.Proofs.Ytjeaeaagaaedaaa.PFnExactCommonPart Go.Proofs.YtjeaeaagaaedaaaW.PrintWords Go.Proofs.YtjeaeaagaaedaaaW.PrintLast Go.Proofs.YtjeaeaagaaedaaaW.PrintMore Go.Proofs.Ytjeaeaagaaedaaa.Math
set_option linter.unusedVariables false
set_option linter.unusedSimpArgs false
namespace FnExactCommonPart_
/-! wrap -/
theorem w64 {x : Int} (h1 : -9223372036854775808 ≤ x) (h2 : x ≤ 9223372036854775807) : wrap64 x = x := by unfold wrap64; omega

/-! cmpI -/
theorem impl_compare_at (a b c d : Int) (h : goodB a b = true) (h2 : goodB c d = true) : impl_compare.f a b c d = some (cmpR a b c d) := by
  obtain ⟨p1, p2, _⟩ := goodB_mul h h2
  simp only [impl_compare.f, cmpR]
  rw [w64 (by omega) (by omega), w64 (by omega) (by omega)]
  by_cases q : a * d < c * b
  · rw [if_pos q, if_pos q]
  · rw [if_neg q, if_neg q]; split <;> rfl
theorem impl_less_at (a b c d : Int) (h : goodB a b = true) (h2 : goodB c d = true) : impl_less.f a b c d = some (decide (a * d < c * b)) := by
  simp only [impl_less.f, impl_compare_at a b c d h h2, Option.bind_some, cmpR]
  congr 2; rw [eq_iff_iff]; repeat' split <;> omega

/-! cmpS -/
theorem spec_raCmp_at (a b c d : Int) (h : goodB a b = true) (h2 : goodB c d = true) : spec_raCmp.f a b c d = some (cmpR a b c d) := by
  obtain ⟨p1, p2, _⟩ := goodB_mul h h2
  simp only [spec_raCmp.f, spec_l1Sign.f, cmpR]
  rw [w64 (x := a * d) (by omega) (by omega), w64 (x := c * b) (by omega) (by omega), w64 (by omega) (by omega)]
  by_cases q : a * d < c * b
  · rw [if_neg (by omega), if_pos (by omega), if_pos q]; rfl
  · by_cases r : a * d > c * b
    · rw [if_pos (by omega), if_neg q, if_pos r]; rfl
    · rw [if_neg (by omega), if_neg (by omega), if_neg q, if_neg r]; rfl

/-! common -/
theorem impl_greater_at (a b c d : Int) (h : goodB a b = true) (h2 : goodB c d = true) : impl_greater.f a b c d = some (if a * d < c * b then (c, d) else (a, b)) := by
  simp only [impl_greater.f, impl_less_at a b c d h h2, Option.bind_some, decide_eq_true_eq]; split <;> rfl
theorem impl_lesser_at (a b c d : Int) (h : goodB a b = true) (h2 : goodB c d = true) : impl_lesser.f a b c d = some (if c * b < a * d then (c, d) else (a, b)) := by
  simp only [impl_lesser.f, impl_less_at c d a b h2 h, Option.bind_some, decide_eq_true_eq]; split <;> rfl
/-- What two intervals have in common. -/
def comR (a b c d a' b' c' d' : Int) : Int × Int × Int × Int × Bool :=
  let A := if a * b' < a' * b then (a', b') else (a, b)
  let B := if c' * d < c * d' then (c', d') else (c, d)
  if A.1 * B.2 < B.1 * A.2 then (A.1, A.2, B.1, B.2, true) else (0, 0, 0, 0, false)
theorem impl_common_at (a b c d a' b' c' d' : Int) (h1 : goodB a b = true) (h2 : goodB c d = true) (h3 : goodB a' b' = true) (h4 : goodB c' d' = true) : impl_common.f a b c d a' b' c' d' = some (comR a b c d a' b' c' d') := by
  simp only [impl_common.f, impl_greater_at a b a' b' h1 h3, impl_lesser_at c d c' d' h2 h4, Option.bind_some, comR]
  by_cases p : a * b' < a' * b <;> by_cases r : c' * d < c * d' <;> simp only [p, r, if_true, if_false]
  · rw [impl_less_at _ _ _ _ h3 h4, Option.bind_some]; simp only [decide_eq_true_eq]; split <;> rfl
  · rw [impl_less_at _ _ _ _ h3 h2, Option.bind_some]; simp only [decide_eq_true_eq]; split <;> rfl
  · rw [impl_less_at _ _ _ _ h1 h4, Option.bind_some]; simp only [decide_eq_true_eq]; split <;> rfl
  · rw [impl_less_at _ _ _ _ h1 h2, Option.bind_some]; simp only [decide_eq_true_eq]; split <;> rfl

/-! gcdI -/
theorem impl_gcd_l (b : Nat) : ∀ (a k : Nat), b < k → impl_greatestDivisor.l0 k (a : Int) (b : Int) = some ((Nat.gcd a b : Nat) : Int) := by
  induction b using Nat.strongRecOn with
  | _ b ih =>
    intro a k hk
    obtain ⟨k, rfl⟩ : ∃ m, k = m + 1 := ⟨k - 1, by omega⟩
    simp only [impl_greatestDivisor.l0]
    by_cases h : b = 0
    · subst h; simp
    · rw [if_neg (by omega), Int.tmod_eq_emod_of_nonneg (by omega), show (a : Int) % (b : Int) = ((a % b : Nat) : Int) by omega, ih (a % b) (Nat.mod_lt _ (by omega)) b k (by have := Nat.mod_lt a (show b > 0 by omega); omega)]
      rw [Nat.gcd_comm a b, Nat.gcd_rec b a, Nat.gcd_comm]
theorem impl_abs_at (a : Int) (h : -9000000000000000000 ≤ a) : impl_abs.f a = some ((a.natAbs : Nat) : Int) := by
  unfold impl_abs.f
  by_cases h0 : a < 0
  · rw [if_pos h0]
    by_cases h1 : -a ≤ 9223372036854775807
    · rw [w64 (by omega) h1]; congr 1; omega
    · omega
  · rw [if_neg h0]; congr 1; omega
theorem impl_gcd_at (a b : Int) (k : Nat) (ha : -9000000000000000000 ≤ a) (hb : -9000000000000000000 ≤ b) (hk : b.natAbs < k) : impl_greatestDivisor.f k a b = some ((Int.gcd a b : Nat) : Int) := by
  simp only [impl_greatestDivisor.f, impl_abs_at a ha, impl_abs_at b hb, Option.bind_some, impl_gcd_l b.natAbs a.natAbs k hk]; rfl

/-! within -/
theorem impl_within_eq (a b c : Int) : impl_within.f a b c = some (decide (b ≤ a ∧ a ≤ c)) := by
  unfold impl_within.f; split <;> simp <;> omega

/-! isRat -/
theorem impl_isRat_at (n d : Int) (k : Nat) (hk : 1000000000 < k) : impl_isRat.f k n d = some (goodB n d) := by
  simp only [impl_isRat.f, impl_within_eq, Option.bind_some, goodB]
  by_cases h : 1 ≤ d ∧ d ≤ 1000000000
  · by_cases h2 : -1000000000 ≤ n ∧ n ≤ 1000000000
    · rw [decide_eq_true h, decide_eq_true h2, impl_gcd_at n d k (by omega) (by omega) (by omega)]
      simp only [if_true, Option.bind_some]; congr 1; rw [Bool.eq_iff_iff]; simp [h, h2]; omega
    · rw [decide_eq_true h, decide_eq_false h2]; simp only [if_true, Bool.false_eq_true, if_false]; congr 1; symm; apply decide_eq_false; omega
  · rw [decide_eq_false h]; simp only [Bool.false_eq_true, if_false]; congr 1; symm; apply decide_eq_false; omega

/-! isUnit -/
theorem impl_isUnit_at (n d : Int) (k : Nat) (hk : 1000000000 < k) : impl_isUnit.f k n d = some (unitB n d) := by
  simp only [impl_isUnit.f, impl_isRat_at n d k hk, Option.bind_some, unitB]
  cases goodB n d
  · simp
  · by_cases h : n ≥ 0 <;> simp [h]

/-! isInterval -/
/-- A valid interval. -/
def ivB (a b c d : Int) : Bool := unitB a b && (unitB c d && decide (a * d < c * b))
theorem impl_areUnits_two (a b c d : Int) (k : Nat) (hk : 1000000010 < k) : impl_areUnits.f k [(⟨a, b⟩ : S43), ⟨c, d⟩] = some (unitB a b && unitB c d) := by
  obtain ⟨k, rfl⟩ : ∃ q, k = q + 3 := ⟨k - 3, by omega⟩
  have e1 : wrap64 (0 + 1) = 1 := by unfold wrap64; omega
  have e2 : wrap64 (1 + 1) = 2 := by unfold wrap64; omega
  have r0 : rd_T43 [(⟨a, b⟩ : S43), ⟨c, d⟩] 0 = ⟨a, b⟩ := rfl
  have r1 : rd_T43 [(⟨a, b⟩ : S43), ⟨c, d⟩] 1 = ⟨c, d⟩ := rfl
  simp only [impl_areUnits.f, slices_ContainsFunc__impl_areUnits_1.f, slices_IndexFunc__impl_areUnits_1.f, slices_IndexFunc__impl_areUnits_1.l0, e1, e2, r0, r1, impl_areUnits_1.f, impl_isUnit_at a b (k + 2) (by omega), impl_isUnit_at c d (k + 1) (by omega), Option.bind_some]
  cases unitB a b <;> cases unitB c d <;> simp
theorem impl_isInterval_at (a b c d : Int) (k : Nat) (hk : 1000000010 < k) : impl_isInterval.f k a b c d = some (ivB a b c d) := by
  simp only [impl_isInterval.f, impl_areUnits_two a b c d k hk, Option.bind_some, ivB]
  cases h1 : unitB a b
  · simp
  · cases h2 : unitB c d
    · simp
    · rw [impl_less_at a b c d (unitB_iff.1 h1).1 (unitB_iff.1 h2).1]; simp

/-! commonSame -/
theorem ivB_good {a b c d : Int} (h : ivB a b c d = true) : goodB a b = true ∧ goodB c d = true ∧ a * d < c * b := by
  simp [ivB, unitB] at h; exact ⟨h.1.1, h.2.1.1, h.2.2⟩
/-- Two intervals have something in common where they aren't separate. -/
theorem comR_sep (a b c d a' b' c' d' : Int) (h1 : ivB a b c d = true) (h2 : ivB a' b' c' d' = true) :
    comR a b c d a' b' c' d' = if (c * b' ≤ a' * d ∨ c' * b ≤ a * d') then (0, 0, 0, 0, false) else ((if a * b' < a' * b then (a', b') else (a, b)).1, (if a * b' < a' * b then (a', b') else (a, b)).2, (if c' * d < c * d' then (c', d') else (c, d)).1, (if c' * d < c * d' then (c', d') else (c, d)).2, true) := by
  obtain ⟨g1, g2, l1⟩ := ivB_good h1
  obtain ⟨g3, g4, l2⟩ := ivB_good h2
  have n1 : (c * b' ≤ a' * d) ↔ ¬ q a' b' < q c d := by rw [← good_lt g3 g2]; omega
  have n2 : (c' * b ≤ a * d') ↔ ¬ q a b < q c' d' := by rw [← good_lt g1 g4]; omega
  have e1 := good_lt g1 g3
  have e2 := good_lt g4 g2
  have e3 := good_lt g3 g4
  have e4 := good_lt g3 g2
  have e5 := good_lt g1 g4
  have e6 := good_lt g1 g2
  rw [e6] at l1; rw [e3] at l2
  unfold comR
  simp only [n1, n2]
  generalize q a b = A at *
  generalize q c d = B at *
  generalize q a' b' = A' at *
  generalize q c' d' = B' at *
  by_cases p : a * b' < a' * b <;> by_cases r : c' * d < c * d' <;> simp only [p, r, if_true, if_false, e3, e4, e5, e6] <;> (rw [e1] at p; rw [e2] at r)
  · rw [if_pos l2, if_neg (by grind)]
  · by_cases s : A' < B
    · rw [if_pos s, if_neg (by grind)]
    · rw [if_neg s, if_pos (by grind)]
  · by_cases s : A < B'
    · rw [if_pos s, if_neg (by grind)]
    · rw [if_neg s, if_pos (by grind)]
  · rw [if_pos l1, if_neg (by grind)]

/-! gcdS -/
theorem spec_gcd_l (b : Nat) : ∀ (a k : Nat), b < k → spec_raCommon.l0 k (a : Int) (b : Int) = some ((Nat.gcd a b : Nat) : Int) := by
  induction b using Nat.strongRecOn with
  | _ b ih =>
    intro a k hk
    obtain ⟨k, rfl⟩ : ∃ m, k = m + 1 := ⟨k - 1, by omega⟩
    simp only [spec_raCommon.l0]
    by_cases h : b = 0
    · subst h; simp
    · rw [if_pos (by omega), if_neg (by omega), Int.tmod_eq_emod_of_nonneg (by omega), show (a : Int) % (b : Int) = ((a % b : Nat) : Int) by omega, ih (a % b) (Nat.mod_lt _ (by omega)) b k (by have := Nat.mod_lt a (show b > 0 by omega); omega)]
      rw [Nat.gcd_comm a b, Nat.gcd_rec b a, Nat.gcd_comm]
theorem spec_l1Abs_at (a : Int) (h : -9000000000000000000 ≤ a) (h2 : a ≤ 9000000000000000000) : spec_l1Abs.f a = some ((a.natAbs : Nat) : Int) := by
  simp only [spec_l1Abs.f, spec_l1Most.f]
  rw [w64 (by omega) (by omega)]
  by_cases h0 : a > -a
  · rw [if_pos h0, Option.bind_some]; congr 1; omega
  · rw [if_neg h0, Option.bind_some]; congr 1; omega
theorem spec_gcd_at (a b : Nat) (k : Nat) (hk : b < k) : spec_raCommon.f k (a : Int) (b : Int) = some ((Nat.gcd a b : Nat) : Int) := by
  simp only [spec_raCommon.f]; exact spec_gcd_l b a k hk

/-! l1In -/
theorem spec_l1In_eq (a b c : Int) : spec_l1In.f a b c = some (decide (b ≤ a ∧ a ≤ c)) := by
  unfold spec_l1In.f; split <;> simp <;> omega

/-! raGood -/
theorem spec_raGood_at (n d : Int) (k : Nat) (hk : 1000000000 < k) : spec_raGood.f k n d = some (goodB n d) := by
  simp only [spec_raGood.f, spec_l1In_eq, Option.bind_some, goodB]
  by_cases h : 1 ≤ d ∧ d ≤ 1000000000
  · by_cases h2 : -1000000000 ≤ n ∧ n ≤ 1000000000
    · have e : d = ((d.natAbs : Nat) : Int) := by omega
      rw [decide_eq_true h, decide_eq_true h2, spec_l1Abs_at n (by omega) (by omega)]
      simp only [if_true, Option.bind_some]
      rw [show spec_raCommon.f k ((n.natAbs : Nat) : Int) d = some ((Nat.gcd n.natAbs d.natAbs : Nat) : Int) by
        have := spec_gcd_at n.natAbs d.natAbs k (by omega)
        rwa [← e] at this, Option.bind_some]
      congr 1; rw [Bool.eq_iff_iff]; simp [h, h2, Int.gcd]; omega
    · rw [decide_eq_true h, decide_eq_false h2]; simp only [if_true, Bool.false_eq_true, if_false]; congr 1; symm; apply decide_eq_false; omega
  · rw [decide_eq_false h]; simp only [Bool.false_eq_true, if_false]; congr 1; symm; apply decide_eq_false; omega

/-! raUnit -/
theorem spec_raUnit_at (n d : Int) (k : Nat) (hk : 1000000000 < k) : spec_raUnit.f k n d = some (unitB n d) := by
  simp only [spec_raUnit.f, spec_raGood_at n d k hk, spec_l1In_eq, Option.bind_some, unitB]
  cases goodB n d <;> simp

/-! ivGood -/
theorem spec_ivGood_at (a b c d : Int) (k : Nat) (hk : 1000000010 < k) : spec_ivGood.f k a b c d = some (unitB a b && (unitB c d && decide (a * d < c * b))) := by
  simp only [spec_ivGood.f, spec_raUnit_at a b k (by omega), spec_raUnit_at c d k (by omega), Option.bind_some]
  cases h1 : unitB a b
  · simp
  · cases h2 : unitB c d
    · simp
    · rw [spec_raCmp_at a b c d (unitB_iff.1 h1).1 (unitB_iff.1 h2).1]
      simp only [if_true, Option.bind_some, Bool.true_and, cmpR]
      congr 2; rw [eq_iff_iff]; repeat' split <;> omega

/-! ivSep -/
theorem cmp_le (a b c d : Int) : cmpR a b c d ≤ 0 ↔ a * d ≤ c * b := by unfold cmpR; repeat' split <;> omega
theorem cmp_lt (a b c d : Int) : cmpR a b c d < 0 ↔ a * d < c * b := by unfold cmpR; repeat' split <;> omega
theorem spec_ivGreater_at (a b c d : Int) (h : goodB a b = true) (h2 : goodB c d = true) : spec_ivGreater.f a b c d = some (if a * d < c * b then (c, d) else (a, b)) := by
  simp only [spec_ivGreater.f, spec_raCmp_at a b c d h h2, Option.bind_some, cmp_lt]; split <;> rfl
theorem spec_ivLess_at (a b c d : Int) (h : goodB a b = true) (h2 : goodB c d = true) : spec_ivLess.f a b c d = some (if a * d < c * b then (a, b) else (c, d)) := by
  simp only [spec_ivLess.f, spec_raCmp_at a b c d h h2, Option.bind_some, cmp_lt]; split <;> rfl
theorem spec_ivLess_at' (a b c d : Int) (h : goodB a b = true) (h2 : goodB c d = true) : spec_ivLess.f a b c d = some (if c * b < a * d then (c, d) else (a, b)) := by
  rw [spec_ivLess_at a b c d h h2]
  by_cases p : a * d < c * b
  · rw [if_pos p, if_neg (by omega)]
  · rw [if_neg p]
    by_cases r : c * b < a * d
    · rw [if_pos r]
    · rw [if_neg r]; obtain ⟨e1, e2⟩ := good_inj h h2 (by omega); rw [e1, e2]
theorem spec_ivSeparate_at (a b c d a' b' c' d' : Int) (h1 : goodB a b = true) (h2 : goodB c d = true) (h3 : goodB a' b' = true) (h4 : goodB c' d' = true) : spec_ivSeparate.f a b c d a' b' c' d' = some (decide (c * b' ≤ a' * d ∨ c' * b ≤ a * d')) := by
  simp only [spec_ivSeparate.f, spec_raCmp_at c d a' b' h2 h3, spec_raCmp_at c' d' a b h4 h1, Option.bind_some, cmp_le]
  by_cases p : c * b' ≤ a' * d <;> simp [p]

end FnExactCommonPart_
open FnExactCommonPart_
theorem laws_eqInterval_refl (a b c d : Int) : laws_eqInterval.f a b c d a b c d = some true := by simp [laws_eqInterval.f, laws_eqRat.f]
theorem FnExactCommonPart : laws_FnExactCommonPart.Pure := by
  intro a b c d a' b' c' d' _ _ _ _ _ _ _ _
  refine ⟨2000000000, ?_⟩
  have key : ∃ r : Int × Int × Int × Int × Bool, spec_CommonPart.f 2000000000 a b c d a' b' c' d' = some r ∧ impl_CommonPart.f 2000000000 a b c d a' b' c' d' = some r := by
    have s1 := spec_ivGood_at a b c d 2000000000 (by omega)
    have s2 := spec_ivGood_at a' b' c' d' 2000000000 (by omega)
    have i1 := impl_isInterval_at a b c d 2000000000 (by omega)
    have i2 := impl_isInterval_at a' b' c' d' 2000000000 (by omega)
    rw [show (unitB a b && (unitB c d && decide (a * d < c * b))) = ivB a b c d from rfl] at s1
    rw [show (unitB a' b' && (unitB c' d' && decide (a' * d' < c' * b'))) = ivB a' b' c' d' from rfl] at s2
    simp only [spec_CommonPart.f, impl_CommonPart.f, s1, s2, i1, i2, Option.bind_some, spec_CommonPart.j0]
    cases h1 : ivB a b c d
    · exact ⟨_, rfl, rfl⟩
    · cases h2 : ivB a' b' c' d'
      · exact ⟨_, rfl, rfl⟩
      · obtain ⟨g1, g2, _⟩ := ivB_good h1
        obtain ⟨g3, g4, _⟩ := ivB_good h2
        simp only [if_true, spec_ivSeparate_at a b c d a' b' c' d' g1 g2 g3 g4, Option.bind_some, impl_common_at a b c d a' b' c' d' g1 g2 g3 g4, comR_sep a b c d a' b' c' d' h1 h2, spec_ivGreater_at a b a' b' g1 g3, spec_ivLess_at' c d c' d' g2 g4, decide_eq_true_eq]
        by_cases s : (c * b' ≤ a' * d ∨ c' * b ≤ a * d')
        · exact ⟨_, by rw [if_pos s], by rw [if_pos s]⟩
        · exact ⟨_, by rw [if_neg s], by rw [if_neg s]⟩
  obtain ⟨r, e1, e2⟩ := key
  simp only [laws_FnExactCommonPart.f, laws_FnExactCommonPart.j0, laws_toInterval.f, laws_toRat.f, Option.bind_some, e1, e2, laws_eqInterval_refl, if_true, bne_self_eq_false, Bool.false_eq_true, if_false]

end Go.Proofs.Ytjeaeaagaaedaaa.Pure
