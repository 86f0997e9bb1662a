/- The program's LengthOf returns what the reference's returns, for all arguments. -/
import Derived.Test.YtjeaeaagaaedaaaPFnExactLengthOfx5
import Derived.Test.YtjeaeaagaaedaaaMathRat
import Derived.Test.YtjeaeaagaaedaaaMathRatOps
namespace Go.Proofs.Ytjeaeaagaaedaaa.Pure
open Go.RowKit Go.Proofs.Ytjeaeaagaaedaaa.PFnExactLengthOf Go.Proofs.YtjeaeaagaaedaaaW.PrintWords Go.Proofs.YtjeaeaagaaedaaaW.PrintLast Go.Proofs.YtjeaeaagaaedaaaW.PrintMore Go.Proofs.Ytjeaeaagaaedaaa.Math
set_option linter.unusedVariables false
set_option linter.unusedSimpArgs false
namespace FnExactLengthOf_
/-! wrap -/
theorem w64 {x : Int} (h1 : -9223372036854775808 ≤ x) (h2 : x ≤ 9223372036854775807) : wrap64 x = x := by unfold wrap64; omega

/-! gcdI -/
theorem impl_gcd_l (b : Nat) : ∀ (a k : Nat), b < k → impl_greatestDivisor.l0 k (a : Int) (b : Int) = some ((Nat.gcd a b : Nat) : Int) := by
  induction b using Nat.strongRecOn with
  | _ b ih =>
    intro a k hk
    obtain ⟨k, rfl⟩ : ∃ m, k = m + 1 := ⟨k - 1, by omega⟩
    simp only [impl_greatestDivisor.l0]
    by_cases h : b = 0
    · subst h; simp
    · rw [if_neg (by omega), Int.tmod_eq_emod_of_nonneg (by omega), show (a : Int) % (b : Int) = ((a % b : Nat) : Int) by omega, ih (a % b) (Nat.mod_lt _ (by omega)) b k (by have := Nat.mod_lt a (show b > 0 by omega); omega)]
      rw [Nat.gcd_comm a b, Nat.gcd_rec b a, Nat.gcd_comm]
theorem impl_abs_at (a : Int) (h : -9000000000000000000 ≤ a) : impl_abs.f a = some ((a.natAbs : Nat) : Int) := by
  unfold impl_abs.f
  by_cases h0 : a < 0
  · rw [if_pos h0]
    by_cases h1 : -a ≤ 9223372036854775807
    · rw [w64 (by omega) h1]; congr 1; omega
    · omega
  · rw [if_neg h0]; congr 1; omega
theorem impl_gcd_at (a b : Int) (k : Nat) (ha : -9000000000000000000 ≤ a) (hb : -9000000000000000000 ≤ b) (hk : b.natAbs < k) : impl_greatestDivisor.f k a b = some ((Int.gcd a b : Nat) : Int) := by
  simp only [impl_greatestDivisor.f, impl_abs_at a ha, impl_abs_at b hb, Option.bind_some, impl_gcd_l b.natAbs a.natAbs k hk]; rfl

/-! within -/
theorem impl_within_eq (a b c : Int) : impl_within.f a b c = some (decide (b ≤ a ∧ a ≤ c)) := by
  unfold impl_within.f; split <;> simp <;> omega

/-! isRat -/
theorem impl_isRat_at (n d : Int) (k : Nat) (hk : 1000000000 < k) : impl_isRat.f k n d = some (goodB n d) := by
  simp only [impl_isRat.f, impl_within_eq, Option.bind_some, goodB]
  by_cases h : 1 ≤ d ∧ d ≤ 1000000000
  · by_cases h2 : -1000000000 ≤ n ∧ n ≤ 1000000000
    · rw [decide_eq_true h, decide_eq_true h2, impl_gcd_at n d k (by omega) (by omega) (by omega)]
      simp only [if_true, Option.bind_some]; congr 1; rw [Bool.eq_iff_iff]; simp [h, h2]; omega
    · rw [decide_eq_true h, decide_eq_false h2]; simp only [if_true, Bool.false_eq_true, if_false]; congr 1; symm; apply decide_eq_false; omega
  · rw [decide_eq_false h]; simp only [Bool.false_eq_true, if_false]; congr 1; symm; apply decide_eq_false; omega

/-! isUnit -/
theorem impl_isUnit_at (n d : Int) (k : Nat) (hk : 1000000000 < k) : impl_isUnit.f k n d = some (unitB n d) := by
  simp only [impl_isUnit.f, impl_isRat_at n d k hk, Option.bind_some, unitB]
  cases goodB n d
  · simp
  · by_cases h : n ≥ 0 <;> simp [h]

/-! cmpI -/
theorem impl_compare_at (a b c d : Int) (h : goodB a b = true) (h2 : goodB c d = true) : impl_compare.f a b c d = some (cmpR a b c d) := by
  obtain ⟨p1, p2, _⟩ := goodB_mul h h2
  simp only [impl_compare.f, cmpR]
  rw [w64 (by omega) (by omega), w64 (by omega) (by omega)]
  by_cases q : a * d < c * b
  · rw [if_pos q, if_pos q]
  · rw [if_neg q, if_neg q]; split <;> rfl
theorem impl_less_at (a b c d : Int) (h : goodB a b = true) (h2 : goodB c d = true) : impl_less.f a b c d = some (decide (a * d < c * b)) := by
  simp only [impl_less.f, impl_compare_at a b c d h h2, Option.bind_some, cmpR]
  congr 2; rw [eq_iff_iff]; repeat' split <;> omega

/-! isInterval -/
/-- A valid interval. -/
def ivB (a b c d : Int) : Bool := unitB a b && (unitB c d && decide (a * d < c * b))
theorem impl_areUnits_two (a b c d : Int) (k : Nat) (hk : 1000000010 < k) : impl_areUnits.f k [(⟨a, b⟩ : S43), ⟨c, d⟩] = some (unitB a b && unitB c d) := by
  obtain ⟨k, rfl⟩ : ∃ q, k = q + 3 := ⟨k - 3, by omega⟩
  have e1 : wrap64 (0 + 1) = 1 := by unfold wrap64; omega
  have e2 : wrap64 (1 + 1) = 2 := by unfold wrap64; omega
  have r0 : rd_T43 [(⟨a, b⟩ : S43), ⟨c, d⟩] 0 = ⟨a, b⟩ := rfl
  have r1 : rd_T43 [(⟨a, b⟩ : S43), ⟨c, d⟩] 1 = ⟨c, d⟩ := rfl
  simp only [impl_areUnits.f, slices_ContainsFunc__impl_areUnits_1.f, slices_IndexFunc__impl_areUnits_1.f, slices_IndexFunc__impl_areUnits_1.l0, e1, e2, r0, r1, impl_areUnits_1.f, impl_isUnit_at a b (k + 2) (by omega), impl_isUnit_at c d (k + 1) (by omega), Option.bind_some]
  cases unitB a b <;> cases unitB c d <;> simp
theorem impl_isInterval_at (a b c d : Int) (k : Nat) (hk : 1000000010 < k) : impl_isInterval.f k a b c d = some (ivB a b c d) := by
  simp only [impl_isInterval.f, impl_areUnits_two a b c d k hk, Option.bind_some, ivB]
  cases h1 : unitB a b
  · simp
  · cases h2 : unitB c d
    · simp
    · rw [impl_less_at a b c d (unitB_iff.1 h1).1 (unitB_iff.1 h2).1]; simp

/-! gcdS -/
theorem spec_gcd_l (b : Nat) : ∀ (a k : Nat), b < k → spec_raCommon.l0 k (a : Int) (b : Int) = some ((Nat.gcd a b : Nat) : Int) := by
  induction b using Nat.strongRecOn with
  | _ b ih =>
    intro a k hk
    obtain ⟨k, rfl⟩ : ∃ m, k = m + 1 := ⟨k - 1, by omega⟩
    simp only [spec_raCommon.l0]
    by_cases h : b = 0
    · subst h; simp
    · rw [if_pos (by omega), if_neg (by omega), Int.tmod_eq_emod_of_nonneg (by omega), show (a : Int) % (b : Int) = ((a % b : Nat) : Int) by omega, ih (a % b) (Nat.mod_lt _ (by omega)) b k (by have := Nat.mod_lt a (show b > 0 by omega); omega)]
      rw [Nat.gcd_comm a b, Nat.gcd_rec b a, Nat.gcd_comm]
theorem spec_l1Abs_at (a : Int) (h : -9000000000000000000 ≤ a) (h2 : a ≤ 9000000000000000000) : spec_l1Abs.f a = some ((a.natAbs : Nat) : Int) := by
  simp only [spec_l1Abs.f, spec_l1Most.f]
  rw [w64 (by omega) (by omega)]
  by_cases h0 : a > -a
  · rw [if_pos h0, Option.bind_some]; congr 1; omega
  · rw [if_neg h0, Option.bind_some]; congr 1; omega
theorem spec_gcd_at (a b : Nat) (k : Nat) (hk : b < k) : spec_raCommon.f k (a : Int) (b : Int) = some ((Nat.gcd a b : Nat) : Int) := by
  simp only [spec_raCommon.f]; exact spec_gcd_l b a k hk

/-! l1In -/
theorem spec_l1In_eq (a b c : Int) : spec_l1In.f a b c = some (decide (b ≤ a ∧ a ≤ c)) := by
  unfold spec_l1In.f; split <;> simp <;> omega

/-! raGood -/
theorem spec_raGood_at (n d : Int) (k : Nat) (hk : 1000000000 < k) : spec_raGood.f k n d = some (goodB n d) := by
  simp only [spec_raGood.f, spec_l1In_eq, Option.bind_some, goodB]
  by_cases h : 1 ≤ d ∧ d ≤ 1000000000
  · by_cases h2 : -1000000000 ≤ n ∧ n ≤ 1000000000
    · have e : d = ((d.natAbs : Nat) : Int) := by omega
      rw [decide_eq_true h, decide_eq_true h2, spec_l1Abs_at n (by omega) (by omega)]
      simp only [if_true, Option.bind_some]
      rw [show spec_raCommon.f k ((n.natAbs : Nat) : Int) d = some ((Nat.gcd n.natAbs d.natAbs : Nat) : Int) by
        have := spec_gcd_at n.natAbs d.natAbs k (by omega)
        rwa [← e] at this, Option.bind_some]
      congr 1; rw [Bool.eq_iff_iff]; simp [h, h2, Int.gcd]; omega
    · rw [decide_eq_true h, decide_eq_false h2]; simp only [if_true, Bool.false_eq_true, if_false]; congr 1; symm; apply decide_eq_false; omega
  · rw [decide_eq_false h]; simp only [Bool.false_eq_true, if_false]; congr 1; symm; apply decide_eq_false; omega

/-! raUnit -/
theorem spec_raUnit_at (n d : Int) (k : Nat) (hk : 1000000000 < k) : spec_raUnit.f k n d = some (unitB n d) := by
  simp only [spec_raUnit.f, spec_raGood_at n d k hk, spec_l1In_eq, Option.bind_some, unitB]
  cases goodB n d <;> simp

/-! cmpS -/
theorem spec_raCmp_at (a b c d : Int) (h : goodB a b = true) (h2 : goodB c d = true) : spec_raCmp.f a b c d = some (cmpR a b c d) := by
  obtain ⟨p1, p2, _⟩ := goodB_mul h h2
  simp only [spec_raCmp.f, spec_l1Sign.f, cmpR]
  rw [w64 (x := a * d) (by omega) (by omega), w64 (x := c * b) (by omega) (by omega), w64 (by omega) (by omega)]
  by_cases q : a * d < c * b
  · rw [if_neg (by omega), if_pos (by omega), if_pos q]; rfl
  · by_cases r : a * d > c * b
    · rw [if_pos (by omega), if_neg q, if_pos r]; rfl
    · rw [if_neg (by omega), if_neg (by omega), if_neg q, if_neg r]; rfl

/-! ivGood -/
theorem spec_ivGood_at (a b c d : Int) (k : Nat) (hk : 1000000010 < k) : spec_ivGood.f k a b c d = some (unitB a b && (unitB c d && decide (a * d < c * b))) := by
  simp only [spec_ivGood.f, spec_raUnit_at a b k (by omega), spec_raUnit_at c d k (by omega), Option.bind_some]
  cases h1 : unitB a b
  · simp
  · cases h2 : unitB c d
    · simp
    · rw [spec_raCmp_at a b c d (unitB_iff.1 h1).1 (unitB_iff.1 h2).1]
      simp only [if_true, Option.bind_some, Bool.true_and, cmpR]
      congr 2; rw [eq_iff_iff]; repeat' split <;> omega

/-! lowest -/
theorem impl_lowest_at (num den : Int) (k : Nat) (h0 : den ≠ 0) (h1 : -4000000000000000000 ≤ num) (h2 : num ≤ 4000000000000000000) (h3 : -4000000000000000000 ≤ den) (h4 : den ≤ 4000000000000000000) (hk : 5000000000000000000 < k) :
    impl_lowest.f k num den = some (mk num den) := by
  have g1 := gcd_pos_right num den h0
  have g2 := gcd_le_right num den h0
  have e1 : ∀ s : Int, s ≠ 0 → -4000000000000000000 ≤ num.tdiv s ∧ num.tdiv s ≤ 4000000000000000000 := fun s hs => by
    have := Int.natAbs_tdiv_le_natAbs num s; omega
  have e2 : ∀ s : Int, s ≠ 0 → -4000000000000000000 ≤ den.tdiv s ∧ den.tdiv s ≤ 4000000000000000000 := fun s hs => by
    have := Int.natAbs_tdiv_le_natAbs den s; omega
  simp only [impl_lowest.f, impl_gcd_at num den k (by omega) (by omega) (by omega), Option.bind_some, mk, sg]
  by_cases hn : den < 0
  · have hg : (-(Int.gcd num den : Int)) ≠ 0 := by omega
    have a := e1 _ hg; have b := e2 _ hg
    simp only [if_pos hn]
    rw [w64 (x := -(Int.gcd num den : Int)) (by omega) (by omega), if_neg hg, w64 (x := num.tdiv _) (by omega) (by omega), w64 (x := den.tdiv _) (by omega) (by omega), impl_isRat_at _ _ k (by omega), Option.bind_some]
    split <;> rfl
  · have hg : ((Int.gcd num den : Int)) ≠ 0 := by omega
    have a := e1 _ hg; have b := e2 _ hg
    simp only [if_neg hn]
    rw [if_neg hg, w64 (x := num.tdiv _) (by omega) (by omega), w64 (x := den.tdiv _) (by omega) (by omega), impl_isRat_at _ _ k (by omega), Option.bind_some]
    split <;> rfl

/-! addRats -/
theorem impl_areRats_two (a b c d : Int) (k : Nat) (hk : 1000000010 < k) : impl_areRats.f k [(⟨a, b⟩ : S43), ⟨c, d⟩] = some (goodB a b && goodB c d) := by
  obtain ⟨k, rfl⟩ : ∃ q, k = q + 3 := ⟨k - 3, by omega⟩
  have e1 : wrap64 (0 + 1) = 1 := by unfold wrap64; omega
  have e2 : wrap64 (1 + 1) = 2 := by unfold wrap64; omega
  have r0 : rd_T43 [(⟨a, b⟩ : S43), ⟨c, d⟩] 0 = ⟨a, b⟩ := rfl
  have r1 : rd_T43 [(⟨a, b⟩ : S43), ⟨c, d⟩] 1 = ⟨c, d⟩ := rfl
  simp only [impl_areRats.f, impl_areRats.l0, e1, e2, r0, r1, impl_isRat_at a b (k + 2) (by omega), impl_isRat_at c d (k + 1) (by omega), Option.bind_some]
  cases goodB a b <;> cases goodB c d <;> simp
theorem impl_AddRats_at (a b c d : Int) (k : Nat) (hk : 5000000000000000000 < k) : impl_AddRats.f k a b c d = some (addR a b c d) := by
  simp only [impl_AddRats.f, impl_areRats_two a b c d k (by omega), Option.bind_some, addR]
  cases h1 : goodB a b
  · simp
  · cases h2 : goodB c d
    · simp
    · obtain ⟨p1, p2, p3, _⟩ := goodB_mul h1 h2
      simp only [Bool.and_self, if_true]
      rw [w64 (x := a * d) (by omega) (by omega), w64 (x := c * b) (by omega) (by omega), w64 (x := b * d) (by omega) (by omega), w64 (x := a * d + c * b) (by omega) (by omega), impl_lowest_at _ _ k (by omega) (by omega) (by omega) (by omega) (by omega) hk]; rfl
theorem impl_SubtractRats_at (a b c d : Int) (k : Nat) (hk : 5000000000000000000 < k) (hc : -9223372036854775808 ≤ c) (hc2 : c ≤ 9223372036854775807) : impl_SubtractRats.f k a b c d = some (subR a b c d) := by
  simp only [impl_SubtractRats.f, impl_negated.f, Option.bind_some, impl_AddRats_at _ _ _ _ k hk]
  rw [addR_neg a b c d hc hc2]

/-! raMake -/
theorem spec_raMake_at (num den : Int) (k : Nat) (h0 : den ≠ 0) (h1 : -4000000000000000000 ≤ num) (h2 : num ≤ 4000000000000000000) (h3 : -4000000000000000000 ≤ den) (h4 : den ≤ 4000000000000000000) (hk : 5000000000000000000 < k) :
    spec_raMake.f k num den = some (mk num den) := by
  have g1 := gcd_pos_right num den h0
  have g2 := gcd_le_right num den h0
  have e1 : ∀ s : Int, s ≠ 0 → -4000000000000000000 ≤ num.tdiv s ∧ num.tdiv s ≤ 4000000000000000000 := fun s hs => by
    have := Int.natAbs_tdiv_le_natAbs num s; omega
  have e2 : ∀ s : Int, s ≠ 0 → -4000000000000000000 ≤ den.tdiv s ∧ den.tdiv s ≤ 4000000000000000000 := fun s hs => by
    have := Int.natAbs_tdiv_le_natAbs den s; omega
  have eg : (Nat.gcd num.natAbs den.natAbs : Int) = (Int.gcd num den : Int) := rfl
  simp only [spec_raMake.f, spec_l1Abs_at num (by omega) (by omega), spec_l1Abs_at den (by omega) (by omega), spec_gcd_at num.natAbs den.natAbs k (by omega), Option.bind_some, mk, sg, if_neg h0, eg]
  by_cases hn : den < 0
  · have hg : (-(Int.gcd num den : Int)) ≠ 0 := by omega
    have a := e1 _ hg; have b := e2 _ hg
    simp only [if_pos hn]
    rw [w64 (x := -(Int.gcd num den : Int)) (by omega) (by omega), if_neg hg, w64 (x := num.tdiv _) (by omega) (by omega), w64 (x := den.tdiv _) (by omega) (by omega), spec_raGood_at _ _ k (by omega), Option.bind_some]
    split <;> rfl
  · have hg : ((Int.gcd num den : Int)) ≠ 0 := by omega
    have a := e1 _ hg; have b := e2 _ hg
    simp only [if_neg hn]
    rw [if_neg hg, w64 (x := num.tdiv _) (by omega) (by omega), w64 (x := den.tdiv _) (by omega) (by omega), spec_raGood_at _ _ k (by omega), Option.bind_some]
    split <;> rfl

/-! raSub -/
theorem spec_raSub_at (a b c d : Int) (k : Nat) (h1 : goodB a b = true) (h2 : goodB c d = true) (hk : 5000000000000000000 < k) : spec_raSub.f k a b c d = some (mk (a * d - c * b) (b * d)) := by
  obtain ⟨p1, p2, p3, _⟩ := goodB_mul h1 h2
  simp only [spec_raSub.f]
  rw [w64 (x := a * d) (by omega) (by omega), w64 (x := c * b) (by omega) (by omega), w64 (x := b * d) (by omega) (by omega), w64 (x := a * d - c * b) (by omega) (by omega), spec_raMake_at _ _ k (by omega) (by omega) (by omega) (by omega) (by omega) hk]; rfl

end FnExactLengthOf_
open FnExactLengthOf_
theorem wf_bd {x : Int} (h : (Lit.int .i64 x).wf = true) : -9223372036854775808 ≤ x ∧ x ≤ 9223372036854775807 := by
  simpa [Lit.wf, IntKind.min, IntKind.max, IntKind.signed, IntKind.bits] using h
theorem FnExactLengthOf : laws_FnExactLengthOf.Pure := by
  intro a b c d ha _ _ _
  refine ⟨6000000000000000000, ?_⟩
  have hb := wf_bd ha
  simp only [laws_FnExactLengthOf.f, laws_toInterval.f, laws_toRat.f, spec_LengthOf.f, impl_LengthOf.f, spec_ivGood_at a b c d 6000000000000000000 (by omega), impl_isInterval_at a b c d 6000000000000000000 (by omega), ivB, Option.bind_some]
  by_cases h : (unitB a b && (unitB c d && decide (a * d < c * b))) = true
  · have g1 : goodB a b = true := by simp [unitB] at h; exact h.1.1
    have g2 : goodB c d = true := by simp [unitB] at h; exact h.2.1.1
    simp only [h, if_true, spec_raSub_at c d a b 6000000000000000000 g2 g1 (by omega), impl_SubtractRats_at c d a b 6000000000000000000 (by omega) hb.1 hb.2, Option.bind_some, subR, g1, g2, Bool.and_self, laws_eqRat.f, bne_self_eq_false, Bool.false_eq_true, if_false]
  · simp [h, laws_eqRat.f]

end Go.Proofs.Ytjeaeaagaaedaaa.Pure
