/- The program's SplitInterval returns what the reference's returns, for all arguments. -/
import Derived.Test.YtmpccnagidednaaPFnExactSplitIntervalx9
import Derived.Test.YtmpccnagidednaaMathRat
import Derived.Test.YtmpccnagidednaaMathRatOps
import Derived.Test.YtmpccnagidednaaMathMap
import Derived.Test.YtmpccnagidednaaMathMarks
namespace Go.Proofs.Ytmpccnagidednaa.Pure
open Go.RowKit Go.Proofs.Ytmpccnagidednaa.PFnExactSplitInterval Go.Proofs.YtmpccnagidednaaW.PrintWords Go.Proofs.YtmpccnagidednaaW.PrintLast Go.Proofs.YtmpccnagidednaaW.PrintMore Go.Proofs.Ytmpccnagidednaa.Math
set_option linter.unusedVariables false
set_option linter.unusedSimpArgs false
namespace FnExactSplitInterval_
/-! wrap -/
theorem w64 {x : Int} (h1 : -9223372036854775808 ≤ x) (h2 : x ≤ 9223372036854775807) : wrap64 x = x := by unfold wrap64; omega

/-! gcdI -/
theorem impl_gcd_l (b : Nat) : ∀ (a k : Nat), b < k → impl_greatestDivisor.l0 k (a : Int) (b : Int) = some ((Nat.gcd a b : Nat) : Int) := by
  induction b using Nat.strongRecOn with
  | _ b ih =>
    intro a k hk
    obtain ⟨k, rfl⟩ : ∃ m, k = m + 1 := ⟨k - 1, by omega⟩
    simp only [impl_greatestDivisor.l0]
    by_cases h : b = 0
    · subst h; simp
    · rw [if_neg (by omega), Int.tmod_eq_emod_of_nonneg (by omega), show (a : Int) % (b : Int) = ((a % b : Nat) : Int) by omega, ih (a % b) (Nat.mod_lt _ (by omega)) b k (by have := Nat.mod_lt a (show b > 0 by omega); omega)]
      rw [Nat.gcd_comm a b, Nat.gcd_rec b a, Nat.gcd_comm]
theorem impl_abs_at (a : Int) (h : -9000000000000000000 ≤ a) : impl_abs.f a = some ((a.natAbs : Nat) : Int) := by
  unfold impl_abs.f
  by_cases h0 : a < 0
  · rw [if_pos h0]
    by_cases h1 : -a ≤ 9223372036854775807
    · rw [w64 (by omega) h1]; congr 1; omega
    · omega
  · rw [if_neg h0]; congr 1; omega
theorem impl_gcd_at (a b : Int) (k : Nat) (ha : -9000000000000000000 ≤ a) (hb : -9000000000000000000 ≤ b) (hk : b.natAbs < k) : impl_greatestDivisor.f k a b = some ((Int.gcd a b : Nat) : Int) := by
  simp only [impl_greatestDivisor.f, impl_abs_at a ha, impl_abs_at b hb, Option.bind_some, impl_gcd_l b.natAbs a.natAbs k hk]; rfl

/-! within -/
theorem impl_within_eq (a b c : Int) : impl_within.f a b c = some (decide (b ≤ a ∧ a ≤ c)) := by
  unfold impl_within.f; split <;> simp <;> omega

/-! isRat -/
theorem impl_isRat_at (n d : Int) (k : Nat) (hk : 1000000000 < k) : impl_isRat.f k n d = some (goodB n d) := by
  simp only [impl_isRat.f, impl_within_eq, Option.bind_some, goodB]
  by_cases h : 1 ≤ d ∧ d ≤ 1000000000
  · by_cases h2 : -1000000000 ≤ n ∧ n ≤ 1000000000
    · rw [decide_eq_true h, decide_eq_true h2, impl_gcd_at n d k (by omega) (by omega) (by omega)]
      simp only [if_true, Option.bind_some]; congr 1; rw [Bool.eq_iff_iff]; simp [h, h2]; omega
    · rw [decide_eq_true h, decide_eq_false h2]; simp only [if_true, Bool.false_eq_true, if_false]; congr 1; symm; apply decide_eq_false; omega
  · rw [decide_eq_false h]; simp only [Bool.false_eq_true, if_false]; congr 1; symm; apply decide_eq_false; omega

/-! lowest -/
theorem impl_lowest_at (num den : Int) (k : Nat) (h0 : den ≠ 0) (h1 : -4000000000000000000 ≤ num) (h2 : num ≤ 4000000000000000000) (h3 : -4000000000000000000 ≤ den) (h4 : den ≤ 4000000000000000000) (hk : 5000000000000000000 < k) :
    impl_lowest.f k num den = some (mk num den) := by
  have g1 := gcd_pos_right num den h0
  have g2 := gcd_le_right num den h0
  have e1 : ∀ s : Int, s ≠ 0 → -4000000000000000000 ≤ num.tdiv s ∧ num.tdiv s ≤ 4000000000000000000 := fun s hs => by
    have := Int.natAbs_tdiv_le_natAbs num s; omega
  have e2 : ∀ s : Int, s ≠ 0 → -4000000000000000000 ≤ den.tdiv s ∧ den.tdiv s ≤ 4000000000000000000 := fun s hs => by
    have := Int.natAbs_tdiv_le_natAbs den s; omega
  simp only [impl_lowest.f, impl_gcd_at num den k (by omega) (by omega) (by omega), Option.bind_some, mk, sg]
  by_cases hn : den < 0
  · have hg : (-(Int.gcd num den : Int)) ≠ 0 := by omega
    have a := e1 _ hg; have b := e2 _ hg
    simp only [if_pos hn]
    rw [w64 (x := -(Int.gcd num den : Int)) (by omega) (by omega), if_neg hg, w64 (x := num.tdiv _) (by omega) (by omega), w64 (x := den.tdiv _) (by omega) (by omega), impl_isRat_at _ _ k (by omega), Option.bind_some]
    split <;> rfl
  · have hg : ((Int.gcd num den : Int)) ≠ 0 := by omega
    have a := e1 _ hg; have b := e2 _ hg
    simp only [if_neg hn]
    rw [if_neg hg, w64 (x := num.tdiv _) (by omega) (by omega), w64 (x := den.tdiv _) (by omega) (by omega), impl_isRat_at _ _ k (by omega), Option.bind_some]
    split <;> rfl

/-! addRats -/
theorem impl_areRats_two (a b c d : Int) (k : Nat) (hk : 1000000010 < k) : impl_areRats.f k [(⟨a, b⟩ : S33), ⟨c, d⟩] = some (goodB a b && goodB c d) := by
  obtain ⟨k, rfl⟩ : ∃ q, k = q + 3 := ⟨k - 3, by omega⟩
  have e1 : wrap64 (0 + 1) = 1 := by unfold wrap64; omega
  have e2 : wrap64 (1 + 1) = 2 := by unfold wrap64; omega
  have r0 : rd_T33 [(⟨a, b⟩ : S33), ⟨c, d⟩] 0 = ⟨a, b⟩ := rfl
  have r1 : rd_T33 [(⟨a, b⟩ : S33), ⟨c, d⟩] 1 = ⟨c, d⟩ := rfl
  simp only [impl_areRats.f, impl_areRats.l0, e1, e2, r0, r1, impl_isRat_at a b (k + 2) (by omega), impl_isRat_at c d (k + 1) (by omega), Option.bind_some]
  cases goodB a b <;> cases goodB c d <;> simp
theorem impl_AddRats_at (a b c d : Int) (k : Nat) (hk : 5000000000000000000 < k) : impl_AddRats.f k a b c d = some (addR a b c d) := by
  simp only [impl_AddRats.f, impl_areRats_two a b c d k (by omega), Option.bind_some, addR]
  cases h1 : goodB a b
  · simp
  · cases h2 : goodB c d
    · simp
    · obtain ⟨p1, p2, p3, _⟩ := goodB_mul h1 h2
      simp only [Bool.and_self, if_true]
      rw [w64 (x := a * d) (by omega) (by omega), w64 (x := c * b) (by omega) (by omega), w64 (x := b * d) (by omega) (by omega), w64 (x := a * d + c * b) (by omega) (by omega), impl_lowest_at _ _ k (by omega) (by omega) (by omega) (by omega) (by omega) hk]; rfl
theorem impl_SubtractRats_at (a b c d : Int) (k : Nat) (hk : 5000000000000000000 < k) (hc : -9223372036854775808 ≤ c) (hc2 : c ≤ 9223372036854775807) : impl_SubtractRats.f k a b c d = some (subR a b c d) := by
  simp only [impl_SubtractRats.f, impl_negated.f, Option.bind_some, impl_AddRats_at _ _ _ _ k hk]
  rw [addR_neg a b c d hc hc2]

/-! calcs -/
theorem impl_calc_keep_true (s : Bool) (n d : Int) : impl_calc_keep.f s n d true = some (n, d, s) := by simp [impl_calc_keep.f]
theorem impl_calc_keep_false (s : Bool) (n d : Int) : impl_calc_keep.f s n d false = some (0, 1, true) := by simp [impl_calc_keep.f, impl_zero.f]
/-- A result, or 0 and a note that it is too large. -/
def keepR (s : Bool) (x : Int × Int × Bool) : Int × Int × Bool := if x.2.2 = true then (x.1, x.2.1, s) else (0, 1, true)
theorem impl_calc_keep_at (s : Bool) (x : Int × Int × Bool) : impl_calc_keep.f s x.1 x.2.1 x.2.2 = some (keepR s x) := by
  obtain ⟨a, b, c⟩ := x
  cases c <;> simp [keepR, impl_calc_keep_true, impl_calc_keep_false]

/-! calcAdd -/
theorem impl_calc_add_at (s : Bool) (a b c d : Int) (k : Nat) (hk : 5000000000000000000 < k) : impl_calc_add.f k s a b c d = some (keepR s (addR a b c d)) := by
  simp only [impl_calc_add.f, impl_AddRats_at a b c d k hk, Option.bind_some, impl_calc_keep_at]

/-! calcMul -/
theorem impl_MultiplyRats_at (a b c d : Int) (k : Nat) (hk : 5000000000000000000 < k) : impl_MultiplyRats.f k a b c d = some (mulR a b c d) := by
  simp only [impl_MultiplyRats.f, impl_areRats_two a b c d k (by omega), Option.bind_some, mulR]
  cases h1 : goodB a b
  · simp
  · cases h2 : goodB c d
    · simp
    · obtain ⟨p1, p2, p3, p4⟩ := goodB_mul h1 h2
      simp only [Bool.and_self, if_true]
      rw [w64 (x := a * c) (by omega) (by omega), w64 (x := b * d) (by omega) (by omega), impl_lowest_at _ _ k (by omega) (by omega) (by omega) (by omega) (by omega) hk]; rfl
theorem impl_calc_mul_at (s : Bool) (a b c d : Int) (k : Nat) (hk : 5000000000000000000 < k) : impl_calc_mul.f k s a b c d = some (keepR s (mulR a b c d)) := by
  simp only [impl_calc_mul.f, impl_MultiplyRats_at a b c d k hk, Option.bind_some, impl_calc_keep_at]

/-! calcSub -/
theorem impl_calc_sub_at (s : Bool) (a b c d : Int) (k : Nat) (hk : 5000000000000000000 < k) (hc : -9223372036854775808 ≤ c) (hc2 : c ≤ 9223372036854775807) : impl_calc_sub.f k s a b c d = some (keepR s (subR a b c d)) := by
  simp only [impl_calc_sub.f, impl_SubtractRats_at a b c d k hk hc hc2, Option.bind_some, impl_calc_keep_at]

/-! gcdS -/
theorem spec_gcd_l (b : Nat) : ∀ (a k : Nat), b < k → spec_raCommon.l0 k (a : Int) (b : Int) = some ((Nat.gcd a b : Nat) : Int) := by
  induction b using Nat.strongRecOn with
  | _ b ih =>
    intro a k hk
    obtain ⟨k, rfl⟩ : ∃ m, k = m + 1 := ⟨k - 1, by omega⟩
    simp only [spec_raCommon.l0]
    by_cases h : b = 0
    · subst h; simp
    · rw [if_pos (by omega), if_neg (by omega), Int.tmod_eq_emod_of_nonneg (by omega), show (a : Int) % (b : Int) = ((a % b : Nat) : Int) by omega, ih (a % b) (Nat.mod_lt _ (by omega)) b k (by have := Nat.mod_lt a (show b > 0 by omega); omega)]
      rw [Nat.gcd_comm a b, Nat.gcd_rec b a, Nat.gcd_comm]
theorem spec_l1Abs_at (a : Int) (h : -9000000000000000000 ≤ a) (h2 : a ≤ 9000000000000000000) : spec_l1Abs.f a = some ((a.natAbs : Nat) : Int) := by
  simp only [spec_l1Abs.f, spec_l1Most.f]
  rw [w64 (by omega) (by omega)]
  by_cases h0 : a > -a
  · rw [if_pos h0, Option.bind_some]; congr 1; omega
  · rw [if_neg h0, Option.bind_some]; congr 1; omega
theorem spec_gcd_at (a b : Nat) (k : Nat) (hk : b < k) : spec_raCommon.f k (a : Int) (b : Int) = some ((Nat.gcd a b : Nat) : Int) := by
  simp only [spec_raCommon.f]; exact spec_gcd_l b a k hk

/-! l1In -/
theorem spec_l1In_eq (a b c : Int) : spec_l1In.f a b c = some (decide (b ≤ a ∧ a ≤ c)) := by
  unfold spec_l1In.f; split <;> simp <;> omega

/-! raGood -/
theorem spec_raGood_at (n d : Int) (k : Nat) (hk : 1000000000 < k) : spec_raGood.f k n d = some (goodB n d) := by
  simp only [spec_raGood.f, spec_l1In_eq, Option.bind_some, goodB]
  by_cases h : 1 ≤ d ∧ d ≤ 1000000000
  · by_cases h2 : -1000000000 ≤ n ∧ n ≤ 1000000000
    · have e : d = ((d.natAbs : Nat) : Int) := by omega
      rw [decide_eq_true h, decide_eq_true h2, spec_l1Abs_at n (by omega) (by omega)]
      simp only [if_true, Option.bind_some]
      rw [show spec_raCommon.f k ((n.natAbs : Nat) : Int) d = some ((Nat.gcd n.natAbs d.natAbs : Nat) : Int) by
        have := spec_gcd_at n.natAbs d.natAbs k (by omega)
        rwa [← e] at this, Option.bind_some]
      congr 1; rw [Bool.eq_iff_iff]; simp [h, h2, Int.gcd]; omega
    · rw [decide_eq_true h, decide_eq_false h2]; simp only [if_true, Bool.false_eq_true, if_false]; congr 1; symm; apply decide_eq_false; omega
  · rw [decide_eq_false h]; simp only [Bool.false_eq_true, if_false]; congr 1; symm; apply decide_eq_false; omega

/-! raMake -/
theorem spec_raMake_at (num den : Int) (k : Nat) (h0 : den ≠ 0) (h1 : -4000000000000000000 ≤ num) (h2 : num ≤ 4000000000000000000) (h3 : -4000000000000000000 ≤ den) (h4 : den ≤ 4000000000000000000) (hk : 5000000000000000000 < k) :
    spec_raMake.f k num den = some (mk num den) := by
  have g1 := gcd_pos_right num den h0
  have g2 := gcd_le_right num den h0
  have e1 : ∀ s : Int, s ≠ 0 → -4000000000000000000 ≤ num.tdiv s ∧ num.tdiv s ≤ 4000000000000000000 := fun s hs => by
    have := Int.natAbs_tdiv_le_natAbs num s; omega
  have e2 : ∀ s : Int, s ≠ 0 → -4000000000000000000 ≤ den.tdiv s ∧ den.tdiv s ≤ 4000000000000000000 := fun s hs => by
    have := Int.natAbs_tdiv_le_natAbs den s; omega
  have eg : (Nat.gcd num.natAbs den.natAbs : Int) = (Int.gcd num den : Int) := rfl
  simp only [spec_raMake.f, spec_l1Abs_at num (by omega) (by omega), spec_l1Abs_at den (by omega) (by omega), spec_gcd_at num.natAbs den.natAbs k (by omega), Option.bind_some, mk, sg, if_neg h0, eg]
  by_cases hn : den < 0
  · have hg : (-(Int.gcd num den : Int)) ≠ 0 := by omega
    have a := e1 _ hg; have b := e2 _ hg
    simp only [if_pos hn]
    rw [w64 (x := -(Int.gcd num den : Int)) (by omega) (by omega), if_neg hg, w64 (x := num.tdiv _) (by omega) (by omega), w64 (x := den.tdiv _) (by omega) (by omega), spec_raGood_at _ _ k (by omega), Option.bind_some]
    split <;> rfl
  · have hg : ((Int.gcd num den : Int)) ≠ 0 := by omega
    have a := e1 _ hg; have b := e2 _ hg
    simp only [if_neg hn]
    rw [if_neg hg, w64 (x := num.tdiv _) (by omega) (by omega), w64 (x := den.tdiv _) (by omega) (by omega), spec_raGood_at _ _ k (by omega), Option.bind_some]
    split <;> rfl

/-! raAddMul -/
theorem spec_raAdd_at (a b c d : Int) (k : Nat) (h1 : goodB a b = true) (h2 : goodB c d = true) (hk : 5000000000000000000 < k) : spec_raAdd.f k a b c d = some (addR a b c d) := by
  obtain ⟨p1, p2, p3, _⟩ := goodB_mul h1 h2
  simp only [spec_raAdd.f]
  rw [w64 (x := a * d) (by omega) (by omega), w64 (x := c * b) (by omega) (by omega), w64 (x := b * d) (by omega) (by omega), w64 (x := a * d + c * b) (by omega) (by omega), spec_raMake_at _ _ k (by omega) (by omega) (by omega) (by omega) (by omega) hk]; simp [addR, h1, h2]
theorem spec_raMul_at (a b c d : Int) (k : Nat) (h1 : goodB a b = true) (h2 : goodB c d = true) (hk : 5000000000000000000 < k) : spec_raMul.f k a b c d = some (mulR a b c d) := by
  obtain ⟨p1, p2, p3, p4⟩ := goodB_mul h1 h2
  simp only [spec_raMul.f]
  rw [w64 (x := a * c) (by omega) (by omega), w64 (x := b * d) (by omega) (by omega), spec_raMake_at _ _ k (by omega) (by omega) (by omega) (by omega) (by omega) hk]; simp [mulR, h1, h2]

/-! raSub -/
theorem spec_raSub_at (a b c d : Int) (k : Nat) (h1 : goodB a b = true) (h2 : goodB c d = true) (hk : 5000000000000000000 < k) : spec_raSub.f k a b c d = some (mk (a * d - c * b) (b * d)) := by
  obtain ⟨p1, p2, p3, _⟩ := goodB_mul h1 h2
  simp only [spec_raSub.f]
  rw [w64 (x := a * d) (by omega) (by omega), w64 (x := c * b) (by omega) (by omega), w64 (x := b * d) (by omega) (by omega), w64 (x := a * d - c * b) (by omega) (by omega), spec_raMake_at _ _ k (by omega) (by omega) (by omega) (by omega) (by omega) hk]; rfl

/-! rdRt -/
theorem rdRt (xs : List S33) (i : Nat) (h : i < xs.length) : rd_T33 xs (i : Int) = xs[i] := by
  simp [rd_T33, List.getD_eq_getElem?_getD, List.getElem?_eq_getElem h]
def rt (x : S33) : Int × Int := (x.f0, x.f1)

/-! between -/
/-- The intervals between neighbours. -/
def betw : List S33 → List S62
  | a :: b :: l => ⟨a, b⟩ :: betw (b :: l)
  | _ => []
theorem betw_len : ∀ l, (betw l).length = l.length - 1
  | [] => rfl
  | [_] => rfl
  | a :: b :: l => by rw [betw, List.length_cons, betw_len (b :: l)]; simp
theorem spec_ivBetween_l (l : List S33) (hn : l.length ≤ 1000) : ∀ (d i k : Nat) (acc : List S62), i + 1 + d = l.length → acc.length ≤ i → d < k →
    spec_ivBetween.l0 k l acc ((i + 1 : Nat) : Int) = some (acc ++ betw (l.drop i)) := by
  intro d
  induction d with
  | zero =>
    intro i k acc h1 h2 h3
    obtain ⟨k, rfl⟩ : ∃ q, k = q + 1 := ⟨k - 1, by omega⟩
    simp only [spec_ivBetween.l0]; rw [if_neg (by omega), List.drop_eq_getElem_cons (show i < l.length by omega), List.drop_eq_nil_of_le (by omega)]; simp [betw]
  | succ d ih =>
    intro i k acc h1 h2 h3
    obtain ⟨k, rfl⟩ : ∃ q, k = q + 1 := ⟨k - 1, by omega⟩
    simp only [spec_ivBetween.l0]
    rw [if_pos (by omega), w64 (x := ((i + 1 : Nat) : Int) - 1) (by omega) (by omega), if_pos (by omega), if_pos (by omega), if_pos (by omega), show ((i + 1 : Nat) : Int) - 1 = ((i : Nat) : Int) by omega, rdRt l i (by omega), rdRt l (i + 1) (by omega), if_pos (by omega), w64 (by omega) (by omega), show ((i + 1 : Nat) : Int) + 1 = ((i + 1 + 1 : Nat) : Int) by omega, ih (i + 1) k _ (by omega) (by simp; omega) (by omega), List.drop_eq_getElem_cons (show i < l.length by omega), List.drop_eq_getElem_cons (show i + 1 < l.length by omega)]
    simp only [betw, List.append_assoc, List.cons_append, List.nil_append]
theorem spec_ivBetween_at (l : List S33) (hn : l.length ≤ 1000) (h0 : 1 ≤ l.length) (k : Nat) (hk : 1000 < k) : spec_ivBetween.f k l = some (betw l) := by
  have := spec_ivBetween_l l hn (l.length - 1) 0 k [] (by omega) (by simp) (by omega)
  simpa [spec_ivBetween.f] using this
theorem impl_between_l (l : List S33) (hn : l.length ≤ 1000) : ∀ (d i k : Nat) (acc : List S62), i + 1 + d = l.length → acc.length ≤ i → d < k →
    impl_between.l0 k l acc ((i + 1 : Nat) : Int) = some (acc ++ betw (l.drop i)) := by
  intro d
  induction d with
  | zero =>
    intro i k acc h1 h2 h3
    obtain ⟨k, rfl⟩ : ∃ q, k = q + 1 := ⟨k - 1, by omega⟩
    simp only [impl_between.l0]; rw [if_neg (by omega), List.drop_eq_getElem_cons (show i < l.length by omega), List.drop_eq_nil_of_le (by omega)]; simp [betw]
  | succ d ih =>
    intro i k acc h1 h2 h3
    obtain ⟨k, rfl⟩ : ∃ q, k = q + 1 := ⟨k - 1, by omega⟩
    simp only [impl_between.l0]
    rw [if_pos (by omega), w64 (x := ((i + 1 : Nat) : Int) - 1) (by omega) (by omega), if_pos (by omega), if_pos (by omega), if_pos (by omega), show ((i + 1 : Nat) : Int) - 1 = ((i : Nat) : Int) by omega, rdRt l i (by omega), rdRt l (i + 1) (by omega), if_pos (by omega), w64 (by omega) (by omega), show ((i + 1 : Nat) : Int) + 1 = ((i + 1 + 1 : Nat) : Int) by omega, ih (i + 1) k _ (by omega) (by simp; omega) (by omega), List.drop_eq_getElem_cons (show i < l.length by omega), List.drop_eq_getElem_cons (show i + 1 < l.length by omega)]
    simp only [betw, List.append_assoc, List.cons_append, List.nil_append]
theorem impl_between_at (l : List S33) (hn : l.length ≤ 1000) (h0 : 1 ≤ l.length) (k : Nat) (hk : 1000 < k) : impl_between.f k l = some (betw l) := by
  have := impl_between_l l hn (l.length - 1) 0 k [] (by omega) (by simp) (by omega)
  simpa [impl_between.f] using this

/-! isUnit -/
theorem impl_isUnit_at (n d : Int) (k : Nat) (hk : 1000000000 < k) : impl_isUnit.f k n d = some (unitB n d) := by
  simp only [impl_isUnit.f, impl_isRat_at n d k hk, Option.bind_some, unitB]
  cases goodB n d
  · simp
  · by_cases h : n ≥ 0 <;> simp [h]

/-! cmpI -/
theorem impl_compare_at (a b c d : Int) (h : goodB a b = true) (h2 : goodB c d = true) : impl_compare.f a b c d = some (cmpR a b c d) := by
  obtain ⟨p1, p2, _⟩ := goodB_mul h h2
  simp only [impl_compare.f, cmpR]
  rw [w64 (by omega) (by omega), w64 (by omega) (by omega)]
  by_cases q : a * d < c * b
  · rw [if_pos q, if_pos q]
  · rw [if_neg q, if_neg q]; split <;> rfl
theorem impl_less_at (a b c d : Int) (h : goodB a b = true) (h2 : goodB c d = true) : impl_less.f a b c d = some (decide (a * d < c * b)) := by
  simp only [impl_less.f, impl_compare_at a b c d h h2, Option.bind_some, cmpR]
  congr 2; rw [eq_iff_iff]; repeat' split <;> omega

/-! isInterval -/
/-- A valid interval. -/
def ivB (a b c d : Int) : Bool := unitB a b && (unitB c d && decide (a * d < c * b))
theorem impl_areUnits_two (a b c d : Int) (k : Nat) (hk : 1000000010 < k) : impl_areUnits.f k [(⟨a, b⟩ : S33), ⟨c, d⟩] = some (unitB a b && unitB c d) := by
  obtain ⟨k, rfl⟩ : ∃ q, k = q + 3 := ⟨k - 3, by omega⟩
  have e1 : wrap64 (0 + 1) = 1 := by unfold wrap64; omega
  have e2 : wrap64 (1 + 1) = 2 := by unfold wrap64; omega
  have r0 : rd_T33 [(⟨a, b⟩ : S33), ⟨c, d⟩] 0 = ⟨a, b⟩ := rfl
  have r1 : rd_T33 [(⟨a, b⟩ : S33), ⟨c, d⟩] 1 = ⟨c, d⟩ := rfl
  simp only [impl_areUnits.f, slices_ContainsFunc__impl_areUnits_1.f, slices_IndexFunc__impl_areUnits_1.f, slices_IndexFunc__impl_areUnits_1.l0, e1, e2, r0, r1, impl_areUnits_1.f, impl_isUnit_at a b (k + 2) (by omega), impl_isUnit_at c d (k + 1) (by omega), Option.bind_some]
  cases unitB a b <;> cases unitB c d <;> simp
theorem impl_isInterval_at (a b c d : Int) (k : Nat) (hk : 1000000010 < k) : impl_isInterval.f k a b c d = some (ivB a b c d) := by
  simp only [impl_isInterval.f, impl_areUnits_two a b c d k hk, Option.bind_some, ivB]
  cases h1 : unitB a b
  · simp
  · cases h2 : unitB c d
    · simp
    · rw [impl_less_at a b c d (unitB_iff.1 h1).1 (unitB_iff.1 h2).1]; simp

/-! raUnit -/
theorem spec_raUnit_at (n d : Int) (k : Nat) (hk : 1000000000 < k) : spec_raUnit.f k n d = some (unitB n d) := by
  simp only [spec_raUnit.f, spec_raGood_at n d k hk, spec_l1In_eq, Option.bind_some, unitB]
  cases goodB n d <;> simp

/-! cmpS -/
theorem spec_raCmp_at (a b c d : Int) (h : goodB a b = true) (h2 : goodB c d = true) : spec_raCmp.f a b c d = some (cmpR a b c d) := by
  obtain ⟨p1, p2, _⟩ := goodB_mul h h2
  simp only [spec_raCmp.f, spec_l1Sign.f, cmpR]
  rw [w64 (x := a * d) (by omega) (by omega), w64 (x := c * b) (by omega) (by omega), w64 (by omega) (by omega)]
  by_cases q : a * d < c * b
  · rw [if_neg (by omega), if_pos (by omega), if_pos q]; rfl
  · by_cases r : a * d > c * b
    · rw [if_pos (by omega), if_neg q, if_pos r]; rfl
    · rw [if_neg (by omega), if_neg (by omega), if_neg q, if_neg r]; rfl

/-! ivGood -/
theorem spec_ivGood_at (a b c d : Int) (k : Nat) (hk : 1000000010 < k) : spec_ivGood.f k a b c d = some (unitB a b && (unitB c d && decide (a * d < c * b))) := by
  simp only [spec_ivGood.f, spec_raUnit_at a b k (by omega), spec_raUnit_at c d k (by omega), Option.bind_some]
  cases h1 : unitB a b
  · simp
  · cases h2 : unitB c d
    · simp
    · rw [spec_raCmp_at a b c d (unitB_iff.1 h1).1 (unitB_iff.1 h2).1]
      simp only [if_true, Option.bind_some, Bool.true_and, cmpR]
      congr 2; rw [eq_iff_iff]; repeat' split <;> omega

/-! rdIv -/
theorem rdIv (xs : List S62) (i : Nat) (h : i < xs.length) : rd_T62 xs (i : Int) = xs[i] := by
  simp [rd_T62, List.getD_eq_getElem?_getD, List.getElem?_eq_getElem h]

/-! eqIntervalS -/
theorem laws_eqIntervalS_l (xs : List S62) (hn : xs.length ≤ 4611686018427387904) : ∀ (d i k : Nat), i + d = xs.length → d < k → laws_eqIntervalS.l0 k xs xs i = some true := by
  intro d
  induction d with
  | zero =>
    intro i k h1 h2
    obtain ⟨k, rfl⟩ : ∃ q, k = q + 1 := ⟨k - 1, by omega⟩
    simp only [laws_eqIntervalS.l0]; rw [if_neg (by omega)]
  | succ d ih =>
    intro i k h1 h2
    obtain ⟨k, rfl⟩ : ∃ q, k = q + 1 := ⟨k - 1, by omega⟩
    simp only [laws_eqIntervalS.l0, laws_eqInterval.f, laws_eqRat.f, if_true, Option.bind_some]
    rw [if_pos (by omega), if_pos (by omega), if_pos (by omega), w64 (by omega) (by omega), show (i : Int) + 1 = ((i + 1 : Nat) : Int) by omega, ih (i + 1) k (by omega) (by omega)]
theorem laws_eqIntervalS_at (xs : List S62) (k : Nat) (hn : xs.length ≤ 4611686018427387904) (hk : xs.length < k) : laws_eqIntervalS.f k xs xs = some true := by
  simp only [laws_eqIntervalS.f, if_true]
  exact laws_eqIntervalS_l xs hn xs.length 0 k (by omega) hk

/-! markIntervalS -/
/-- Four whole numbers a point, counted on. -/
def mkIvs : Nat → Int → List S62
  | 0, _ => []
  | n + 1, m => ⟨⟨m, m + 1⟩, ⟨m + 2, m + 3⟩⟩ :: mkIvs n (m + 4)
theorem mkIvs_len (n : Nat) : ∀ m, (mkIvs n m).length = n := by
  induction n with
  | zero => intro m; rfl
  | succ n ih => intro m; simp [mkIvs, ih]
theorem laws_markIntervalS_l : ∀ (b a : List S62) (k : Nat) (m : Int), 0 ≤ m → m + 4 * b.length ≤ 4611686018427387904 → (a.length : Int) + b.length ≤ 4611686018427387904 → b.length < k →
    laws_markIntervalS.l0 k (a ++ b) m a.length = some (m + 4 * (b.length : Int), a ++ mkIvs b.length m) := by
  intro b
  induction b with
  | nil =>
    intro a k m h0 h1 h2 h3
    obtain ⟨k, rfl⟩ : ∃ q, k = q + 1 := ⟨k - 1, by omega⟩
    simp [laws_markIntervalS.l0, mkIvs]
  | cons x b ih =>
    intro a k m h0 h1 h2 h3
    obtain ⟨k, rfl⟩ : ∃ q, k = q + 1 := ⟨k - 1, by omega⟩
    simp only [List.length_cons] at h1 h2 h3
    have rd0 : ∀ (y : S62), rd_T62 (a ++ y :: b) (a.length : Int) = y := fun y => by rw [rdIv _ _ (by simp)]; simp
    have st0 : ∀ (y z : S62), (a ++ y :: b).set ((a.length : Int)).toNat z = a ++ z :: b := fun y z => by simp [List.set_append]
    simp only [laws_markIntervalS.l0, Option.bind_some]
    rw [if_pos (by simp; omega), if_pos (by omega)]
    simp only [rd0, st0]
    rw [w64 (x := m + 1) (by omega) (by omega), w64 (x := m + 1 + 1) (by omega) (by omega), w64 (x := m + 1 + 1 + 1) (by omega) (by omega), w64 (x := m + 1 + 1 + 1 + 1) (by omega) (by omega), w64 (by omega) (by omega)]
    have e : a ++ (⟨⟨m, m + 1⟩, ⟨m + 1 + 1, m + 1 + 1 + 1⟩⟩ : S62) :: b = (a ++ [⟨⟨m, m + 1⟩, ⟨m + 1 + 1, m + 1 + 1 + 1⟩⟩]) ++ b := by simp
    rw [e, show (a.length : Int) + 1 = ((a ++ [(⟨⟨m, m + 1⟩, ⟨m + 1 + 1, m + 1 + 1 + 1⟩⟩ : S62)]).length : Int) by simp, ih _ k (m + 1 + 1 + 1 + 1) (by omega) (by omega) (by simp; omega) (by omega)]
    simp only [List.length_cons, mkIvs, List.append_assoc, List.cons_append, List.nil_append, show m + 1 + 1 = m + 2 by omega, show m + 2 + 1 = m + 3 by omega, show m + 3 + 1 = m + 4 by omega]
    congr 2; omega
theorem laws_markIntervalS_at (b : List S62) (k : Nat) (hn : b.length ≤ 1000000000) (hk : b.length < k) : laws_markIntervalS.f k b 1 = some (1 + 4 * (b.length : Int), mkIvs b.length 1) := by
  have := laws_markIntervalS_l b [] k 1 (by omega) (by omega) (by simp; omega) hk
  simpa [laws_markIntervalS.f] using this
theorem laws_heldIntervalS_l : ∀ (n : Nat) (a : List S62) (k : Nat) (m : Int), 0 ≤ m → m + 4 * n ≤ 4611686018427387904 → (a.length : Int) + n ≤ 4611686018427387904 → n < k →
    laws_heldIntervalS.l0 k (a ++ mkIvs n m) m a.length = some (m + 4 * (n : Int)) := by
  intro n
  induction n with
  | zero =>
    intro a k m h0 h1 h2 h3
    obtain ⟨k, rfl⟩ : ∃ q, k = q + 1 := ⟨k - 1, by omega⟩
    simp [laws_heldIntervalS.l0, mkIvs]
  | succ n ih =>
    intro a k m h0 h1 h2 h3
    obtain ⟨k, rfl⟩ : ∃ q, k = q + 1 := ⟨k - 1, by omega⟩
    have rd0 : rd_T62 (a ++ mkIvs (n + 1) m) (a.length : Int) = ⟨⟨m, m + 1⟩, ⟨m + 2, m + 3⟩⟩ := by rw [rdIv _ _ (by simp [mkIvs])]; simp [mkIvs]
    simp only [laws_heldIntervalS.l0, rd0]
    rw [if_pos (by rw [List.length_append, mkIvs_len]; omega), if_pos (by omega), if_pos True.intro, w64 (x := m + 1) (by omega) (by omega), if_pos rfl, w64 (x := m + 1 + 1) (by omega) (by omega), if_pos (by omega), w64 (x := m + 1 + 1 + 1) (by omega) (by omega), if_pos (by omega), w64 (x := m + 1 + 1 + 1 + 1) (by omega) (by omega), w64 (by omega) (by omega)]
    have e : a ++ mkIvs (n + 1) m = (a ++ [⟨⟨m, m + 1⟩, ⟨m + 2, m + 3⟩⟩]) ++ mkIvs n (m + 4) := by simp [mkIvs]
    rw [e, show (a.length : Int) + 1 = ((a ++ [(⟨⟨m, m + 1⟩, ⟨m + 2, m + 3⟩⟩ : S62)]).length : Int) by simp, show m + 1 + 1 + 1 + 1 = m + 4 by omega, ih _ k (m + 4) (by omega) (by omega) (by simp; omega) (by omega)]
    congr 1; omega
theorem laws_heldIntervalS_at (n k : Nat) (hn : n ≤ 1000000000) (hk : n < k) : laws_heldIntervalS.f k (mkIvs n 1) 1 = some (1 + 4 * (n : Int)) := by
  have := laws_heldIntervalS_l n [] k 1 (by omega) (by omega) (by simp; omega) hk
  simpa [laws_heldIntervalS.f] using this

end FnExactSplitInterval_
open FnExactSplitInterval_
theorem wf_bd {x : Int} (h : (Lit.int .i64 x).wf = true) : -9223372036854775808 ≤ x ∧ x ≤ 9223372036854775807 := by
  simpa [Lit.wf, IntKind.min, IntKind.max, IntKind.signed, IntKind.bits] using h
/-- Once too large, always too large. -/
theorem impl_split_bad (n : Int) (hn : n ≤ 8) (a b c d e f : Int) : ∀ (m : Nat) (i k : Nat) (acc : List S33), (i : Int) + m = n → acc.length ≤ i → 5000000000000000000 + m + 1 < k → 1 ≤ n →
    impl_SplitInterval.l0 k n acc n i a b c d true e f = some ([], false) := by
  intro m
  induction m with
  | zero =>
    intro i k acc h1 h2 h3 h4
    obtain ⟨k, rfl⟩ : ∃ q, k = q + 1 := ⟨k - 1, by omega⟩
    simp only [impl_SplitInterval.l0]; rw [if_neg (by omega)]; simp
  | succ m ih =>
    intro i k acc h1 h2 h3 h4
    obtain ⟨k, rfl⟩ : ∃ q, k = q + 1 := ⟨k - 1, by omega⟩
    simp only [impl_SplitInterval.l0]
    rw [if_pos (by omega), impl_lowest_at _ _ k (by omega) (by omega) (by omega) (by omega) (by omega) (by omega), Option.bind_some, impl_calc_keep_at, Option.bind_some, impl_calc_mul_at _ _ _ _ _ k (by omega), Option.bind_some, impl_calc_add_at _ _ _ _ _ k (by omega), Option.bind_some, if_pos (by omega), w64 (by omega) (by omega), show (i : Int) + 1 = ((i + 1 : Nat) : Int) by omega]
    have kt : ∀ x, (keepR true x).2.2 = true := fun x => by unfold keepR; split <;> rfl
    simp only [kt]
    exact ih (i + 1) k _ (by omega) (by simp; omega) (by omega) h4
theorem good_small {a : Int × Int × Bool} (h : ∃ n d, a = (n, d, true) ∧ goodB n d = true) : goodB a.1 a.2.1 = true ∧ a.2.2 = true := by
  obtain ⟨n, d, rfl, hg⟩ := h; exact ⟨hg, rfl⟩
theorem split_same (n : Int) (hn : n ≤ 8) (h1n : 1 ≤ n) (a b c d e f : Int) (ha : goodB a b = true) (he : goodB e f = true) : ∀ (m : Nat) (i k : Nat) (acc : List S33), (i : Int) + m = n → acc.length ≤ i → 5000000000000000000 + m + 1001 < k →
    ∃ r c2, r.length ≤ 1000 ∧ spec_SplitInterval.l0 k n acc i a b c d e f = some (r, c2) ∧ impl_SplitInterval.l0 k n acc n i a b c d false e f = some (r, c2) := by
  intro m
  induction m with
  | zero =>
    intro i k acc h1 h2 h3
    obtain ⟨k, rfl⟩ : ∃ q, k = q + 1 := ⟨k - 1, by omega⟩
    simp only [spec_SplitInterval.l0, impl_SplitInterval.l0]
    rw [if_neg (show ¬ ((i : Int) < n) by omega), if_neg (show ¬ ((i : Int) < n) by omega), if_pos (show acc.length < 8796093022208 by omega), if_neg (show ¬ (false = true) by simp), if_pos (show acc.length < 8796093022208 by omega), spec_ivBetween_at _ (by simp; omega) (by simp) k (by omega), impl_between_at _ (by simp; omega) (by simp) k (by omega)]
    exact ⟨_, _, by rw [betw_len]; simp; omega, rfl, rfl⟩
  | succ m ih =>
    intro i k acc h1 h2 h3
    obtain ⟨k, rfl⟩ : ∃ q, k = q + 1 := ⟨k - 1, by omega⟩
    simp only [spec_SplitInterval.l0, impl_SplitInterval.l0]
    obtain ⟨s1, s2, e1, g1, _⟩ := mk_ok (num := (i : Int)) (den := n) (by omega) (by omega) (by omega) (by omega)
    rw [if_pos (by omega), if_pos (by omega), impl_lowest_at _ _ k (by omega) (by omega) (by omega) (by omega) (by omega) (by omega), spec_raMake_at _ _ k (by omega) (by omega) (by omega) (by omega) (by omega) (by omega), Option.bind_some, Option.bind_some, e1, impl_calc_keep_at]
    simp only [Option.bind_some, keepR, if_true]
    rw [spec_raMul_at _ _ _ _ k he g1 (by omega), impl_calc_mul_at _ _ _ _ _ k (by omega), Option.bind_some, Option.bind_some]
    have hm : mulR e f s1 s2 = mk (e * s1) (f * s2) := by simp [mulR, he, g1]
    rcases mk_cases (e * s1) (f * s2) with ⟨u1, u2, e2, g2⟩ | e2
    · rw [hm, e2]
      simp only [keepR, if_true]
      rw [spec_raAdd_at _ _ _ _ k ha g2 (by omega), impl_calc_add_at _ _ _ _ _ k (by omega), Option.bind_some, Option.bind_some]
      have hm2 : addR a b u1 u2 = mk (a * u2 + u1 * b) (b * u2) := by simp [addR, ha, g2]
      rcases mk_cases (a * u2 + u1 * b) (b * u2) with ⟨v1, v2, e3, g3⟩ | e3
      · rw [hm2, e3]
        simp only [keepR, if_true]
        rw [if_pos (by omega), if_pos (by omega), w64 (by omega) (by omega), show (i : Int) + 1 = ((i + 1 : Nat) : Int) by omega]
        exact ih (i + 1) k _ (by omega) (by simp; omega) (by omega)
      · rw [hm2, e3]
        simp only [keepR, Bool.false_eq_true, if_false]
        rw [if_pos (by omega), w64 (by omega) (by omega), show (i : Int) + 1 = ((i + 1 : Nat) : Int) by omega, impl_split_bad n hn a b c d e f m (i + 1) k _ (by omega) (by simp; omega) (by omega) h1n]
        exact ⟨_, _, by simp, rfl, rfl⟩
    · rw [hm, e2]
      simp only [keepR, Bool.false_eq_true, if_false]
      rw [impl_calc_add_at _ _ _ _ _ k (by omega), Option.bind_some, if_pos (by omega), w64 (by omega) (by omega), show (i : Int) + 1 = ((i + 1 : Nat) : Int) by omega]
      have kt : ∀ x, (keepR true x).2.2 = true := fun x => by unfold keepR; split <;> rfl
      simp only [kt]
      rw [impl_split_bad n hn a b c d e f m (i + 1) k _ (by omega) (by simp; omega) (by omega) h1n]
      exact ⟨_, _, by simp, rfl, rfl⟩
theorem SplitInterval_at (a b c d n : Int) (ha : (Lit.int .i64 a).wf = true) (k : Nat) (hk : 5000000000000002000 < k) : ∃ r c2, r.length ≤ 1000 ∧ spec_SplitInterval.f k a b c d n = some (r, c2) ∧ impl_SplitInterval.f k a b c d n = some (r, c2) := by
  have hb := wf_bd ha
  have s1 := spec_ivGood_at a b c d k (by omega)
  have i1 := impl_isInterval_at a b c d k (by omega)
  rw [show (unitB a b && (unitB c d && decide (a * d < c * b))) = ivB a b c d from rfl] at s1
  simp only [spec_SplitInterval.f, impl_SplitInterval.f, s1, i1, Option.bind_some, spec_l1In_eq, impl_within_eq]
  obtain ⟨k, rfl⟩ : ∃ q, k = q + 1 := ⟨k - 1, by omega⟩
  by_cases hiv : ivB a b c d = true
  · rw [if_pos hiv, if_pos hiv]
    by_cases hn : 1 ≤ n ∧ n ≤ 8
    · obtain ⟨g1, g2, hlt⟩ : goodB a b = true ∧ goodB c d = true ∧ a * d < c * b := by simp [ivB, unitB] at hiv; exact ⟨hiv.1.1, hiv.2.1.1, hiv.2.2⟩
      have hs : subR c d a b = mk (c * b - a * d) (d * b) := by simp [subR, g1, g2]
      rw [decide_eq_true hn]
      simp only [Bool.not_true, spec_SplitInterval.j0, impl_SplitInterval.j0, Bool.false_eq_true, if_false]
      rw [spec_raSub_at c d a b k g2 g1 (by omega), impl_calc_sub_at _ c d a b k (by omega) hb.1 hb.2, Option.bind_some, Option.bind_some, hs]
      rcases mk_cases (c * b - a * d) (d * b) with ⟨u1, u2, e2, g⟩ | e2
      · rw [e2]; simp only [keepR, if_true]
        exact split_same n hn.2 hn.1 a b c d u1 u2 g1 g n.toNat 0 k [] (by omega) (by simp) (by omega)
      · rw [e2]; simp only [keepR, Bool.false_eq_true, if_false]
        have := impl_split_bad n hn.2 a b c d 0 1 n.toNat 0 k [] (by omega) (by simp) (by omega) hn.1
        rw [show (0 : Int) = ((0 : Nat) : Int) by rfl] at this ⊢
        exact ⟨[], false, by simp, rfl, this⟩
    · rw [decide_eq_false hn]; simp [spec_SplitInterval.j0, impl_SplitInterval.j0]
  · rw [if_neg hiv, if_neg hiv]; simp [spec_SplitInterval.j0, impl_SplitInterval.j0]
theorem SplitInterval_same (a b c d n : Int) (ha : (Lit.int .i64 a).wf = true) : ∃ r c2, r.length ≤ 1000 ∧ ∀ k, 5000000000000002000 < k → spec_SplitInterval.f k a b c d n = some (r, c2) ∧ impl_SplitInterval.f k a b c d n = some (r, c2) := by
  obtain ⟨r, c2, hr, h1, h2⟩ := SplitInterval_at a b c d n ha 5000000000000002001 (by omega)
  exact ⟨r, c2, hr, fun k hk => ⟨at_rounds (spec_SplitInterval.mono a b c d n) (by omega) h1, at_rounds (impl_SplitInterval.mono a b c d n) (by omega) h2⟩⟩
theorem FnExactSplitInterval : laws_FnExactSplitInterval.Pure := by
  intro a b c d n ha _ _ _ _
  refine ⟨6000000000000000000, ?_⟩
  obtain ⟨r, c2, hr, hk⟩ := SplitInterval_same a b c d n ha
  have s := fun k (h : 5000000000000002000 < k) => (hk k h).1
  have i := fun k (h : 5000000000000002000 < k) => (hk k h).2
  have m := fun k (h : 5000000000000002000 < k) => laws_markIntervalS_at r k (by omega) (by omega)
  have q := fun k (h : 5000000000000002000 < k) => laws_heldIntervalS_at r.length k (by omega) (by omega)
  have z := fun k (h : 5000000000000002000 < k) => laws_eqIntervalS_at r k (by omega) (by omega)
  have p : ¬ (1 + 4 * (r.length : Int) < 0) := by omega
  simp only [laws_FnExactSplitInterval.f, laws_FnExactSplitInterval.j0, laws_FnExactSplitInterval.j1, laws_toInterval.f, laws_toRat.f, s 6000000000000000000 (by omega), i 6000000000000000000 (by omega), i 5999999999999999999 (by omega), m 5999999999999999999 (by omega), q 5999999999999999999 (by omega), q 5999999999999999998 (by omega), z 6000000000000000000 (by omega), z 5999999999999999999 (by omega), Option.bind_some, p, bne_self_eq_false, if_true, if_false, Bool.false_eq_true]

end Go.Proofs.Ytmpccnagidednaa.Pure
