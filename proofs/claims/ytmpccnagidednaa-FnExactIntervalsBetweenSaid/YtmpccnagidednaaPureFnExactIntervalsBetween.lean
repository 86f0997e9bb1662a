/- The program's IntervalsBetween returns what the reference's returns, for all arguments. -/
import Derived.Test.YtmpccnagidednaaPFnExactIntervalsBetweenx7
import Derived.Test.YtmpccnagidednaaMathMap
import Derived.Test.YtmpccnagidednaaMathRat
import Derived.Test.YtmpccnagidednaaMathMarks
namespace Go.Proofs.Ytmpccnagidednaa.Pure
open Go.RowKit Go.Proofs.Ytmpccnagidednaa.PFnExactIntervalsBetween Go.Proofs.YtmpccnagidednaaW.PrintWords Go.Proofs.YtmpccnagidednaaW.PrintLast Go.Proofs.YtmpccnagidednaaW.PrintMore Go.Proofs.Ytmpccnagidednaa.Math
set_option linter.unusedVariables false
set_option linter.unusedSimpArgs false
namespace FnExactIntervalsBetween_
/-! wrap -/
theorem w64 {x : Int} (h1 : -9223372036854775808 ≤ x) (h2 : x ≤ 9223372036854775807) : wrap64 x = x := by unfold wrap64; omega

/-! rdRt -/
theorem rdRt (xs : List S33) (i : Nat) (h : i < xs.length) : rd_T33 xs (i : Int) = xs[i] := by
  simp [rd_T33, List.getD_eq_getElem?_getD, List.getElem?_eq_getElem h]
def rt (x : S33) : Int × Int := (x.f0, x.f1)

/-! between -/
/-- The intervals between neighbours. -/
def betw : List S33 → List S62
  | a :: b :: l => ⟨a, b⟩ :: betw (b :: l)
  | _ => []
theorem betw_len : ∀ l, (betw l).length = l.length - 1
  | [] => rfl
  | [_] => rfl
  | a :: b :: l => by rw [betw, List.length_cons, betw_len (b :: l)]; simp
theorem spec_ivBetween_l (l : List S33) (hn : l.length ≤ 1000) : ∀ (d i k : Nat) (acc : List S62), i + 1 + d = l.length → acc.length ≤ i → d < k →
    spec_ivBetween.l0 k l acc ((i + 1 : Nat) : Int) = some (acc ++ betw (l.drop i)) := by
  intro d
  induction d with
  | zero =>
    intro i k acc h1 h2 h3
    obtain ⟨k, rfl⟩ : ∃ q, k = q + 1 := ⟨k - 1, by omega⟩
    simp only [spec_ivBetween.l0]; rw [if_neg (by omega), List.drop_eq_getElem_cons (show i < l.length by omega), List.drop_eq_nil_of_le (by omega)]; simp [betw]
  | succ d ih =>
    intro i k acc h1 h2 h3
    obtain ⟨k, rfl⟩ : ∃ q, k = q + 1 := ⟨k - 1, by omega⟩
    simp only [spec_ivBetween.l0]
    rw [if_pos (by omega), w64 (x := ((i + 1 : Nat) : Int) - 1) (by omega) (by omega), if_pos (by omega), if_pos (by omega), if_pos (by omega), show ((i + 1 : Nat) : Int) - 1 = ((i : Nat) : Int) by omega, rdRt l i (by omega), rdRt l (i + 1) (by omega), if_pos (by omega), w64 (by omega) (by omega), show ((i + 1 : Nat) : Int) + 1 = ((i + 1 + 1 : Nat) : Int) by omega, ih (i + 1) k _ (by omega) (by simp; omega) (by omega), List.drop_eq_getElem_cons (show i < l.length by omega), List.drop_eq_getElem_cons (show i + 1 < l.length by omega)]
    simp only [betw, List.append_assoc, List.cons_append, List.nil_append]
theorem spec_ivBetween_at (l : List S33) (hn : l.length ≤ 1000) (h0 : 1 ≤ l.length) (k : Nat) (hk : 1000 < k) : spec_ivBetween.f k l = some (betw l) := by
  have := spec_ivBetween_l l hn (l.length - 1) 0 k [] (by omega) (by simp) (by omega)
  simpa [spec_ivBetween.f] using this
theorem impl_between_l (l : List S33) (hn : l.length ≤ 1000) : ∀ (d i k : Nat) (acc : List S62), i + 1 + d = l.length → acc.length ≤ i → d < k →
    impl_between.l0 k l acc ((i + 1 : Nat) : Int) = some (acc ++ betw (l.drop i)) := by
  intro d
  induction d with
  | zero =>
    intro i k acc h1 h2 h3
    obtain ⟨k, rfl⟩ : ∃ q, k = q + 1 := ⟨k - 1, by omega⟩
    simp only [impl_between.l0]; rw [if_neg (by omega), List.drop_eq_getElem_cons (show i < l.length by omega), List.drop_eq_nil_of_le (by omega)]; simp [betw]
  | succ d ih =>
    intro i k acc h1 h2 h3
    obtain ⟨k, rfl⟩ : ∃ q, k = q + 1 := ⟨k - 1, by omega⟩
    simp only [impl_between.l0]
    rw [if_pos (by omega), w64 (x := ((i + 1 : Nat) : Int) - 1) (by omega) (by omega), if_pos (by omega), if_pos (by omega), if_pos (by omega), show ((i + 1 : Nat) : Int) - 1 = ((i : Nat) : Int) by omega, rdRt l i (by omega), rdRt l (i + 1) (by omega), if_pos (by omega), w64 (by omega) (by omega), show ((i + 1 : Nat) : Int) + 1 = ((i + 1 + 1 : Nat) : Int) by omega, ih (i + 1) k _ (by omega) (by simp; omega) (by omega), List.drop_eq_getElem_cons (show i < l.length by omega), List.drop_eq_getElem_cons (show i + 1 < l.length by omega)]
    simp only [betw, List.append_assoc, List.cons_append, List.nil_append]
theorem impl_between_at (l : List S33) (hn : l.length ≤ 1000) (h0 : 1 ≤ l.length) (k : Nat) (hk : 1000 < k) : impl_between.f k l = some (betw l) := by
  have := impl_between_l l hn (l.length - 1) 0 k [] (by omega) (by simp) (by omega)
  simpa [impl_between.f] using this

/-! gcdI -/
theorem impl_gcd_l (b : Nat) : ∀ (a k : Nat), b < k → impl_greatestDivisor.l0 k (a : Int) (b : Int) = some ((Nat.gcd a b : Nat) : Int) := by
  induction b using Nat.strongRecOn with
  | _ b ih =>
    intro a k hk
    obtain ⟨k, rfl⟩ : ∃ m, k = m + 1 := ⟨k - 1, by omega⟩
    simp only [impl_greatestDivisor.l0]
    by_cases h : b = 0
    · subst h; simp
    · rw [if_neg (by omega), Int.tmod_eq_emod_of_nonneg (by omega), show (a : Int) % (b : Int) = ((a % b : Nat) : Int) by omega, ih (a % b) (Nat.mod_lt _ (by omega)) b k (by have := Nat.mod_lt a (show b > 0 by omega); omega)]
      rw [Nat.gcd_comm a b, Nat.gcd_rec b a, Nat.gcd_comm]
theorem impl_abs_at (a : Int) (h : -9000000000000000000 ≤ a) : impl_abs.f a = some ((a.natAbs : Nat) : Int) := by
  unfold impl_abs.f
  by_cases h0 : a < 0
  · rw [if_pos h0]
    by_cases h1 : -a ≤ 9223372036854775807
    · rw [w64 (by omega) h1]; congr 1; omega
    · omega
  · rw [if_neg h0]; congr 1; omega
theorem impl_gcd_at (a b : Int) (k : Nat) (ha : -9000000000000000000 ≤ a) (hb : -9000000000000000000 ≤ b) (hk : b.natAbs < k) : impl_greatestDivisor.f k a b = some ((Int.gcd a b : Nat) : Int) := by
  simp only [impl_greatestDivisor.f, impl_abs_at a ha, impl_abs_at b hb, Option.bind_some, impl_gcd_l b.natAbs a.natAbs k hk]; rfl

/-! within -/
theorem impl_within_eq (a b c : Int) : impl_within.f a b c = some (decide (b ≤ a ∧ a ≤ c)) := by
  unfold impl_within.f; split <;> simp <;> omega

/-! isRat -/
theorem impl_isRat_at (n d : Int) (k : Nat) (hk : 1000000000 < k) : impl_isRat.f k n d = some (goodB n d) := by
  simp only [impl_isRat.f, impl_within_eq, Option.bind_some, goodB]
  by_cases h : 1 ≤ d ∧ d ≤ 1000000000
  · by_cases h2 : -1000000000 ≤ n ∧ n ≤ 1000000000
    · rw [decide_eq_true h, decide_eq_true h2, impl_gcd_at n d k (by omega) (by omega) (by omega)]
      simp only [if_true, Option.bind_some]; congr 1; rw [Bool.eq_iff_iff]; simp [h, h2]; omega
    · rw [decide_eq_true h, decide_eq_false h2]; simp only [if_true, Bool.false_eq_true, if_false]; congr 1; symm; apply decide_eq_false; omega
  · rw [decide_eq_false h]; simp only [Bool.false_eq_true, if_false]; congr 1; symm; apply decide_eq_false; omega

/-! isUnit -/
theorem impl_isUnit_at (n d : Int) (k : Nat) (hk : 1000000000 < k) : impl_isUnit.f k n d = some (unitB n d) := by
  simp only [impl_isUnit.f, impl_isRat_at n d k hk, Option.bind_some, unitB]
  cases goodB n d
  · simp
  · by_cases h : n ≥ 0 <;> simp [h]

/-! anyS(I=slices_IndexFunc__impl_areUnits_1;C=slices_ContainsFunc__impl_areUnits_1;S=S33;RD=rdRt;PRED=impl_areUnits_1.f k e.f0 e.f1) -/
/-- ContainsFunc over structs, the predicate with rounds. -/
theorem slices_IndexFunc__impl_areUnits_1_l (P : S33 → Bool) (xs : List S33) (K : Nat) (hP : ∀ e, e ∈ xs → ∀ k, K < k → impl_areUnits_1.f k e.f0 e.f1 = some (P e)) (hn : xs.length ≤ 4611686018427387904) : ∀ (d i k : Nat), i + d = xs.length → K + d + 1 < k →
    ∃ r : Int, slices_IndexFunc__impl_areUnits_1.l0 k xs xs.length i = some r ∧ (decide (r ≥ 0)) = (xs.drop i).any P := by
  intro d
  induction d with
  | zero =>
    intro i k h1 h2
    obtain ⟨k, rfl⟩ : ∃ q, k = q + 1 := ⟨k - 1, by omega⟩
    refine ⟨-1, ?_, ?_⟩
    · simp only [slices_IndexFunc__impl_areUnits_1.l0]; rw [if_neg (by omega)]
    · rw [List.drop_eq_nil_of_le (by omega)]; rfl
  | succ d ih =>
    intro i k h1 h2
    obtain ⟨k, rfl⟩ : ∃ q, k = q + 1 := ⟨k - 1, by omega⟩
    simp only [slices_IndexFunc__impl_areUnits_1.l0]
    have a2 := hP (xs[i]'(by omega)) (List.getElem_mem _) k (by omega)
    rw [if_pos (by omega), if_pos (by omega), if_pos (by omega), rdRt xs i (by omega), a2, Option.bind_some, List.drop_eq_getElem_cons (show i < xs.length by omega), List.any_cons]
    by_cases h : P (xs[i]'(by omega)) = true
    · exact ⟨i, by rw [if_pos h], by rw [h]; simp⟩
    · obtain ⟨r, hr, h3⟩ := ih (i + 1) k (by omega) (by omega)
      refine ⟨r, ?_, ?_⟩
      · rw [if_neg h, w64 (by omega) (by omega), show (i : Int) + 1 = ((i + 1 : Nat) : Int) by omega]; exact hr
      · rw [h3]; simp [h]
theorem slices_ContainsFunc__impl_areUnits_1_at (P : S33 → Bool) (xs : List S33) (K k : Nat) (hP : ∀ e, e ∈ xs → ∀ k, K < k → impl_areUnits_1.f k e.f0 e.f1 = some (P e)) (hn : xs.length ≤ 4611686018427387904) (hk : K + xs.length + 1 < k) : slices_ContainsFunc__impl_areUnits_1.f k xs = some (xs.any P) := by
  obtain ⟨r, h1, h2⟩ := slices_IndexFunc__impl_areUnits_1_l P xs K hP hn xs.length 0 k (by omega) hk
  simp only [slices_ContainsFunc__impl_areUnits_1.f, slices_IndexFunc__impl_areUnits_1.f]
  rw [show (0 : Int) = ((0 : Nat) : Int) by rfl, h1, Option.bind_some]
  simp only [List.drop_zero] at h2; rw [← h2]; rfl

/-! unitsL -/
theorem impl_areUnits_at (l : List S33) (k : Nat) (hn : l.length ≤ 1000) (hk : 1000002000 < k) : impl_areUnits.f k l = some (l.all fun x => unitB x.f0 x.f1) := by
  simp only [impl_areUnits.f]
  rw [slices_ContainsFunc__impl_areUnits_1_at (fun x => !(unitB x.f0 x.f1)) l 1000000000 k (fun e _ k hk => by simp only [impl_areUnits_1.f, impl_isUnit_at _ _ k hk, Option.bind_some]) (by omega) (by omega), Option.bind_some]
  congr 1
  rw [Bool.eq_iff_iff, Bool.not_eq_true', List.any_eq_false, List.all_eq_true]; simp

/-! cmpI -/
theorem impl_compare_at (a b c d : Int) (h : goodB a b = true) (h2 : goodB c d = true) : impl_compare.f a b c d = some (cmpR a b c d) := by
  obtain ⟨p1, p2, _⟩ := goodB_mul h h2
  simp only [impl_compare.f, cmpR]
  rw [w64 (by omega) (by omega), w64 (by omega) (by omega)]
  by_cases q : a * d < c * b
  · rw [if_pos q, if_pos q]
  · rw [if_neg q, if_neg q]; split <;> rfl
theorem impl_less_at (a b c d : Int) (h : goodB a b = true) (h2 : goodB c d = true) : impl_less.f a b c d = some (decide (a * d < c * b)) := by
  simp only [impl_less.f, impl_compare_at a b c d h h2, Option.bind_some, cmpR]
  congr 2; rw [eq_iff_iff]; repeat' split <;> omega

/-! isRising -/
theorem impl_isRising_l (xs : List S33) (hn : xs.length ≤ 1000) (hg : ∀ x ∈ xs, goodB x.f0 x.f1 = true) : ∀ (d i k : Nat), i + 1 + d = xs.length → d < k →
    impl_isRising.l0 k xs ((i + 1 : Nat) : Int) = some (risB ((xs.drop i).map rt)) := by
  intro d
  induction d with
  | zero =>
    intro i k h1 h3
    obtain ⟨k, rfl⟩ : ∃ q, k = q + 1 := ⟨k - 1, by omega⟩
    simp only [impl_isRising.l0]; rw [if_neg (by omega), List.drop_eq_getElem_cons (show i < xs.length by omega), List.drop_eq_nil_of_le (by omega)]; rfl
  | succ d ih =>
    intro i k h1 h3
    obtain ⟨k, rfl⟩ : ∃ q, k = q + 1 := ⟨k - 1, by omega⟩
    simp only [impl_isRising.l0]
    rw [if_pos (by omega), w64 (x := ((i + 1 : Nat) : Int) - 1) (by omega) (by omega), if_pos (by omega), if_pos (by omega), if_pos (by omega), show ((i + 1 : Nat) : Int) - 1 = ((i : Nat) : Int) by omega, rdRt xs i (by omega), rdRt xs (i + 1) (by omega),
      impl_less_at _ _ _ _ (hg _ (List.getElem_mem _)) (hg _ (List.getElem_mem _)), Option.bind_some, w64 (by omega) (by omega), show ((i + 1 : Nat) : Int) + 1 = ((i + 1 + 1 : Nat) : Int) by omega, ih (i + 1) k (by omega) (by omega),
      List.drop_eq_getElem_cons (show i < xs.length by omega), List.drop_eq_getElem_cons (show i + 1 < xs.length by omega)]
    simp only [List.map_cons, risB, rt]
    by_cases h : (xs[i]).f0 * (xs[i + 1]).f1 < (xs[i + 1]).f0 * (xs[i]).f1
    · rw [decide_eq_true h, if_pos rfl, Bool.true_and]
    · rw [decide_eq_false h, if_neg (by simp), Bool.false_and]

/-! gcdS -/
theorem spec_gcd_l (b : Nat) : ∀ (a k : Nat), b < k → spec_raCommon.l0 k (a : Int) (b : Int) = some ((Nat.gcd a b : Nat) : Int) := by
  induction b using Nat.strongRecOn with
  | _ b ih =>
    intro a k hk
    obtain ⟨k, rfl⟩ : ∃ m, k = m + 1 := ⟨k - 1, by omega⟩
    simp only [spec_raCommon.l0]
    by_cases h : b = 0
    · subst h; simp
    · rw [if_pos (by omega), if_neg (by omega), Int.tmod_eq_emod_of_nonneg (by omega), show (a : Int) % (b : Int) = ((a % b : Nat) : Int) by omega, ih (a % b) (Nat.mod_lt _ (by omega)) b k (by have := Nat.mod_lt a (show b > 0 by omega); omega)]
      rw [Nat.gcd_comm a b, Nat.gcd_rec b a, Nat.gcd_comm]
theorem spec_l1Abs_at (a : Int) (h : -9000000000000000000 ≤ a) (h2 : a ≤ 9000000000000000000) : spec_l1Abs.f a = some ((a.natAbs : Nat) : Int) := by
  simp only [spec_l1Abs.f, spec_l1Most.f]
  rw [w64 (by omega) (by omega)]
  by_cases h0 : a > -a
  · rw [if_pos h0, Option.bind_some]; congr 1; omega
  · rw [if_neg h0, Option.bind_some]; congr 1; omega
theorem spec_gcd_at (a b : Nat) (k : Nat) (hk : b < k) : spec_raCommon.f k (a : Int) (b : Int) = some ((Nat.gcd a b : Nat) : Int) := by
  simp only [spec_raCommon.f]; exact spec_gcd_l b a k hk

/-! l1In -/
theorem spec_l1In_eq (a b c : Int) : spec_l1In.f a b c = some (decide (b ≤ a ∧ a ≤ c)) := by
  unfold spec_l1In.f; split <;> simp <;> omega

/-! raGood -/
theorem spec_raGood_at (n d : Int) (k : Nat) (hk : 1000000000 < k) : spec_raGood.f k n d = some (goodB n d) := by
  simp only [spec_raGood.f, spec_l1In_eq, Option.bind_some, goodB]
  by_cases h : 1 ≤ d ∧ d ≤ 1000000000
  · by_cases h2 : -1000000000 ≤ n ∧ n ≤ 1000000000
    · have e : d = ((d.natAbs : Nat) : Int) := by omega
      rw [decide_eq_true h, decide_eq_true h2, spec_l1Abs_at n (by omega) (by omega)]
      simp only [if_true, Option.bind_some]
      rw [show spec_raCommon.f k ((n.natAbs : Nat) : Int) d = some ((Nat.gcd n.natAbs d.natAbs : Nat) : Int) by
        have := spec_gcd_at n.natAbs d.natAbs k (by omega)
        rwa [← e] at this, Option.bind_some]
      congr 1; rw [Bool.eq_iff_iff]; simp [h, h2, Int.gcd]; omega
    · rw [decide_eq_true h, decide_eq_false h2]; simp only [if_true, Bool.false_eq_true, if_false]; congr 1; symm; apply decide_eq_false; omega
  · rw [decide_eq_false h]; simp only [Bool.false_eq_true, if_false]; congr 1; symm; apply decide_eq_false; omega

/-! raUnit -/
theorem spec_raUnit_at (n d : Int) (k : Nat) (hk : 1000000000 < k) : spec_raUnit.f k n d = some (unitB n d) := by
  simp only [spec_raUnit.f, spec_raGood_at n d k hk, spec_l1In_eq, Option.bind_some, unitB]
  cases goodB n d <;> simp

/-! cmpS -/
theorem spec_raCmp_at (a b c d : Int) (h : goodB a b = true) (h2 : goodB c d = true) : spec_raCmp.f a b c d = some (cmpR a b c d) := by
  obtain ⟨p1, p2, _⟩ := goodB_mul h h2
  simp only [spec_raCmp.f, spec_l1Sign.f, cmpR]
  rw [w64 (x := a * d) (by omega) (by omega), w64 (x := c * b) (by omega) (by omega), w64 (by omega) (by omega)]
  by_cases q : a * d < c * b
  · rw [if_neg (by omega), if_pos (by omega), if_pos q]; rfl
  · by_cases r : a * d > c * b
    · rw [if_pos (by omega), if_neg q, if_pos r]; rfl
    · rw [if_neg (by omega), if_neg (by omega), if_neg q, if_neg r]; rfl

/-! ivRising -/
/-- Fractions from one on, the one ahead of them told. -/
def chkR : Option (Int × Int) → List (Int × Int) → Bool
  | _, [] => true
  | none, p :: r => unitB p.1 p.2 && chkR (some p) r
  | some o, p :: r => unitB p.1 p.2 && (decide (o.1 * p.2 < p.1 * o.2) && chkR (some p) r)
theorem chkR_some (o : Int × Int) : ∀ l, chkR (some o) l = ((l.all fun p => unitB p.1 p.2) && risB (o :: l))
  | [] => by simp [chkR, risB]
  | p :: r => by
    rw [chkR, chkR_some p r, risB, List.all_cons]
    cases unitB p.1 p.2 <;> cases (r.all fun p => unitB p.1 p.2) <;> (first | (simp; done) | (simp; rfl))
theorem chkR_none : ∀ l, chkR none l = ((l.all fun p => unitB p.1 p.2) && risB l)
  | [] => by simp [chkR, risB]
  | p :: r => by rw [chkR, chkR_some p r, List.all_cons, Bool.and_assoc]
theorem spec_ivRising_l (l : List S33) (hn : l.length ≤ 1000) : ∀ (d i k : Nat) (h : i + 1 + d = l.length), 1000000000 + d + 1 < k → unitB (l[i]'(by omega)).f0 (l[i]'(by omega)).f1 = true →
    spec_ivRising.l0 k l l l.length ((i + 1 : Nat) : Int) = some (chkR (some (rt (l[i]'(by omega)))) ((l.drop (i + 1)).map rt)) := by
  intro d
  induction d with
  | zero =>
    intro i k h1 h3 h4
    obtain ⟨k, rfl⟩ : ∃ q, k = q + 1 := ⟨k - 1, by omega⟩
    simp only [spec_ivRising.l0]; rw [if_neg (by omega), List.drop_eq_nil_of_le (by omega)]; simp [chkR]
  | succ d ih =>
    intro i k h1 h3 h4
    obtain ⟨k, rfl⟩ : ∃ q, k = q + 1 := ⟨k - 1, by omega⟩
    simp only [spec_ivRising.l0]
    rw [if_pos (by omega), if_pos (by omega), if_pos (by omega), rdRt l (i + 1) (by omega), spec_raUnit_at _ _ k (by omega), Option.bind_some, List.drop_eq_getElem_cons (show i + 1 < l.length by omega), List.map_cons, chkR]
    by_cases c1 : unitB (l[i + 1]).f0 (l[i + 1]).f1 = true
    · rw [if_pos c1, if_pos (show ((i + 1 : Nat) : Int) > 0 by omega), w64 (x := ((i + 1 : Nat) : Int) - 1) (by omega) (by omega), if_pos (by omega), if_pos (by omega), show ((i + 1 : Nat) : Int) - 1 = ((i : Nat) : Int) by omega, rdRt l i (by omega), spec_raCmp_at _ _ _ _ (unitB_iff.1 h4).1 (unitB_iff.1 c1).1, Option.bind_some]
      have z : (cmpR (l[i]'(by omega)).f0 (l[i]'(by omega)).f1 (l[i + 1]).f0 (l[i + 1]).f1 ≥ 0) ↔ ¬ ((l[i]'(by omega)).f0 * (l[i + 1]).f1 < (l[i + 1]).f0 * (l[i]'(by omega)).f1) := by
        unfold cmpR; repeat' split <;> omega
      have e : (rt (l[i]'(by omega))).1 * (rt (l[i + 1])).2 < (rt (l[i + 1])).1 * (rt (l[i]'(by omega))).2 ↔ ((l[i]'(by omega)).f0 * (l[i + 1]).f1 < (l[i + 1]).f0 * (l[i]'(by omega)).f1) := Iff.rfl
      have e1 : unitB (rt (l[i + 1])).1 (rt (l[i + 1])).2 = true := c1
      rw [e1, Bool.true_and]
      by_cases s : ((l[i]'(by omega)).f0 * (l[i + 1]).f1 < (l[i + 1]).f0 * (l[i]'(by omega)).f1)
      · rw [if_neg (fun h => z.1 h s), decide_eq_true (e.2 s), Bool.true_and, w64 (by omega) (by omega), show ((i + 1 : Nat) : Int) + 1 = ((i + 1 + 1 : Nat) : Int) by omega]
        exact ih (i + 1) k (by omega) (by omega) c1
      · rw [if_pos (z.2 s), decide_eq_false (fun h => s (e.1 h))]; rfl
    · have e1 : unitB (rt (l[i + 1])).1 (rt (l[i + 1])).2 = false := Bool.eq_false_iff.2 c1
      rw [if_neg c1, e1]; rfl
theorem spec_ivRising_at (l : List S33) (hn : l.length ≤ 1000) (h0 : 1 ≤ l.length) (k : Nat) (hk : 1000002000 < k) : spec_ivRising.f k l = some ((l.all fun x => unitB x.f0 x.f1) && risB (l.map rt)) := by
  obtain ⟨k, rfl⟩ : ∃ q, k = q + 1 := ⟨k - 1, by omega⟩
  have ed : l = l[0]'(by omega) :: l.drop 1 := by
    conv => lhs; rw [← List.drop_zero (l := l), List.drop_eq_getElem_cons (show 0 < l.length by omega)]
  have key : spec_ivRising.l0 (k + 1) l l l.length 0 = some (chkR none (l.map rt)) := by
    simp only [spec_ivRising.l0]
    have e0 : rd_T33 l 0 = l[0] := rdRt l 0 (by omega)
    have em : l.map rt = rt (l[0]'(by omega)) :: (l.drop 1).map rt := by conv => lhs; rw [ed, List.map_cons]
    rw [if_pos (show (0 : Int) < (l.length : Int) by omega), if_pos (show (0 : Int) ≤ 0 by omega), if_pos (show (0 : Int) < (l.length : Int) by omega), e0, spec_raUnit_at _ _ k (by omega), Option.bind_some, em, chkR]
    by_cases c1 : unitB (l[0]).f0 (l[0]).f1 = true
    · have e1 : unitB (rt (l[0])).1 (rt (l[0])).2 = true := c1
      rw [if_pos c1, if_neg (show ¬ (0 : Int) > 0 by omega), w64 (by omega) (by omega), e1, Bool.true_and, show (0 : Int) + 1 = ((0 + 1 : Nat) : Int) by rfl]
      exact spec_ivRising_l l hn (l.length - 1) 0 k (by omega) (by omega) c1
    · have e1 : unitB (rt (l[0])).1 (rt (l[0])).2 = false := Bool.eq_false_iff.2 c1
      rw [if_neg c1, e1]; rfl
  simp only [spec_ivRising.f]; rw [key, chkR_none, List.all_map]; rfl

/-! toRatS -/
/-- A law's point, as the program's. -/
def cvR (x : S29) : S33 := ⟨x.f0, x.f1⟩
theorem rdLr (xs : List S29) (i : Nat) (h : i < xs.length) : rd_T29 xs (i : Int) = xs[i] := by
  simp [rd_T29, List.getD_eq_getElem?_getD, List.getElem?_eq_getElem h]
theorem laws_toRatS_l : ∀ (b a : List S29) (k : Nat), (a.length : Int) + b.length ≤ 4611686018427387904 → b.length < k → ∀ xs, xs = a ++ b →
    laws_toRatS.l0 k xs (a.map cvR ++ List.replicate b.length z33) a.length = some (xs.map cvR) := by
  intro b
  induction b with
  | nil =>
    intro a k h1 h2 xs hx
    obtain ⟨k, rfl⟩ : ∃ q, k = q + 1 := ⟨k - 1, by omega⟩
    subst hx
    simp [laws_toRatS.l0]
  | cons x b ih =>
    intro a k h1 h2 xs hx
    obtain ⟨k, rfl⟩ : ∃ q, k = q + 1 := ⟨k - 1, by omega⟩
    simp only [List.length_cons] at h1 h2
    have hl : xs.length = a.length + b.length + 1 := by rw [hx]; simp; omega
    simp only [laws_toRatS.l0, laws_toRat.f, Option.bind_some]
    have a1 : rd_T29 xs (a.length : Int) = x := by rw [rdLr xs a.length (by omega)]; subst hx; simp
    rw [if_pos (by omega), if_pos (by omega), if_pos (by simp; omega), w64 (by omega) (by omega), a1]
    have e : (a.map cvR ++ List.replicate (x :: b).length z33).set (a.length : Int).toNat (⟨x.f0, x.f1⟩) = (a ++ [x]).map cvR ++ List.replicate b.length z33 := by
      simp [List.set_append, List.replicate_succ, cvR]
    rw [e, show (a.length : Int) + 1 = ((a ++ [x]).length : Int) by simp]
    exact ih (a ++ [x]) k (by simp; omega) (by omega) xs (by rw [hx]; simp)
theorem laws_toRatS_at (xs : List S29) (k : Nat) (hn : xs.length ≤ 17592186044416) (hk : xs.length < k) : laws_toRatS.f k xs = some (xs.map cvR) := by
  simp only [laws_toRatS.f]
  rw [if_pos (by omega), if_pos (by simpa using hn), Int.toNat_natCast]
  have := laws_toRatS_l xs [] k (by simp; omega) hk xs (by simp)
  simpa using this
theorem laws_szRatS_at (xs : List S29) (a : Int) (hn : xs.length ≤ 17592186044416) (h1 : 0 ≤ a) (h2 : a ≤ 1048576) : laws_szRatS.f xs a = some (if (xs.length : Int) ≤ a then a - xs.length else -1) := by
  simp only [laws_szRatS.f]
  rw [w64 (by omega) (by omega)]
  by_cases h : (xs.length : Int) ≤ a
  · rw [if_neg (by omega), if_pos h]
  · rw [if_pos (by omega), if_neg h]

/-! eqRatS -/
theorem laws_eqRatS_l (xs : List S33) (hn : xs.length ≤ 4611686018427387904) : ∀ (d i k : Nat), i + d = xs.length → d < k → laws_eqRatS.l0 k xs xs i = some true := by
  intro d
  induction d with
  | zero =>
    intro i k h1 h2
    obtain ⟨k, rfl⟩ : ∃ q, k = q + 1 := ⟨k - 1, by omega⟩
    simp only [laws_eqRatS.l0]; rw [if_neg (by omega)]
  | succ d ih =>
    intro i k h1 h2
    obtain ⟨k, rfl⟩ : ∃ q, k = q + 1 := ⟨k - 1, by omega⟩
    simp only [laws_eqRatS.l0, laws_eqRat.f, if_true, Option.bind_some]
    rw [if_pos (by omega), if_pos (by omega), if_pos (by omega), w64 (by omega) (by omega), show (i : Int) + 1 = ((i + 1 : Nat) : Int) by omega, ih (i + 1) k (by omega) (by omega)]
theorem laws_eqRatS_at (xs : List S33) (k : Nat) (hn : xs.length ≤ 4611686018427387904) (hk : xs.length < k) : laws_eqRatS.f k xs xs = some true := by
  simp only [laws_eqRatS.f, if_true]
  exact laws_eqRatS_l xs hn xs.length 0 k (by omega) hk

/-! markRatS -/
/-- Two whole numbers a fraction, counted on. -/
def mkRts : Nat → Int → List S33
  | 0, _ => []
  | n + 1, m => ⟨m, m + 1⟩ :: mkRts n (m + 2)
theorem laws_markRatS_l : ∀ (b a : List S33) (k : Nat) (m : Int), 0 ≤ m → m + 2 * b.length ≤ 4611686018427387904 → (a.length : Int) + b.length ≤ 4611686018427387904 → b.length < k →
    laws_markRatS.l0 k (a ++ b) m a.length = some (m + 2 * (b.length : Int), a ++ mkRts b.length m) := by
  intro b
  induction b with
  | nil =>
    intro a k m h0 h1 h2 h3
    obtain ⟨k, rfl⟩ : ∃ q, k = q + 1 := ⟨k - 1, by omega⟩
    simp [laws_markRatS.l0, mkRts]
  | cons x b ih =>
    intro a k m h0 h1 h2 h3
    obtain ⟨k, rfl⟩ : ∃ q, k = q + 1 := ⟨k - 1, by omega⟩
    simp only [List.length_cons] at h1 h2 h3
    have rd0 : ∀ (y : S33), rd_T33 (a ++ y :: b) (a.length : Int) = y := fun y => by rw [rdRt _ _ (by simp)]; simp
    have st0 : ∀ (y z : S33), (a ++ y :: b).set ((a.length : Int)).toNat z = a ++ z :: b := fun y z => by simp [List.set_append]
    simp only [laws_markRatS.l0, Option.bind_some]
    rw [if_pos (by simp; omega), if_pos (by omega)]
    simp only [rd0, st0]
    rw [w64 (x := m + 1) (by omega) (by omega), w64 (x := m + 1 + 1) (by omega) (by omega), w64 (by omega) (by omega)]
    have e : a ++ (⟨m, m + 1⟩ : S33) :: b = (a ++ [⟨m, m + 1⟩]) ++ b := by simp
    rw [e, show (a.length : Int) + 1 = ((a ++ [(⟨m, m + 1⟩ : S33)]).length : Int) by simp, ih _ k (m + 1 + 1) (by omega) (by omega) (by simp; omega) (by omega)]
    simp only [List.length_cons, mkRts, List.append_assoc, List.cons_append, List.nil_append, show m + 1 + 1 = m + 2 by omega]
    congr 2; omega
theorem laws_markRatS_at (b : List S33) (k : Nat) (hn : b.length ≤ 1000000000) (hk : b.length < k) : laws_markRatS.f k b 1 = some (1 + 2 * (b.length : Int), mkRts b.length 1) := by
  have := laws_markRatS_l b [] k 1 (by omega) (by omega) (by simp; omega) hk
  simpa [laws_markRatS.f] using this

/-! rdIv -/
theorem rdIv (xs : List S62) (i : Nat) (h : i < xs.length) : rd_T62 xs (i : Int) = xs[i] := by
  simp [rd_T62, List.getD_eq_getElem?_getD, List.getElem?_eq_getElem h]

/-! eqIntervalS -/
theorem laws_eqIntervalS_l (xs : List S62) (hn : xs.length ≤ 4611686018427387904) : ∀ (d i k : Nat), i + d = xs.length → d < k → laws_eqIntervalS.l0 k xs xs i = some true := by
  intro d
  induction d with
  | zero =>
    intro i k h1 h2
    obtain ⟨k, rfl⟩ : ∃ q, k = q + 1 := ⟨k - 1, by omega⟩
    simp only [laws_eqIntervalS.l0]; rw [if_neg (by omega)]
  | succ d ih =>
    intro i k h1 h2
    obtain ⟨k, rfl⟩ : ∃ q, k = q + 1 := ⟨k - 1, by omega⟩
    simp only [laws_eqIntervalS.l0, laws_eqInterval.f, laws_eqRat.f, if_true, Option.bind_some]
    rw [if_pos (by omega), if_pos (by omega), if_pos (by omega), w64 (by omega) (by omega), show (i : Int) + 1 = ((i + 1 : Nat) : Int) by omega, ih (i + 1) k (by omega) (by omega)]
theorem laws_eqIntervalS_at (xs : List S62) (k : Nat) (hn : xs.length ≤ 4611686018427387904) (hk : xs.length < k) : laws_eqIntervalS.f k xs xs = some true := by
  simp only [laws_eqIntervalS.f, if_true]
  exact laws_eqIntervalS_l xs hn xs.length 0 k (by omega) hk

/-! markIntervalS -/
/-- Four whole numbers a point, counted on. -/
def mkIvs : Nat → Int → List S62
  | 0, _ => []
  | n + 1, m => ⟨⟨m, m + 1⟩, ⟨m + 2, m + 3⟩⟩ :: mkIvs n (m + 4)
theorem mkIvs_len (n : Nat) : ∀ m, (mkIvs n m).length = n := by
  induction n with
  | zero => intro m; rfl
  | succ n ih => intro m; simp [mkIvs, ih]
theorem laws_markIntervalS_l : ∀ (b a : List S62) (k : Nat) (m : Int), 0 ≤ m → m + 4 * b.length ≤ 4611686018427387904 → (a.length : Int) + b.length ≤ 4611686018427387904 → b.length < k →
    laws_markIntervalS.l0 k (a ++ b) m a.length = some (m + 4 * (b.length : Int), a ++ mkIvs b.length m) := by
  intro b
  induction b with
  | nil =>
    intro a k m h0 h1 h2 h3
    obtain ⟨k, rfl⟩ : ∃ q, k = q + 1 := ⟨k - 1, by omega⟩
    simp [laws_markIntervalS.l0, mkIvs]
  | cons x b ih =>
    intro a k m h0 h1 h2 h3
    obtain ⟨k, rfl⟩ : ∃ q, k = q + 1 := ⟨k - 1, by omega⟩
    simp only [List.length_cons] at h1 h2 h3
    have rd0 : ∀ (y : S62), rd_T62 (a ++ y :: b) (a.length : Int) = y := fun y => by rw [rdIv _ _ (by simp)]; simp
    have st0 : ∀ (y z : S62), (a ++ y :: b).set ((a.length : Int)).toNat z = a ++ z :: b := fun y z => by simp [List.set_append]
    simp only [laws_markIntervalS.l0, Option.bind_some]
    rw [if_pos (by simp; omega), if_pos (by omega)]
    simp only [rd0, st0]
    rw [w64 (x := m + 1) (by omega) (by omega), w64 (x := m + 1 + 1) (by omega) (by omega), w64 (x := m + 1 + 1 + 1) (by omega) (by omega), w64 (x := m + 1 + 1 + 1 + 1) (by omega) (by omega), w64 (by omega) (by omega)]
    have e : a ++ (⟨⟨m, m + 1⟩, ⟨m + 1 + 1, m + 1 + 1 + 1⟩⟩ : S62) :: b = (a ++ [⟨⟨m, m + 1⟩, ⟨m + 1 + 1, m + 1 + 1 + 1⟩⟩]) ++ b := by simp
    rw [e, show (a.length : Int) + 1 = ((a ++ [(⟨⟨m, m + 1⟩, ⟨m + 1 + 1, m + 1 + 1 + 1⟩⟩ : S62)]).length : Int) by simp, ih _ k (m + 1 + 1 + 1 + 1) (by omega) (by omega) (by simp; omega) (by omega)]
    simp only [List.length_cons, mkIvs, List.append_assoc, List.cons_append, List.nil_append, show m + 1 + 1 = m + 2 by omega, show m + 2 + 1 = m + 3 by omega, show m + 3 + 1 = m + 4 by omega]
    congr 2; omega
theorem laws_markIntervalS_at (b : List S62) (k : Nat) (hn : b.length ≤ 1000000000) (hk : b.length < k) : laws_markIntervalS.f k b 1 = some (1 + 4 * (b.length : Int), mkIvs b.length 1) := by
  have := laws_markIntervalS_l b [] k 1 (by omega) (by omega) (by simp; omega) hk
  simpa [laws_markIntervalS.f] using this
theorem laws_heldIntervalS_l : ∀ (n : Nat) (a : List S62) (k : Nat) (m : Int), 0 ≤ m → m + 4 * n ≤ 4611686018427387904 → (a.length : Int) + n ≤ 4611686018427387904 → n < k →
    laws_heldIntervalS.l0 k (a ++ mkIvs n m) m a.length = some (m + 4 * (n : Int)) := by
  intro n
  induction n with
  | zero =>
    intro a k m h0 h1 h2 h3
    obtain ⟨k, rfl⟩ : ∃ q, k = q + 1 := ⟨k - 1, by omega⟩
    simp [laws_heldIntervalS.l0, mkIvs]
  | succ n ih =>
    intro a k m h0 h1 h2 h3
    obtain ⟨k, rfl⟩ : ∃ q, k = q + 1 := ⟨k - 1, by omega⟩
    have rd0 : rd_T62 (a ++ mkIvs (n + 1) m) (a.length : Int) = ⟨⟨m, m + 1⟩, ⟨m + 2, m + 3⟩⟩ := by rw [rdIv _ _ (by simp [mkIvs])]; simp [mkIvs]
    simp only [laws_heldIntervalS.l0, rd0]
    rw [if_pos (by rw [List.length_append, mkIvs_len]; omega), if_pos (by omega), if_pos True.intro, w64 (x := m + 1) (by omega) (by omega), if_pos rfl, w64 (x := m + 1 + 1) (by omega) (by omega), if_pos (by omega), w64 (x := m + 1 + 1 + 1) (by omega) (by omega), if_pos (by omega), w64 (x := m + 1 + 1 + 1 + 1) (by omega) (by omega), w64 (by omega) (by omega)]
    have e : a ++ mkIvs (n + 1) m = (a ++ [⟨⟨m, m + 1⟩, ⟨m + 2, m + 3⟩⟩]) ++ mkIvs n (m + 4) := by simp [mkIvs]
    rw [e, show (a.length : Int) + 1 = ((a ++ [(⟨⟨m, m + 1⟩, ⟨m + 2, m + 3⟩⟩ : S62)]).length : Int) by simp, show m + 1 + 1 + 1 + 1 = m + 4 by omega, ih _ k (m + 4) (by omega) (by omega) (by simp; omega) (by omega)]
    congr 1; omega
theorem laws_heldIntervalS_at (n k : Nat) (hn : n ≤ 1000000000) (hk : n < k) : laws_heldIntervalS.f k (mkIvs n 1) 1 = some (1 + 4 * (n : Int)) := by
  have := laws_heldIntervalS_l n [] k 1 (by omega) (by omega) (by simp; omega) hk
  simpa [laws_heldIntervalS.f] using this

end FnExactIntervalsBetween_
open FnExactIntervalsBetween_
theorem FnExactIntervalsBetween : laws_FnExactIntervalsBetween.Pure := by
  intro l0 _ hl _
  refine ⟨2000000000, ?_⟩
  simp only [laws_FnExactIntervalsBetween.f, laws_szRatS_at l0 1048576 (by omega) (by omega) (by omega), Option.bind_some]
  by_cases h : (l0.length : Int) ≤ 1048576
  · rw [if_pos h, if_neg (by omega)]
    have tr := fun k (hk : 1000003000 < k) => laws_toRatS_at l0 k (by omega) (by omega)
    have hlen : (l0.map cvR).length = l0.length := by simp
    generalize hL : l0.map cvR = L at *
    have key : ∃ (r : List S62) (c : Bool), r.length ≤ 1000 ∧ ∀ k, 1000003000 < k → spec_IntervalsBetween.f k L = some (r, c) ∧ impl_IntervalsBetween.f k L = some (r, c) := by
      by_cases hb : (2 : Int) ≤ (L.length : Int) ∧ (L.length : Int) ≤ 9
      · have e1 := fun k (hk : 1000003000 < k) => spec_ivRising_at L (by omega) (by omega) k (by omega)
        have e2 := fun k (hk : 1000003000 < k) => impl_areUnits_at L k (by omega) (by omega)
        have e3 := fun k (hk : 1000003000 < k) => spec_ivBetween_at L (by omega) (by omega) k (by omega)
        have e4 := fun k (hk : 1000003000 < k) => impl_between_at L (by omega) (by omega) k (by omega)
        by_cases hu : (L.all fun x => unitB x.f0 x.f1) = true
        · have hg : ∀ x ∈ L, goodB x.f0 x.f1 = true := fun x hx => by rw [List.all_eq_true] at hu; exact (unitB_iff.1 (hu x hx)).1
          have e5 : ∀ k, 1000003000 < k → impl_isRising.f k L = some (risB (L.map rt)) := fun k hk => by
            have := impl_isRising_l L (by omega) hg (L.length - 1) 0 k (by omega) (by omega)
            simpa [impl_isRising.f] using this
          by_cases hr : risB (L.map rt) = true
          · exact ⟨betw L, true, by rw [betw_len]; omega, fun k hk => by simp only [spec_IntervalsBetween.f, impl_IntervalsBetween.f, spec_l1In_eq, impl_within_eq, decide_eq_true hb, e1 k hk, e2 k hk, e3 k hk, e4 k hk, e5 k hk, hu, hr, Option.bind_some, if_true, Bool.and_self, and_self]⟩
          · rw [Bool.not_eq_true] at hr
            exact ⟨[], false, by simp, fun k hk => by simp [spec_IntervalsBetween.f, impl_IntervalsBetween.f, spec_l1In_eq, impl_within_eq, hb, e1 k hk, e2 k hk, e5 k hk, hu, hr]⟩
        · rw [Bool.not_eq_true] at hu
          exact ⟨[], false, by simp, fun k hk => by simp [spec_IntervalsBetween.f, impl_IntervalsBetween.f, spec_l1In_eq, impl_within_eq, hb, e1 k hk, e2 k hk, hu]⟩
      · exact ⟨[], false, by simp, fun k hk => by simp [spec_IntervalsBetween.f, impl_IntervalsBetween.f, spec_l1In_eq, impl_within_eq, hb]⟩
    obtain ⟨r, c, hr, hk⟩ := key
    have s := fun k (h : 1000003000 < k) => (hk k h).1
    have i := fun k (h : 1000003000 < k) => (hk k h).2
    have m := fun k (h : 1000003000 < k) => laws_markIntervalS_at r k (by omega) (by omega)
    have m2 := fun k (h : 1000003000 < k) => laws_markRatS_at L k (by omega) (by omega)
    have q := fun k (h : 1000003000 < k) => laws_heldIntervalS_at r.length k (by omega) (by omega)
    have z := fun k (h : 1000003000 < k) => laws_eqIntervalS_at r k (by omega) (by omega)
    have z2 := fun k (h : 1000003000 < k) => laws_eqRatS_at L k (by omega) (by omega)
    have p : ¬ (1 + 4 * (r.length : Int) < 0) := by omega
    have p2 : ¬ (1 + 2 * (L.length : Int) < 0) := by omega
    simp only [tr 2000000000 (by omega), tr 1999999999 (by omega), tr 1999999998 (by omega), laws_FnExactIntervalsBetween.j0, laws_FnExactIntervalsBetween.j1, laws_FnExactIntervalsBetween.j2, s 2000000000 (by omega), i 2000000000 (by omega), i 1999999998 (by omega), m 1999999998 (by omega), m2 1999999999 (by omega), q 1999999998 (by omega), q 1999999997 (by omega), z 2000000000 (by omega), z 1999999999 (by omega), z 1999999998 (by omega), z2 1999999999 (by omega), Option.bind_some, p, p2, bne_self_eq_false, if_true, if_false, Bool.false_eq_true]
  · rw [if_neg h, if_pos (by omega)]

end Go.Proofs.Ytmpccnagidednaa.Pure
