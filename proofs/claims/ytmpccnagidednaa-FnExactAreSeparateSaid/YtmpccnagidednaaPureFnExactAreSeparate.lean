/- The program's AreSeparate returns what the reference's returns, for all arguments. -/
import Derived.Test.YtmpccnagidednaaPFnExactAreSeparatex6
import Derived.Test.YtmpccnagidednaaMathRat
import Derived.Test.YtmpccnagidednaaMathQ
import Derived.Test.YtmpccnagidednaaMathMap
namespace Go.Proofs.Ytmpccnagidednaa.Pure
open Go.RowKit Go.Proofs.Ytmpccnagidednaa.PFnExactAreSeparate Go.Proofs.YtmpccnagidednaaW.PrintWords Go.Proofs.YtmpccnagidednaaW.PrintLast Go.Proofs.YtmpccnagidednaaW.PrintMore Go.Proofs.Ytmpccnagidednaa.Math
set_option linter.unusedVariables false
set_option linter.unusedSimpArgs false
namespace FnExactAreSeparate_
/-! wrap -/
theorem w64 {x : Int} (h1 : -9223372036854775808 ≤ x) (h2 : x ≤ 9223372036854775807) : wrap64 x = x := by unfold wrap64; omega

/-! cmpI -/
theorem impl_compare_at (a b c d : Int) (h : goodB a b = true) (h2 : goodB c d = true) : impl_compare.f a b c d = some (cmpR a b c d) := by
  obtain ⟨p1, p2, _⟩ := goodB_mul h h2
  simp only [impl_compare.f, cmpR]
  rw [w64 (by omega) (by omega), w64 (by omega) (by omega)]
  by_cases q : a * d < c * b
  · rw [if_pos q, if_pos q]
  · rw [if_neg q, if_neg q]; split <;> rfl
theorem impl_less_at (a b c d : Int) (h : goodB a b = true) (h2 : goodB c d = true) : impl_less.f a b c d = some (decide (a * d < c * b)) := by
  simp only [impl_less.f, impl_compare_at a b c d h h2, Option.bind_some, cmpR]
  congr 2; rw [eq_iff_iff]; repeat' split <;> omega

/-! cmpS -/
theorem spec_raCmp_at (a b c d : Int) (h : goodB a b = true) (h2 : goodB c d = true) : spec_raCmp.f a b c d = some (cmpR a b c d) := by
  obtain ⟨p1, p2, _⟩ := goodB_mul h h2
  simp only [spec_raCmp.f, spec_l1Sign.f, cmpR]
  rw [w64 (x := a * d) (by omega) (by omega), w64 (x := c * b) (by omega) (by omega), w64 (by omega) (by omega)]
  by_cases q : a * d < c * b
  · rw [if_neg (by omega), if_pos (by omega), if_pos q]; rfl
  · by_cases r : a * d > c * b
    · rw [if_pos (by omega), if_neg q, if_pos r]; rfl
    · rw [if_neg (by omega), if_neg (by omega), if_neg q, if_neg r]; rfl

/-! common -/
theorem impl_greater_at (a b c d : Int) (h : goodB a b = true) (h2 : goodB c d = true) : impl_greater.f a b c d = some (if a * d < c * b then (c, d) else (a, b)) := by
  simp only [impl_greater.f, impl_less_at a b c d h h2, Option.bind_some, decide_eq_true_eq]; split <;> rfl
theorem impl_lesser_at (a b c d : Int) (h : goodB a b = true) (h2 : goodB c d = true) : impl_lesser.f a b c d = some (if c * b < a * d then (c, d) else (a, b)) := by
  simp only [impl_lesser.f, impl_less_at c d a b h2 h, Option.bind_some, decide_eq_true_eq]; split <;> rfl
/-- What two intervals have in common. -/
def comR (a b c d a' b' c' d' : Int) : Int × Int × Int × Int × Bool :=
  let A := if a * b' < a' * b then (a', b') else (a, b)
  let B := if c' * d < c * d' then (c', d') else (c, d)
  if A.1 * B.2 < B.1 * A.2 then (A.1, A.2, B.1, B.2, true) else (0, 0, 0, 0, false)
theorem impl_common_at (a b c d a' b' c' d' : Int) (h1 : goodB a b = true) (h2 : goodB c d = true) (h3 : goodB a' b' = true) (h4 : goodB c' d' = true) : impl_common.f a b c d a' b' c' d' = some (comR a b c d a' b' c' d') := by
  simp only [impl_common.f, impl_greater_at a b a' b' h1 h3, impl_lesser_at c d c' d' h2 h4, Option.bind_some, comR]
  by_cases p : a * b' < a' * b <;> by_cases r : c' * d < c * d' <;> simp only [p, r, if_true, if_false]
  · rw [impl_less_at _ _ _ _ h3 h4, Option.bind_some]; simp only [decide_eq_true_eq]; split <;> rfl
  · rw [impl_less_at _ _ _ _ h3 h2, Option.bind_some]; simp only [decide_eq_true_eq]; split <;> rfl
  · rw [impl_less_at _ _ _ _ h1 h4, Option.bind_some]; simp only [decide_eq_true_eq]; split <;> rfl
  · rw [impl_less_at _ _ _ _ h1 h2, Option.bind_some]; simp only [decide_eq_true_eq]; split <;> rfl

/-! ivSep0 -/
theorem cmp_le (a b c d : Int) : cmpR a b c d ≤ 0 ↔ a * d ≤ c * b := by unfold cmpR; repeat' split <;> omega
theorem cmp_lt (a b c d : Int) : cmpR a b c d < 0 ↔ a * d < c * b := by unfold cmpR; repeat' split <;> omega
theorem spec_ivSeparate_at (a b c d a' b' c' d' : Int) (h1 : goodB a b = true) (h2 : goodB c d = true) (h3 : goodB a' b' = true) (h4 : goodB c' d' = true) : spec_ivSeparate.f a b c d a' b' c' d' = some (decide (c * b' ≤ a' * d ∨ c' * b ≤ a * d')) := by
  simp only [spec_ivSeparate.f, spec_raCmp_at c d a' b' h2 h3, spec_raCmp_at c' d' a b h4 h1, Option.bind_some, cmp_le]
  by_cases p : c * b' ≤ a' * d <;> simp [p]

/-! gcdI -/
theorem impl_gcd_l (b : Nat) : ∀ (a k : Nat), b < k → impl_greatestDivisor.l0 k (a : Int) (b : Int) = some ((Nat.gcd a b : Nat) : Int) := by
  induction b using Nat.strongRecOn with
  | _ b ih =>
    intro a k hk
    obtain ⟨k, rfl⟩ : ∃ m, k = m + 1 := ⟨k - 1, by omega⟩
    simp only [impl_greatestDivisor.l0]
    by_cases h : b = 0
    · subst h; simp
    · rw [if_neg (by omega), Int.tmod_eq_emod_of_nonneg (by omega), show (a : Int) % (b : Int) = ((a % b : Nat) : Int) by omega, ih (a % b) (Nat.mod_lt _ (by omega)) b k (by have := Nat.mod_lt a (show b > 0 by omega); omega)]
      rw [Nat.gcd_comm a b, Nat.gcd_rec b a, Nat.gcd_comm]
theorem impl_abs_at (a : Int) (h : -9000000000000000000 ≤ a) : impl_abs.f a = some ((a.natAbs : Nat) : Int) := by
  unfold impl_abs.f
  by_cases h0 : a < 0
  · rw [if_pos h0]
    by_cases h1 : -a ≤ 9223372036854775807
    · rw [w64 (by omega) h1]; congr 1; omega
    · omega
  · rw [if_neg h0]; congr 1; omega
theorem impl_gcd_at (a b : Int) (k : Nat) (ha : -9000000000000000000 ≤ a) (hb : -9000000000000000000 ≤ b) (hk : b.natAbs < k) : impl_greatestDivisor.f k a b = some ((Int.gcd a b : Nat) : Int) := by
  simp only [impl_greatestDivisor.f, impl_abs_at a ha, impl_abs_at b hb, Option.bind_some, impl_gcd_l b.natAbs a.natAbs k hk]; rfl

/-! within -/
theorem impl_within_eq (a b c : Int) : impl_within.f a b c = some (decide (b ≤ a ∧ a ≤ c)) := by
  unfold impl_within.f; split <;> simp <;> omega

/-! isRat -/
theorem impl_isRat_at (n d : Int) (k : Nat) (hk : 1000000000 < k) : impl_isRat.f k n d = some (goodB n d) := by
  simp only [impl_isRat.f, impl_within_eq, Option.bind_some, goodB]
  by_cases h : 1 ≤ d ∧ d ≤ 1000000000
  · by_cases h2 : -1000000000 ≤ n ∧ n ≤ 1000000000
    · rw [decide_eq_true h, decide_eq_true h2, impl_gcd_at n d k (by omega) (by omega) (by omega)]
      simp only [if_true, Option.bind_some]; congr 1; rw [Bool.eq_iff_iff]; simp [h, h2]; omega
    · rw [decide_eq_true h, decide_eq_false h2]; simp only [if_true, Bool.false_eq_true, if_false]; congr 1; symm; apply decide_eq_false; omega
  · rw [decide_eq_false h]; simp only [Bool.false_eq_true, if_false]; congr 1; symm; apply decide_eq_false; omega

/-! isUnit -/
theorem impl_isUnit_at (n d : Int) (k : Nat) (hk : 1000000000 < k) : impl_isUnit.f k n d = some (unitB n d) := by
  simp only [impl_isUnit.f, impl_isRat_at n d k hk, Option.bind_some, unitB]
  cases goodB n d
  · simp
  · by_cases h : n ≥ 0 <;> simp [h]

/-! isInterval -/
/-- A valid interval. -/
def ivB (a b c d : Int) : Bool := unitB a b && (unitB c d && decide (a * d < c * b))
theorem impl_areUnits_two (a b c d : Int) (k : Nat) (hk : 1000000010 < k) : impl_areUnits.f k [(⟨a, b⟩ : S33), ⟨c, d⟩] = some (unitB a b && unitB c d) := by
  obtain ⟨k, rfl⟩ : ∃ q, k = q + 3 := ⟨k - 3, by omega⟩
  have e1 : wrap64 (0 + 1) = 1 := by unfold wrap64; omega
  have e2 : wrap64 (1 + 1) = 2 := by unfold wrap64; omega
  have r0 : rd_T33 [(⟨a, b⟩ : S33), ⟨c, d⟩] 0 = ⟨a, b⟩ := rfl
  have r1 : rd_T33 [(⟨a, b⟩ : S33), ⟨c, d⟩] 1 = ⟨c, d⟩ := rfl
  simp only [impl_areUnits.f, slices_ContainsFunc__impl_areUnits_1.f, slices_IndexFunc__impl_areUnits_1.f, slices_IndexFunc__impl_areUnits_1.l0, e1, e2, r0, r1, impl_areUnits_1.f, impl_isUnit_at a b (k + 2) (by omega), impl_isUnit_at c d (k + 1) (by omega), Option.bind_some]
  cases unitB a b <;> cases unitB c d <;> simp
theorem impl_isInterval_at (a b c d : Int) (k : Nat) (hk : 1000000010 < k) : impl_isInterval.f k a b c d = some (ivB a b c d) := by
  simp only [impl_isInterval.f, impl_areUnits_two a b c d k hk, Option.bind_some, ivB]
  cases h1 : unitB a b
  · simp
  · cases h2 : unitB c d
    · simp
    · rw [impl_less_at a b c d (unitB_iff.1 h1).1 (unitB_iff.1 h2).1]; simp

/-! commonSame -/
theorem ivB_good {a b c d : Int} (h : ivB a b c d = true) : goodB a b = true ∧ goodB c d = true ∧ a * d < c * b := by
  simp [ivB, unitB] at h; exact ⟨h.1.1, h.2.1.1, h.2.2⟩
/-- Two intervals have something in common where they aren't separate. -/
theorem comR_sep (a b c d a' b' c' d' : Int) (h1 : ivB a b c d = true) (h2 : ivB a' b' c' d' = true) :
    comR a b c d a' b' c' d' = if (c * b' ≤ a' * d ∨ c' * b ≤ a * d') then (0, 0, 0, 0, false) else ((if a * b' < a' * b then (a', b') else (a, b)).1, (if a * b' < a' * b then (a', b') else (a, b)).2, (if c' * d < c * d' then (c', d') else (c, d)).1, (if c' * d < c * d' then (c', d') else (c, d)).2, true) := by
  obtain ⟨g1, g2, l1⟩ := ivB_good h1
  obtain ⟨g3, g4, l2⟩ := ivB_good h2
  have n1 : (c * b' ≤ a' * d) ↔ ¬ q a' b' < q c d := by rw [← good_lt g3 g2]; omega
  have n2 : (c' * b ≤ a * d') ↔ ¬ q a b < q c' d' := by rw [← good_lt g1 g4]; omega
  have e1 := good_lt g1 g3
  have e2 := good_lt g4 g2
  have e3 := good_lt g3 g4
  have e4 := good_lt g3 g2
  have e5 := good_lt g1 g4
  have e6 := good_lt g1 g2
  rw [e6] at l1; rw [e3] at l2
  unfold comR
  simp only [n1, n2]
  generalize q a b = A at *
  generalize q c d = B at *
  generalize q a' b' = A' at *
  generalize q c' d' = B' at *
  by_cases p : a * b' < a' * b <;> by_cases r : c' * d < c * d' <;> simp only [p, r, if_true, if_false, e3, e4, e5, e6] <;> (rw [e1] at p; rw [e2] at r)
  · rw [if_pos l2, if_neg (by grind)]
  · by_cases s : A' < B
    · rw [if_pos s, if_neg (by grind)]
    · rw [if_neg s, if_pos (by grind)]
  · by_cases s : A < B'
    · rw [if_pos s, if_neg (by grind)]
    · rw [if_neg s, if_pos (by grind)]
  · rw [if_pos l1, if_neg (by grind)]

/-! gcdS -/
theorem spec_gcd_l (b : Nat) : ∀ (a k : Nat), b < k → spec_raCommon.l0 k (a : Int) (b : Int) = some ((Nat.gcd a b : Nat) : Int) := by
  induction b using Nat.strongRecOn with
  | _ b ih =>
    intro a k hk
    obtain ⟨k, rfl⟩ : ∃ m, k = m + 1 := ⟨k - 1, by omega⟩
    simp only [spec_raCommon.l0]
    by_cases h : b = 0
    · subst h; simp
    · rw [if_pos (by omega), if_neg (by omega), Int.tmod_eq_emod_of_nonneg (by omega), show (a : Int) % (b : Int) = ((a % b : Nat) : Int) by omega, ih (a % b) (Nat.mod_lt _ (by omega)) b k (by have := Nat.mod_lt a (show b > 0 by omega); omega)]
      rw [Nat.gcd_comm a b, Nat.gcd_rec b a, Nat.gcd_comm]
theorem spec_l1Abs_at (a : Int) (h : -9000000000000000000 ≤ a) (h2 : a ≤ 9000000000000000000) : spec_l1Abs.f a = some ((a.natAbs : Nat) : Int) := by
  simp only [spec_l1Abs.f, spec_l1Most.f]
  rw [w64 (by omega) (by omega)]
  by_cases h0 : a > -a
  · rw [if_pos h0, Option.bind_some]; congr 1; omega
  · rw [if_neg h0, Option.bind_some]; congr 1; omega
theorem spec_gcd_at (a b : Nat) (k : Nat) (hk : b < k) : spec_raCommon.f k (a : Int) (b : Int) = some ((Nat.gcd a b : Nat) : Int) := by
  simp only [spec_raCommon.f]; exact spec_gcd_l b a k hk

/-! l1In -/
theorem spec_l1In_eq (a b c : Int) : spec_l1In.f a b c = some (decide (b ≤ a ∧ a ≤ c)) := by
  unfold spec_l1In.f; split <;> simp <;> omega

/-! raGood -/
theorem spec_raGood_at (n d : Int) (k : Nat) (hk : 1000000000 < k) : spec_raGood.f k n d = some (goodB n d) := by
  simp only [spec_raGood.f, spec_l1In_eq, Option.bind_some, goodB]
  by_cases h : 1 ≤ d ∧ d ≤ 1000000000
  · by_cases h2 : -1000000000 ≤ n ∧ n ≤ 1000000000
    · have e : d = ((d.natAbs : Nat) : Int) := by omega
      rw [decide_eq_true h, decide_eq_true h2, spec_l1Abs_at n (by omega) (by omega)]
      simp only [if_true, Option.bind_some]
      rw [show spec_raCommon.f k ((n.natAbs : Nat) : Int) d = some ((Nat.gcd n.natAbs d.natAbs : Nat) : Int) by
        have := spec_gcd_at n.natAbs d.natAbs k (by omega)
        rwa [← e] at this, Option.bind_some]
      congr 1; rw [Bool.eq_iff_iff]; simp [h, h2, Int.gcd]; omega
    · rw [decide_eq_true h, decide_eq_false h2]; simp only [if_true, Bool.false_eq_true, if_false]; congr 1; symm; apply decide_eq_false; omega
  · rw [decide_eq_false h]; simp only [Bool.false_eq_true, if_false]; congr 1; symm; apply decide_eq_false; omega

/-! raUnit -/
theorem spec_raUnit_at (n d : Int) (k : Nat) (hk : 1000000000 < k) : spec_raUnit.f k n d = some (unitB n d) := by
  simp only [spec_raUnit.f, spec_raGood_at n d k hk, spec_l1In_eq, Option.bind_some, unitB]
  cases goodB n d <;> simp

/-! ivGood -/
theorem spec_ivGood_at (a b c d : Int) (k : Nat) (hk : 1000000010 < k) : spec_ivGood.f k a b c d = some (unitB a b && (unitB c d && decide (a * d < c * b))) := by
  simp only [spec_ivGood.f, spec_raUnit_at a b k (by omega), spec_raUnit_at c d k (by omega), Option.bind_some]
  cases h1 : unitB a b
  · simp
  · cases h2 : unitB c d
    · simp
    · rw [spec_raCmp_at a b c d (unitB_iff.1 h1).1 (unitB_iff.1 h2).1]
      simp only [if_true, Option.bind_some, Bool.true_and, cmpR]
      congr 2; rw [eq_iff_iff]; repeat' split <;> omega

/-! rdRt -/
theorem rdRt (xs : List S33) (i : Nat) (h : i < xs.length) : rd_T33 xs (i : Int) = xs[i] := by
  simp [rd_T33, List.getD_eq_getElem?_getD, List.getElem?_eq_getElem h]
def rt (x : S33) : Int × Int := (x.f0, x.f1)

/-! rdIv -/
theorem rdIv (xs : List S62) (i : Nat) (h : i < xs.length) : rd_T62 xs (i : Int) = xs[i] := by
  simp [rd_T62, List.getD_eq_getElem?_getD, List.getElem?_eq_getElem h]

/-! toIntervalS -/
/-- A law's point, as the program's. -/
def cvI (x : S59) : S62 := ⟨⟨x.f0.f0, x.f0.f1⟩, ⟨x.f1.f0, x.f1.f1⟩⟩
theorem rdLi (xs : List S59) (i : Nat) (h : i < xs.length) : rd_T59 xs (i : Int) = xs[i] := by
  simp [rd_T59, List.getD_eq_getElem?_getD, List.getElem?_eq_getElem h]
theorem laws_toIntervalS_l : ∀ (b a : List S59) (k : Nat), (a.length : Int) + b.length ≤ 4611686018427387904 → b.length < k → ∀ xs, xs = a ++ b →
    laws_toIntervalS.l0 k xs (a.map cvI ++ List.replicate b.length z62) a.length = some (xs.map cvI) := by
  intro b
  induction b with
  | nil =>
    intro a k h1 h2 xs hx
    obtain ⟨k, rfl⟩ : ∃ q, k = q + 1 := ⟨k - 1, by omega⟩
    subst hx
    simp [laws_toIntervalS.l0]
  | cons x b ih =>
    intro a k h1 h2 xs hx
    obtain ⟨k, rfl⟩ : ∃ q, k = q + 1 := ⟨k - 1, by omega⟩
    simp only [List.length_cons] at h1 h2
    have hl : xs.length = a.length + b.length + 1 := by rw [hx]; simp; omega
    simp only [laws_toIntervalS.l0, laws_toInterval.f, laws_toRat.f, Option.bind_some]
    have a1 : rd_T59 xs (a.length : Int) = x := by rw [rdLi xs a.length (by omega)]; subst hx; simp
    rw [if_pos (by omega), if_pos (by omega), if_pos (by simp; omega), w64 (by omega) (by omega), a1]
    have e : (a.map cvI ++ List.replicate (x :: b).length z62).set (a.length : Int).toNat (⟨⟨x.f0.f0, x.f0.f1⟩, ⟨x.f1.f0, x.f1.f1⟩⟩) = (a ++ [x]).map cvI ++ List.replicate b.length z62 := by
      simp [List.set_append, List.replicate_succ, cvI]
    rw [e, show (a.length : Int) + 1 = ((a ++ [x]).length : Int) by simp]
    exact ih (a ++ [x]) k (by simp; omega) (by omega) xs (by rw [hx]; simp)
theorem laws_toIntervalS_at (xs : List S59) (k : Nat) (hn : xs.length ≤ 8796093022208) (hk : xs.length < k) : laws_toIntervalS.f k xs = some (xs.map cvI) := by
  simp only [laws_toIntervalS.f]
  rw [if_pos (by omega), if_pos (by simpa using hn), Int.toNat_natCast]
  have := laws_toIntervalS_l xs [] k (by simp; omega) hk xs (by simp)
  simpa using this
theorem laws_szIntervalS_at (xs : List S59) (a : Int) (hn : xs.length ≤ 8796093022208) (h1 : 0 ≤ a) (h2 : a ≤ 1048576) : laws_szIntervalS.f xs a = some (if (xs.length : Int) ≤ a then a - xs.length else -1) := by
  simp only [laws_szIntervalS.f]
  rw [w64 (by omega) (by omega)]
  by_cases h : (xs.length : Int) ≤ a
  · rw [if_neg (by omega), if_pos h]
  · rw [if_pos (by omega), if_neg h]

/-! eqIntervalS -/
theorem laws_eqIntervalS_l (xs : List S62) (hn : xs.length ≤ 4611686018427387904) : ∀ (d i k : Nat), i + d = xs.length → d < k → laws_eqIntervalS.l0 k xs xs i = some true := by
  intro d
  induction d with
  | zero =>
    intro i k h1 h2
    obtain ⟨k, rfl⟩ : ∃ q, k = q + 1 := ⟨k - 1, by omega⟩
    simp only [laws_eqIntervalS.l0]; rw [if_neg (by omega)]
  | succ d ih =>
    intro i k h1 h2
    obtain ⟨k, rfl⟩ : ∃ q, k = q + 1 := ⟨k - 1, by omega⟩
    simp only [laws_eqIntervalS.l0, laws_eqInterval.f, laws_eqRat.f, if_true, Option.bind_some]
    rw [if_pos (by omega), if_pos (by omega), if_pos (by omega), w64 (by omega) (by omega), show (i : Int) + 1 = ((i + 1 : Nat) : Int) by omega, ih (i + 1) k (by omega) (by omega)]
theorem laws_eqIntervalS_at (xs : List S62) (k : Nat) (hn : xs.length ≤ 4611686018427387904) (hk : xs.length < k) : laws_eqIntervalS.f k xs xs = some true := by
  simp only [laws_eqIntervalS.f, if_true]
  exact laws_eqIntervalS_l xs hn xs.length 0 k (by omega) hk

/-! anyS(I=slices_IndexFunc__impl_areIntervals_1;C=slices_ContainsFunc__impl_areIntervals_1;S=S62;RD=rdIv;PRED=impl_areIntervals_1.f k e.f0.f0 e.f0.f1 e.f1.f0 e.f1.f1) -/
/-- ContainsFunc over structs, the predicate with rounds. -/
theorem slices_IndexFunc__impl_areIntervals_1_l (P : S62 → Bool) (xs : List S62) (K : Nat) (hP : ∀ e, e ∈ xs → ∀ k, K < k → impl_areIntervals_1.f k e.f0.f0 e.f0.f1 e.f1.f0 e.f1.f1 = some (P e)) (hn : xs.length ≤ 4611686018427387904) : ∀ (d i k : Nat), i + d = xs.length → K + d + 1 < k →
    ∃ r : Int, slices_IndexFunc__impl_areIntervals_1.l0 k xs xs.length i = some r ∧ (decide (r ≥ 0)) = (xs.drop i).any P := by
  intro d
  induction d with
  | zero =>
    intro i k h1 h2
    obtain ⟨k, rfl⟩ : ∃ q, k = q + 1 := ⟨k - 1, by omega⟩
    refine ⟨-1, ?_, ?_⟩
    · simp only [slices_IndexFunc__impl_areIntervals_1.l0]; rw [if_neg (by omega)]
    · rw [List.drop_eq_nil_of_le (by omega)]; rfl
  | succ d ih =>
    intro i k h1 h2
    obtain ⟨k, rfl⟩ : ∃ q, k = q + 1 := ⟨k - 1, by omega⟩
    simp only [slices_IndexFunc__impl_areIntervals_1.l0]
    have a2 := hP (xs[i]'(by omega)) (List.getElem_mem _) k (by omega)
    rw [if_pos (by omega), if_pos (by omega), if_pos (by omega), rdIv xs i (by omega), a2, Option.bind_some, List.drop_eq_getElem_cons (show i < xs.length by omega), List.any_cons]
    by_cases h : P (xs[i]'(by omega)) = true
    · exact ⟨i, by rw [if_pos h], by rw [h]; simp⟩
    · obtain ⟨r, hr, h3⟩ := ih (i + 1) k (by omega) (by omega)
      refine ⟨r, ?_, ?_⟩
      · rw [if_neg h, w64 (by omega) (by omega), show (i : Int) + 1 = ((i + 1 : Nat) : Int) by omega]; exact hr
      · rw [h3]; simp [h]
theorem slices_ContainsFunc__impl_areIntervals_1_at (P : S62 → Bool) (xs : List S62) (K k : Nat) (hP : ∀ e, e ∈ xs → ∀ k, K < k → impl_areIntervals_1.f k e.f0.f0 e.f0.f1 e.f1.f0 e.f1.f1 = some (P e)) (hn : xs.length ≤ 4611686018427387904) (hk : K + xs.length + 1 < k) : slices_ContainsFunc__impl_areIntervals_1.f k xs = some (xs.any P) := by
  obtain ⟨r, h1, h2⟩ := slices_IndexFunc__impl_areIntervals_1_l P xs K hP hn xs.length 0 k (by omega) hk
  simp only [slices_ContainsFunc__impl_areIntervals_1.f, slices_IndexFunc__impl_areIntervals_1.f]
  rw [show (0 : Int) = ((0 : Nat) : Int) by rfl, h1, Option.bind_some]
  simp only [List.drop_zero] at h2; rw [← h2]; rfl

/-! anyS2C(I=slices_IndexFunc__impl_AreSeparate_1;C=slices_ContainsFunc__impl_AreSeparate_1;S=S62;CS=S62;RD=rdIv;PRED=impl_AreSeparate_1_with.f e.f0.f0 e.f0.f1 e.f1.f0 e.f1.f1 c) -/
/-- ContainsFunc over structs, the predicate without rounds, behind a captured value. -/
theorem slices_IndexFunc__impl_AreSeparate_1_l (P : S62 → Bool) (xs : List S62) (c : List S62) (hP : ∀ e, e ∈ xs → impl_AreSeparate_1_with.f e.f0.f0 e.f0.f1 e.f1.f0 e.f1.f1 c = some (P e)) (hn : xs.length ≤ 4611686018427387904) : ∀ (d i k : Nat), i + d = xs.length → d < k →
    ∃ r : Int, slices_IndexFunc__impl_AreSeparate_1.l0 k xs xs.length i c = some r ∧ (decide (r ≥ 0)) = (xs.drop i).any P := by
  intro d
  induction d with
  | zero =>
    intro i k h1 h2
    obtain ⟨k, rfl⟩ : ∃ q, k = q + 1 := ⟨k - 1, by omega⟩
    refine ⟨-1, ?_, ?_⟩
    · simp only [slices_IndexFunc__impl_AreSeparate_1.l0]; rw [if_neg (by omega)]
    · rw [List.drop_eq_nil_of_le (by omega)]; rfl
  | succ d ih =>
    intro i k h1 h2
    obtain ⟨k, rfl⟩ : ∃ q, k = q + 1 := ⟨k - 1, by omega⟩
    simp only [slices_IndexFunc__impl_AreSeparate_1.l0]
    have a2 := hP (xs[i]'(by omega)) (List.getElem_mem _)
    rw [if_pos (by omega), if_pos (by omega), if_pos (by omega), rdIv xs i (by omega), a2, Option.bind_some, List.drop_eq_getElem_cons (show i < xs.length by omega), List.any_cons]
    by_cases h : P (xs[i]'(by omega)) = true
    · exact ⟨i, by rw [if_pos h], by rw [h]; simp⟩
    · obtain ⟨r, hr, h3⟩ := ih (i + 1) k (by omega) (by omega)
      refine ⟨r, ?_, ?_⟩
      · rw [if_neg h, w64 (by omega) (by omega), show (i : Int) + 1 = ((i + 1 : Nat) : Int) by omega]; exact hr
      · rw [h3]; simp [h]
theorem slices_ContainsFunc__impl_AreSeparate_1_at (P : S62 → Bool) (xs : List S62) (c : List S62) (k : Nat) (hP : ∀ e, e ∈ xs → impl_AreSeparate_1_with.f e.f0.f0 e.f0.f1 e.f1.f0 e.f1.f1 c = some (P e)) (hn : xs.length ≤ 4611686018427387904) (hk : xs.length < k) : slices_ContainsFunc__impl_AreSeparate_1.f k xs c = some (xs.any P) := by
  obtain ⟨r, h1, h2⟩ := slices_IndexFunc__impl_AreSeparate_1_l P xs c hP hn xs.length 0 k (by omega) hk
  simp only [slices_ContainsFunc__impl_AreSeparate_1.f, slices_IndexFunc__impl_AreSeparate_1.f]
  rw [show (0 : Int) = ((0 : Nat) : Int) by rfl, h1, Option.bind_some]
  simp only [List.drop_zero] at h2; rw [← h2]; rfl

end FnExactAreSeparate_
open FnExactAreSeparate_
abbrev Iv := S62
def ivI (x : Iv) : Bool := ivB x.f0.f0 x.f0.f1 x.f1.f0 x.f1.f1
def sepI (x y : Iv) : Bool := decide (x.f1.f0 * y.f0.f1 ≤ y.f0.f0 * x.f1.f1 ∨ y.f1.f0 * x.f0.f1 ≤ x.f0.f0 * y.f1.f1)
/-- From the i-th interval on: is each separate from all before it? -/
def sepF (L : List Iv) : Nat → Nat → Bool
  | 0, _ => true
  | d + 1, i => ((L.take i).all fun e => sepI (L.getD i z62) e) && sepF L d (i + 1)
theorem getI (L : List Iv) (i : Nat) (h : i < L.length) : L.getD i z62 = L[i] := by
  rw [List.getD_eq_getElem?_getD, List.getElem?_eq_getElem h]; rfl
theorem spec_ivList_l (X xs : List Iv) (hn : xs.length ≤ 1000000000) : ∀ (d i k : Nat), i + d = xs.length → 1000000010 + d < k →
    spec_ivList.l0 k X xs xs.length i = some ((xs.drop i).all ivI && decide (1 ≤ (X.length : Int) ∧ (X.length : Int) ≤ 8)) := by
  intro d
  induction d with
  | zero =>
    intro i k h1 h2
    obtain ⟨k, rfl⟩ : ∃ q, k = q + 1 := ⟨k - 1, by omega⟩
    simp only [spec_ivList.l0]; rw [if_neg (by omega), List.drop_eq_nil_of_le (by omega), spec_l1In_eq]; rfl
  | succ d ih =>
    intro i k h1 h2
    obtain ⟨k, rfl⟩ : ∃ q, k = q + 1 := ⟨k - 1, by omega⟩
    simp only [spec_ivList.l0]
    rw [if_pos (by omega), if_pos (by omega), if_pos (by omega), rdIv xs i (by omega), spec_ivGood_at _ _ _ _ k (by omega), Option.bind_some, w64 (by omega) (by omega), show (i : Int) + 1 = ((i + 1 : Nat) : Int) by omega, ih (i + 1) k (by omega) (by omega), List.drop_eq_getElem_cons (show i < xs.length by omega), List.all_cons]
    have e : ivI (xs[i]'(by omega)) = (unitB (xs[i]'(by omega)).f0.f0 (xs[i]'(by omega)).f0.f1 && (unitB (xs[i]'(by omega)).f1.f0 (xs[i]'(by omega)).f1.f1 && decide ((xs[i]'(by omega)).f0.f0 * (xs[i]'(by omega)).f1.f1 < (xs[i]'(by omega)).f1.f0 * (xs[i]'(by omega)).f0.f1))) := rfl
    rw [← e]
    cases h : ivI (xs[i]'(by omega)) <;> simp
theorem sep_l1 (X Y : List Iv) (m i : Int) (x : Iv) (hx : ivI x = true) (R : Bool × Bool) (B : Nat) (hR : ∀ k, B < k → spec_AreSeparate.l0 k X Y m (wrap64 (i + 1)) = some R) (ys : List Iv) (hy : ys.length ≤ 1000) (hg : ∀ e ∈ ys, ivI e = true) : ∀ (d j k : Nat), j + d = ys.length → B + d + 1 < k →
    spec_AreSeparate.l1 k X Y m i ys (ys.length : Int) (j : Int) x.f0.f0 x.f0.f1 x.f1.f0 x.f1.f1 = some (if (ys.drop j).all (fun e => sepI x e) = true then R else (false, true)) := by
  intro d
  induction d with
  | zero =>
    intro j k h1 h2
    obtain ⟨k, rfl⟩ : ∃ q, k = q + 1 := ⟨k - 1, by omega⟩
    simp only [spec_AreSeparate.l1]; rw [if_neg (by omega), hR k (by omega), List.drop_eq_nil_of_le (by omega)]; simp
  | succ d ih =>
    intro j k h1 h2
    obtain ⟨k, rfl⟩ : ∃ q, k = q + 1 := ⟨k - 1, by omega⟩
    have hj : j < ys.length := by omega
    have g1 := ivB_good hx
    have g2 := ivB_good (hg ys[j] (List.getElem_mem hj))
    simp only [spec_AreSeparate.l1]
    rw [if_pos (by omega), if_pos (by omega), if_pos (by omega), rdIv ys j hj, spec_ivSeparate_at _ _ _ _ _ _ _ _ g1.1 g1.2.1 g2.1 g2.2.1, Option.bind_some, w64 (by omega) (by omega), show (j : Int) + 1 = ((j + 1 : Nat) : Int) by omega, ih (j + 1) k (by omega) (by omega), List.drop_eq_getElem_cons hj, List.all_cons]
    have e : sepI x ys[j] = decide (x.f1.f0 * (ys[j]).f0.f1 ≤ (ys[j]).f0.f0 * x.f1.f1 ∨ (ys[j]).f1.f0 * x.f0.f1 ≤ x.f0.f0 * (ys[j]).f1.f1) := rfl
    rw [← e]
    cases h : sepI x ys[j] <;> simp
theorem sep_l0 (L : List Iv) (hn : L.length ≤ 8) (hg : ∀ e ∈ L, ivI e = true) : ∀ (d i k : Nat), i + d = L.length → 100 * d + 100 < k →
    spec_AreSeparate.l0 k L L (L.length : Int) (i : Int) = some (sepF L d i, true) := by
  intro d
  induction d with
  | zero =>
    intro i k h1 h2
    obtain ⟨k, rfl⟩ : ∃ q, k = q + 1 := ⟨k - 1, by omega⟩
    simp only [spec_AreSeparate.l0]; rw [if_neg (by omega)]; rfl
  | succ d ih =>
    intro i k h1 h2
    obtain ⟨k, rfl⟩ : ∃ q, k = q + 1 := ⟨k - 1, by omega⟩
    have hi : i < L.length := by omega
    simp only [spec_AreSeparate.l0]
    rw [if_pos (by omega), if_pos (by omega), if_pos (by omega), if_pos (by omega), Option.bind_some, rdIv L i hi, Int.toNat_natCast]
    have tl : (L.take i).length ≤ 8 := by rw [List.length_take]; omega
    have e := sep_l1 L L (L.length : Int) (i : Int) L[i] (hg _ (List.getElem_mem hi)) _ (100 * d + 100) (fun k hk => by
      rw [w64 (by omega) (by omega), show (i : Int) + 1 = ((i + 1 : Nat) : Int) by omega]
      exact ih (i + 1) k (by omega) hk) (L.take i) (by omega) (fun e he => hg e (List.mem_of_mem_take he)) (L.take i).length 0 k (by omega) (by omega)
    rw [show ((0 : Nat) : Int) = 0 by rfl] at e
    rw [e, List.drop_zero, sepF, getI L i hi]
    cases h : (L.take i).all (fun e => sepI L[i] e) <;> simp
theorem isep_l0 (L : List Iv) (hn : L.length ≤ 8) (hg : ∀ e ∈ L, ivI e = true) : ∀ (d i k : Nat), i + d = L.length → 100 * d + 100 < k →
    impl_AreSeparate.l0 k L L (L.length : Int) (i : Int) = some (sepF L d i, true) := by
  intro d
  induction d with
  | zero =>
    intro i k h1 h2
    obtain ⟨k, rfl⟩ : ∃ q, k = q + 1 := ⟨k - 1, by omega⟩
    simp only [impl_AreSeparate.l0]; rw [if_neg (by omega)]; rfl
  | succ d ih =>
    intro i k h1 h2
    obtain ⟨k, rfl⟩ : ∃ q, k = q + 1 := ⟨k - 1, by omega⟩
    have hi : i < L.length := by omega
    have g1 := ivB_good (hg _ (List.getElem_mem hi))
    have tl : (L.take i).length ≤ 8 := by rw [List.length_take]; omega
    simp only [impl_AreSeparate.l0]
    have c := slices_ContainsFunc__impl_AreSeparate_1_at (fun e => !sepI L[i] e) (L.take i) [(⟨(⟨(L[i]).f0.f0, (L[i]).f0.f1⟩ : S33), (⟨(L[i]).f1.f0, (L[i]).f1.f1⟩ : S33)⟩ : Iv)] k (fun e he => by
      have he' := hg e (List.mem_of_mem_take he)
      have g2 := ivB_good he'
      simp only [impl_AreSeparate_1_with.f, List.length_singleton]
      rw [if_pos (by decide), show rd_T62 [(⟨(⟨(L[i]).f0.f0, (L[i]).f0.f1⟩ : S33), (⟨(L[i]).f1.f0, (L[i]).f1.f1⟩ : S33)⟩ : Iv)] 0 = L[i] from rfl, impl_common_at _ _ _ _ _ _ _ _ g1.1 g1.2.1 g2.1 g2.2.1, Option.bind_some, comR_sep _ _ _ _ _ _ _ _ (hg _ (List.getElem_mem hi)) he']
      unfold sepI
      by_cases p : (L[i]).f1.f0 * e.f0.f1 ≤ e.f0.f0 * (L[i]).f1.f1 ∨ e.f1.f0 * (L[i]).f0.f1 ≤ (L[i]).f0.f0 * e.f1.f1
      · rw [if_pos p, decide_eq_true p]; rfl
      · rw [if_neg p, decide_eq_false p]; rfl) (by omega) (by omega)
    rw [if_pos (by omega), if_pos (by omega), if_pos (by omega), if_pos (by omega), rdIv L i hi, Int.toNat_natCast, c, Option.bind_some, w64 (by omega) (by omega), show (i : Int) + 1 = ((i + 1 : Nat) : Int) by omega, ih (i + 1) k (by omega) (by omega), sepF, getI L i hi, List.all_eq_not_any_not]
    cases h : (L.take i).any (fun e => !sepI L[i] e) <;> simp
theorem FnExactAreSeparate : laws_FnExactAreSeparate.Pure := by
  intro l0 _ hl _
  refine ⟨3000000000, ?_⟩
  simp only [laws_FnExactAreSeparate.f, laws_szIntervalS_at l0 1048576 (by omega) (by omega) (by omega), Option.bind_some]
  by_cases h : (l0.length : Int) ≤ 1048576
  · rw [if_pos h, if_neg (by omega)]
    have tr := fun k (hk : 2000003000 < k) => laws_toIntervalS_at l0 k (by omega) (by omega)
    have hlen : (l0.map cvI).length = l0.length := by simp
    generalize hL : l0.map cvI = L at *
    have key : ∃ r : Bool × Bool, ∀ k, 2000003000 < k → spec_AreSeparate.f k L = some r ∧ impl_AreSeparate.f k L = some r := by
      have e1 : ∀ k, 2000003000 < k → spec_ivList.f k L = some (L.all ivI && decide (1 ≤ (L.length : Int) ∧ (L.length : Int) ≤ 8)) := fun k hk => by
        have := spec_ivList_l L L (by omega) L.length 0 k (by omega) (by omega)
        simpa [spec_ivList.f] using this
      have e2 : ∀ k, 2000003000 < k → impl_areIntervals.f k L = some (L.all ivI && decide (1 ≤ (L.length : Int) ∧ (L.length : Int) ≤ 8)) := fun k hk => by
        simp only [impl_areIntervals.f, impl_within_eq, Option.bind_some]
        by_cases p : 1 ≤ (L.length : Int) ∧ (L.length : Int) ≤ 8
        · rw [decide_eq_true p, if_pos rfl, slices_ContainsFunc__impl_areIntervals_1_at (fun e => !ivI e) L 1000000010 k (fun e _ k hk => by simp only [impl_areIntervals_1.f, impl_isInterval_at _ _ _ _ k hk, Option.bind_some]; rfl) (by omega) (by omega)]
          rw [Option.bind_some, Bool.and_true, List.all_eq_not_any_not]
        · rw [decide_eq_false p]; simp
      cases hv : (L.all ivI && decide (1 ≤ (L.length : Int) ∧ (L.length : Int) ≤ 8))
      · exact ⟨(false, false), fun k hk => by simp only [spec_AreSeparate.f, impl_AreSeparate.f, e1 k hk, e2 k hk, hv, Option.bind_some, Bool.false_eq_true, if_false, and_self]⟩
      · have hv' := hv
        rw [Bool.and_eq_true, decide_eq_true_eq, List.all_eq_true] at hv'
        refine ⟨(sepF L L.length 0, true), fun k hk => ?_⟩
        have s := sep_l0 L (by omega) hv'.1 L.length 0 k (by omega) (by omega)
        have i := isep_l0 L (by omega) hv'.1 L.length 0 k (by omega) (by omega)
        rw [show ((0 : Nat) : Int) = 0 by rfl] at s i
        simp only [spec_AreSeparate.f, impl_AreSeparate.f, e1 k hk, e2 k hk, hv, Option.bind_some, if_true, s, i, and_self]
    obtain ⟨r, hk⟩ := key
    have z := fun k (h : 2000003000 < k) => laws_eqIntervalS_at L k (by omega) (by omega)
    simp only [tr 3000000000 (by omega), tr 2999999999 (by omega), (hk 3000000000 (by omega)).1, (hk 3000000000 (by omega)).2, laws_FnExactAreSeparate.j0, z 2999999999 (by omega), Option.bind_some, bne_self_eq_false, if_true, if_false, Bool.false_eq_true]
  · rw [if_neg h, if_pos (by omega)]

end Go.Proofs.Ytmpccnagidednaa.Pure
