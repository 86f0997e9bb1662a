/- The program's CommonTail returns what the reference's returns, for all arguments. -/
import Derived.Test.YtjeaeaagaaedaaaPFnExactCommonTailx2
import Derived.Test.YtjeaeaagaaedaaaMathSplit
import Derived.Test.YtjeaeaagaaedaaaMathShark
namespace Go.Proofs.Ytjeaeaagaaedaaa.Pure
open Go.RowKit Go.Proofs.Ytjeaeaagaaedaaa.PFnExactCommonTail Go.Proofs.YtjeaeaagaaedaaaW.PrintWords Go.Proofs.YtjeaeaagaaedaaaW.PrintLast Go.Proofs.YtjeaeaagaaedaaaW.PrintMore Go.Proofs.Ytjeaeaagaaedaaa.Math
set_option linter.unusedVariables false
set_option linter.unusedSimpArgs false
namespace FnExactCommonTail_
/-! wrap -/
theorem w64 {x : Int} (h1 : -9223372036854775808 ≤ x) (h2 : x ≤ 9223372036854775807) : wrap64 x = x := by unfold wrap64; omega

/-! split -/
theorem spec_split_l (n : Nat) : ∀ (c k : Nat), 0 < n → n + c ≤ 4611686018427387904 → n < k → spec_skSplit.l0 k (n : Int) (c : Int) = some (((c + ex n : Nat) : Int), ((od n : Nat) : Int)) := by
  induction n using Nat.strongRecOn with
  | _ n ih =>
    intro c k h0 hc hk
    obtain ⟨k, rfl⟩ : ∃ m, k = m + 1 := ⟨k - 1, by omega⟩
    simp only [spec_skSplit.l0]
    rw [Int.tmod_eq_emod_of_nonneg (by omega), Int.tdiv_eq_ediv_of_nonneg (by omega)]
    by_cases h : n % 2 = 0
    · rw [if_pos (by omega), w64 (by omega) (by omega), w64 (by omega) (by omega), show (n : Int) / 2 = ((n / 2 : Nat) : Int) by omega, show (c : Int) + 1 = ((c + 1 : Nat) : Int) by omega,
        ih (n / 2) (by omega) (c + 1) k (by omega) (by omega) (by omega), ex_even h0 h, od_even h0 h, show c + 1 + ex (n / 2) = c + (ex (n / 2) + 1) by omega]
    · rw [if_neg (by omega), ex_odd (by omega), od_odd (by omega)]; rfl
theorem spec_split_at (n : Nat) (k : Nat) (h0 : 0 < n) (hn : n ≤ 4611686018427387904) (hk : n < k) : spec_skSplit.f k (n : Int) = some (((ex n : Nat) : Int), ((od n : Nat) : Int)) := by
  have := spec_split_l n 0 k h0 (by omega) hk
  simpa [spec_skSplit.f] using this
theorem impl_split_l (n : Nat) : ∀ (c k : Nat), 0 < n → n + c ≤ 4611686018427387904 → n < k → impl_split.l0 k (n : Int) (c : Int) = some (((c + ex n : Nat) : Int), ((od n : Nat) : Int)) := by
  induction n using Nat.strongRecOn with
  | _ n ih =>
    intro c k h0 hc hk
    obtain ⟨k, rfl⟩ : ∃ m, k = m + 1 := ⟨k - 1, by omega⟩
    simp only [impl_split.l0]
    rw [Int.tmod_eq_emod_of_nonneg (by omega), Int.tdiv_eq_ediv_of_nonneg (by omega)]
    by_cases h : n % 2 = 0
    · rw [if_pos (by omega), w64 (by omega) (by omega), w64 (by omega) (by omega), show (n : Int) / 2 = ((n / 2 : Nat) : Int) by omega, show (c : Int) + 1 = ((c + 1 : Nat) : Int) by omega,
        ih (n / 2) (by omega) (c + 1) k (by omega) (by omega) (by omega), ex_even h0 h, od_even h0 h, show c + 1 + ex (n / 2) = c + (ex (n / 2) + 1) by omega]
    · rw [if_neg (by omega), ex_odd (by omega), od_odd (by omega)]; rfl
theorem impl_split_at (n : Nat) (k : Nat) (h0 : 0 < n) (hn : n ≤ 4611686018427387904) (hk : n < k) : impl_split.f k (n : Int) = some (((ex n : Nat) : Int), ((od n : Nat) : Int)) := by
  have := impl_split_l n 0 k h0 (by omega) hk
  simpa [impl_split.f] using this

/-! skBefore -/
theorem spec_skBefore_at (a b k : Nat) (ha : 0 < a) (hb : 0 < b) (ha2 : a ≤ 1000000) (hb2 : b ≤ 1000000) (hk : 1000005 < k) :
    spec_skBefore.f k (a : Int) (b : Int) = some (decide (key a < key b)) := by
  have a1 := ex_small ha ha2; have a2 := ex_small hb hb2; have b1 := od_le a; have b2 := od_le b; have c1 := od_pos ha; have c2 := od_pos hb
  obtain ⟨k, rfl⟩ : ∃ m, k = m + 2 := ⟨k - 2, by omega⟩
  simp only [spec_skBefore.f, spec_split_at a (k + 2) ha (by omega) (by omega), spec_split_at b (k + 2) hb (by omega) (by omega), Option.bind_some, spec_skBefore.j0, spec_skBefore.j1, key]
  have cp : ((od a : Nat) : Int) = 1 ↔ od a = 1 := by omega
  have cq : ((od b : Nat) : Int) = 1 ↔ od b = 1 := by omega
  have cr : ((ex a : Nat) : Int) = ((ex b : Nat) : Int) ↔ ex a = ex b := by omega
  have cb : (((od b : Nat) : Int) == 1) = decide (od b = 1) := by rw [Bool.eq_iff_iff]; simp; omega
  by_cases p : od a = 1 <;> by_cases q : od b = 1 <;> by_cases r : ex a = ex b <;> simp [cb, cp, cq, cr, p, q, r] <;> omega

/-! sforces -/
theorem spec_skForces_at (a b k : Nat) (ha : 0 < a) (hb : 0 < b) (ha2 : a ≤ 1000000) (hb2 : b ≤ 1000000) (hk : 1000005 < k) :
    spec_skForces.f k (a : Int) (b : Int) = some (decide (key a ≤ key b)) := by
  simp only [spec_skForces.f, spec_skBefore_at b a k hb ha hb2 ha2 hk, Option.bind_some]
  rw [← decide_not]; congr 2; rw [Nat.not_lt]

/-! cmpPeriods -/
theorem cmp_Compare_eq (a b : Int) : cmp_Compare_int.f a b = some (if a < b then -1 else if a > b then 1 else 0) := by
  simp only [cmp_Compare_int.f, cmp_isNaN_int.f]; simp only [bne_self_eq_false, Option.bind_some]; simp
  repeat' split <;> simp_all
theorem cmp_Or_eq (k : Nat) (a b : Int) (hk : 3 < k) : cmp_Or_int.f k [a, b] = some (if a = 0 then b else a) := by
  obtain ⟨k, rfl⟩ : ∃ m, k = m + 3 := ⟨k - 3, by omega⟩
  have e : wrap64 (0 + 1) = 1 := by unfold wrap64; omega
  have e2 : wrap64 (1 + 1) = 2 := by unfold wrap64; omega
  simp only [cmp_Or_int.f, cmp_Or_int.l0, e, e2]
  by_cases p : a = 0 <;> by_cases q : b = 0 <;> simp [p, q, rd]
theorem impl_comparePeriods_at (a b k : Nat) (ha : 0 < a) (hb : 0 < b) (ha2 : a ≤ 1000000) (hb2 : b ≤ 1000000) (hk : 1000005 < k) :
    impl_comparePeriods.f k (a : Int) (b : Int) = some (cmpP a b) := by
  have a1 := ex_small ha ha2; have a2 := ex_small hb hb2; have b1 := od_le a; have b2 := od_le b; have c1 := od_pos ha; have c2 := od_pos hb
  obtain ⟨k, rfl⟩ : ∃ m, k = m + 1 := ⟨k - 1, by omega⟩
  simp only [impl_comparePeriods.f, impl_split_at a (k + 1) ha (by omega) (by omega), impl_split_at b (k + 1) hb (by omega) (by omega), Option.bind_some, impl_comparePeriods.j0, cmp_Compare_eq, cmp_Or_eq k _ _ (by omega), cmpP, key]
  have cp : ((od a : Nat) : Int) = 1 ↔ od a = 1 := by omega
  have cq : ((od b : Nat) : Int) = 1 ↔ od b = 1 := by omega
  have cb : (((od b : Nat) : Int) == 1) = decide (od b = 1) := by rw [Bool.eq_iff_iff]; simp; omega
  by_cases p : od a = 1 <;> by_cases q : od b = 1 <;> simp [cb, cp, cq, p, q] <;> (repeat' split) <;> (first | rfl | omega)

/-! forcesTail -/
theorem maxTwo_at (a b k : Nat) (ha : 0 < a) (hb : 0 < b) (ha2 : a ≤ 1000000) (hb2 : b ≤ 1000000) (hk : 1000010 < k) :
    slices_MaxFunc__impl_comparePeriods.f k [(a : Int), (b : Int)] = some (if key a < key b then (b : Int) else a) := by
  obtain ⟨k, rfl⟩ : ∃ q, k = q + 2 := ⟨k - 2, by omega⟩
  have e2 : wrap64 (1 + 1) = 2 := by unfold wrap64; omega
  have r0 : rd [(a : Int), (b : Int)] 0 = a := rfl
  have r1 : rd [(a : Int), (b : Int)] 1 = b := rfl
  simp only [slices_MaxFunc__impl_comparePeriods.f, slices_MaxFunc__impl_comparePeriods.l0, e2, r0, r1, impl_comparePeriods_at b a (k + 1) hb ha hb2 ha2 (by omega), Option.bind_some, cmpP]
  by_cases p : key a < key b
  · simp [p, show ¬ key b < key a by omega]
  · by_cases q : key b < key a
    · simp [p, q]
    · simp [p, q]

/-! l1In -/
theorem spec_l1In_eq (a b c : Int) : spec_l1In.f a b c = some (decide (b ≤ a ∧ a ≤ c)) := by
  unfold spec_l1In.f; split <;> simp <;> omega

/-! speriod -/
theorem spec_skPeriod_eq (a : Int) : spec_skPeriod.f a = some (decide (1 ≤ a ∧ a ≤ 1000000)) := by
  unfold spec_skPeriod.f; rw [spec_l1In_eq]; rfl

/-! within -/
theorem impl_within_eq (a b c : Int) : impl_within.f a b c = some (decide (b ≤ a ∧ a ≤ c)) := by
  unfold impl_within.f; split <;> simp <;> omega

/-! iperiod -/
theorem impl_isPeriod_eq (a : Int) : impl_isPeriod.f a = some (decide (1 ≤ a ∧ a ≤ 1000000)) := by
  unfold impl_isPeriod.f; rw [impl_within_eq]; rfl

end FnExactCommonTail_
open FnExactCommonTail_
theorem FnExactCommonTail : laws_FnExactCommonTail.Pure := by
  intro a b _ _
  refine ⟨1000020, ?_⟩
  by_cases h : 1 ≤ a ∧ a ≤ 1000000
  · by_cases h2 : 1 ≤ b ∧ b ≤ 1000000
    · obtain ⟨m, rfl⟩ : ∃ n : Nat, a = n := ⟨a.toNat, by omega⟩
      obtain ⟨n, rfl⟩ : ∃ n : Nat, b = n := ⟨b.toNat, by omega⟩
      have e := maxTwo_at m n 1000020 (by omega) (by omega) (by omega) (by omega) (by omega)
      simp only [laws_FnExactCommonTail.f, spec_CommonTail.f, spec_CommonTail.j0, impl_CommonTail.f, spec_skPeriod_eq, impl_isPeriod_eq, decide_eq_true h, decide_eq_true h2, Option.bind_some, if_true, Bool.not_true, Bool.false_eq_true, if_false, e, spec_skForces_at m n 1000019 (by omega) (by omega) (by omega) (by omega) (by omega)]
      by_cases p : key m ≤ key n
      · by_cases q : key m < key n
        · simp [p, q]
        · have : m = n := key_inj (by omega) (by omega) (by omega) (by omega) (by omega)
          subst this; simp
      · simp [p, show ¬ key m < key n by omega]
    · simp [laws_FnExactCommonTail.f, spec_CommonTail.f, spec_CommonTail.j0, impl_CommonTail.f, spec_skPeriod_eq, impl_isPeriod_eq, h, h2]
  · simp [laws_FnExactCommonTail.f, spec_CommonTail.f, spec_CommonTail.j0, impl_CommonTail.f, spec_skPeriod_eq, impl_isPeriod_eq, h]

end Go.Proofs.Ytjeaeaagaaedaaa.Pure
