/- The program's NextForced returns what the reference's returns, for all arguments. -/
import Derived.Test.YtjeaeaagaaedaaaPFnExactNextForcedx1
import Derived.Test.YtjeaeaagaaedaaaMathSplit
namespace Go.Proofs.Ytjeaeaagaaedaaa.Pure
open Go.RowKit Go.Proofs.Ytjeaeaagaaedaaa.PFnExactNextForced Go.Proofs.YtjeaeaagaaedaaaW.PrintWords Go.Proofs.YtjeaeaagaaedaaaW.PrintLast Go.Proofs.YtjeaeaagaaedaaaW.PrintMore Go.Proofs.Ytjeaeaagaaedaaa.Math
set_option linter.unusedVariables false
set_option linter.unusedSimpArgs false
namespace FnExactNextForced_
/-! wrap -/
theorem w64 {x : Int} (h1 : -9223372036854775808 ≤ x) (h2 : x ≤ 9223372036854775807) : wrap64 x = x := by unfold wrap64; omega

/-! split -/
theorem spec_split_l (n : Nat) : ∀ (c k : Nat), 0 < n → n + c ≤ 4611686018427387904 → n < k → spec_skSplit.l0 k (n : Int) (c : Int) = some (((c + ex n : Nat) : Int), ((od n : Nat) : Int)) := by
  induction n using Nat.strongRecOn with
  | _ n ih =>
    intro c k h0 hc hk
    obtain ⟨k, rfl⟩ : ∃ m, k = m + 1 := ⟨k - 1, by omega⟩
    simp only [spec_skSplit.l0]
    rw [Int.tmod_eq_emod_of_nonneg (by omega), Int.tdiv_eq_ediv_of_nonneg (by omega)]
    by_cases h : n % 2 = 0
    · rw [if_pos (by omega), w64 (by omega) (by omega), w64 (by omega) (by omega), show (n : Int) / 2 = ((n / 2 : Nat) : Int) by omega, show (c : Int) + 1 = ((c + 1 : Nat) : Int) by omega,
        ih (n / 2) (by omega) (c + 1) k (by omega) (by omega) (by omega), ex_even h0 h, od_even h0 h, show c + 1 + ex (n / 2) = c + (ex (n / 2) + 1) by omega]
    · rw [if_neg (by omega), ex_odd (by omega), od_odd (by omega)]; rfl
theorem spec_split_at (n : Nat) (k : Nat) (h0 : 0 < n) (hn : n ≤ 4611686018427387904) (hk : n < k) : spec_skSplit.f k (n : Int) = some (((ex n : Nat) : Int), ((od n : Nat) : Int)) := by
  have := spec_split_l n 0 k h0 (by omega) hk
  simpa [spec_skSplit.f] using this
theorem impl_split_l (n : Nat) : ∀ (c k : Nat), 0 < n → n + c ≤ 4611686018427387904 → n < k → impl_split.l0 k (n : Int) (c : Int) = some (((c + ex n : Nat) : Int), ((od n : Nat) : Int)) := by
  induction n using Nat.strongRecOn with
  | _ n ih =>
    intro c k h0 hc hk
    obtain ⟨k, rfl⟩ : ∃ m, k = m + 1 := ⟨k - 1, by omega⟩
    simp only [impl_split.l0]
    rw [Int.tmod_eq_emod_of_nonneg (by omega), Int.tdiv_eq_ediv_of_nonneg (by omega)]
    by_cases h : n % 2 = 0
    · rw [if_pos (by omega), w64 (by omega) (by omega), w64 (by omega) (by omega), show (n : Int) / 2 = ((n / 2 : Nat) : Int) by omega, show (c : Int) + 1 = ((c + 1 : Nat) : Int) by omega,
        ih (n / 2) (by omega) (c + 1) k (by omega) (by omega) (by omega), ex_even h0 h, od_even h0 h, show c + 1 + ex (n / 2) = c + (ex (n / 2) + 1) by omega]
    · rw [if_neg (by omega), ex_odd (by omega), od_odd (by omega)]; rfl
theorem impl_split_at (n : Nat) (k : Nat) (h0 : 0 < n) (hn : n ≤ 4611686018427387904) (hk : n < k) : impl_split.f k (n : Int) = some (((ex n : Nat) : Int), ((od n : Nat) : Int)) := by
  have := impl_split_l n 0 k h0 (by omega) hk
  simpa [impl_split.f] using this

/-! l1In -/
theorem spec_l1In_eq (a b c : Int) : spec_l1In.f a b c = some (decide (b ≤ a ∧ a ≤ c)) := by
  unfold spec_l1In.f; split <;> simp <;> omega

/-! speriod -/
theorem spec_skPeriod_eq (a : Int) : spec_skPeriod.f a = some (decide (1 ≤ a ∧ a ≤ 1000000)) := by
  unfold spec_skPeriod.f; rw [spec_l1In_eq]; rfl

/-! within -/
theorem impl_within_eq (a b c : Int) : impl_within.f a b c = some (decide (b ≤ a ∧ a ≤ c)) := by
  unfold impl_within.f; split <;> simp <;> omega

/-! iperiod -/
theorem impl_isPeriod_eq (a : Int) : impl_isPeriod.f a = some (decide (1 ≤ a ∧ a ≤ 1000000)) := by
  unfold impl_isPeriod.f; rw [impl_within_eq]; rfl

end FnExactNextForced_
open FnExactNextForced_
theorem shl_two (e : Nat) (h : e ≤ 19) : shl .i64 2 (e : Int) = 2 * (2 ^ e : Nat) := by
  have : e = 0 ∨ e = 1 ∨ e = 2 ∨ e = 3 ∨ e = 4 ∨ e = 5 ∨ e = 6 ∨ e = 7 ∨ e = 8 ∨ e = 9 ∨ e = 10 ∨ e = 11 ∨ e = 12 ∨ e = 13 ∨ e = 14 ∨ e = 15 ∨ e = 16 ∨ e = 17 ∨ e = 18 ∨ e = 19 := by omega
  unfold shl
  rw [Int.toNat_natCast, Nat.min_eq_left (by simp [IntKind.bits]; omega)]
  have h2 : 2 ^ e ≤ 2 ^ 19 := Nat.pow_le_pow_right (by omega) h
  have h3 : (2 : Nat) ^ 19 = 524288 := rfl
  have e2 : ((2 : Int) * 2 ^ e) = 2 * (2 ^ e : Nat) := by simp
  rw [e2]
  generalize 2 ^ e = p at *
  exact IntWalk.i64_in _ ⟨by omega, by omega⟩
theorem shl_q (q e : Nat) (h : q * 2 ^ e ≤ 100000000) (h19 : e ≤ 19) : shl .i64 (q : Int) (e : Int) = ((q * 2 ^ e : Nat) : Int) := by
  unfold shl
  rw [Int.toNat_natCast, Nat.min_eq_left (by simp [IntKind.bits]; omega)]
  have e2 : ((q : Int) * 2 ^ e) = ((q * 2 ^ e : Nat) : Int) := by simp
  rw [e2]
  exact IntWalk.i64_in _ ⟨by omega, by omega⟩
theorem FnExactNextForced : laws_FnExactNextForced.Pure := by
  intro a _
  refine ⟨1000010, ?_⟩
  by_cases h : 1 ≤ a ∧ a ≤ 1000000
  · obtain ⟨n, rfl⟩ : ∃ n : Nat, a = n := ⟨a.toNat, by omega⟩
    by_cases h1 : n = 1
    · subst h1
      simp [laws_FnExactNextForced.f, spec_NextForced.f, impl_NextForced.f, spec_NextForced.j0, impl_NextForced.j0, spec_skPeriod_eq, impl_isPeriod_eq]
    · have he := ex_small (n := n) (by omega) (by omega)
      have ho := od_pos (n := n) (by omega)
      have hs := split_eq n (by omega)
      have hol := od_le n
      have hp := pow_ex_le (n := n) (by omega)
      have hb : ((n : Int) == 1) = false := by simp; omega
      have hu : IntKind.u64.wrap ((ex n : Nat) : Int) = ((ex n : Nat) : Int) := by show ((ex n : Nat) : Int) % 18446744073709551616 = _; omega
      have ht : Int.tdiv (n : Int) 2 = (n : Int) / 2 := Int.tdiv_eq_ediv_of_nonneg (by omega)
      have q1 : (((od n : Nat) : Int) + 2) = ((od n + 2 : Nat) : Int) := by omega
      have mul : (od n + 2) * 2 ^ ex n = n + 2 * 2 ^ ex n := by rw [Nat.add_mul, ← hs.1]
      have s2 := shl_q (od n + 2) (ex n) (by omega) he
      have s1 := shl_two (ex n) he
      simp only [laws_FnExactNextForced.f, spec_NextForced.f, impl_NextForced.f, spec_NextForced.j0, impl_NextForced.j0, spec_skPeriod_eq, impl_isPeriod_eq, hb, decide_eq_true h, Option.bind_some, if_true, Bool.false_eq_true, if_false, spec_split_at n 1000009 (by omega) (by omega) (by omega), impl_split_at n 1000009 (by omega) (by omega) (by omega), hu, ht, s1, q1, w64 (x := ((od n + 2 : Nat) : Int)) (by omega) (by omega), s2, mul, w64 (x := (n : Int) / 2) (by omega) (by omega), w64 (x := (n : Int) + 2 * ((2 ^ ex n : Nat) : Int)) (by omega) (by omega)]
      have z : (0 : Int) ≤ ((ex n : Nat) : Int) := by omega
      by_cases g : ((od n : Nat) : Int) > 1
      · simp only [if_pos g, if_pos z]
        by_cases b : (n : Int) + 2 * ((2 ^ ex n : Nat) : Int) > 1000000
        · have c : ¬ (1 ≤ ((n + 2 * 2 ^ ex n : Nat) : Int) ∧ ((n + 2 * 2 ^ ex n : Nat) : Int) ≤ 1000000) := by omega
          simp [if_pos b, c, -Int.natCast_pow, -Int.natCast_add, -Int.natCast_mul]
        · have c : (1 ≤ ((n + 2 * 2 ^ ex n : Nat) : Int) ∧ ((n + 2 * 2 ^ ex n : Nat) : Int) ≤ 1000000) := by omega
          have d : ((n + 2 * 2 ^ ex n : Nat) : Int) = (n : Int) + 2 * ((2 ^ ex n : Nat) : Int) := by omega
          rw [d] at c
          simp only [if_neg b, d, decide_eq_true c, if_true, Option.bind_some, d, bne_self_eq_false, Bool.false_eq_true, if_false]
      · simp only [if_neg g]
        have c : 1 ≤ (n : Int) / 2 ∧ (n : Int) / 2 ≤ 1000000 := by omega
        have d : ¬ ((n : Int) / 2 > 1000000) := by omega
        simp [if_neg d, c]
  · simp [laws_FnExactNextForced.f, spec_NextForced.f, impl_NextForced.f, spec_NextForced.j0, impl_NextForced.j0, spec_skPeriod_eq, impl_isPeriod_eq, h]

end Go.Proofs.Ytjeaeaagaaedaaa.Pure
