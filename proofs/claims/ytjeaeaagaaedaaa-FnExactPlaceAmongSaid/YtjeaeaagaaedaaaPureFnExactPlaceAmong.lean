/- The program's PlaceAmong returns what the reference's returns, for all arguments. -/
import Derived.Test.YtjeaeaagaaedaaaPFnExactPlaceAmongx2
import Derived.Test.YtjeaeaagaaedaaaMathSplit
import Derived.Test.YtjeaeaagaaedaaaMathShark
namespace Go.Proofs.Ytjeaeaagaaedaaa.Pure
open Go.RowKit Go.Proofs.Ytjeaeaagaaedaaa.PFnExactPlaceAmong Go.Proofs.YtjeaeaagaaedaaaW.PrintWords Go.Proofs.YtjeaeaagaaedaaaW.PrintLast Go.Proofs.YtjeaeaagaaedaaaW.PrintMore Go.Proofs.Ytjeaeaagaaedaaa.Math
set_option linter.unusedVariables false
set_option linter.unusedSimpArgs false
namespace FnExactPlaceAmong_
/-! wrap -/
theorem w64 {x : Int} (h1 : -9223372036854775808 ≤ x) (h2 : x ≤ 9223372036854775807) : wrap64 x = x := by unfold wrap64; omega

/-! split -/
theorem spec_split_l (n : Nat) : ∀ (c k : Nat), 0 < n → n + c ≤ 4611686018427387904 → n < k → spec_skSplit.l0 k (n : Int) (c : Int) = some (((c + ex n : Nat) : Int), ((od n : Nat) : Int)) := by
  induction n using Nat.strongRecOn with
  | _ n ih =>
    intro c k h0 hc hk
    obtain ⟨k, rfl⟩ : ∃ m, k = m + 1 := ⟨k - 1, by omega⟩
    simp only [spec_skSplit.l0]
    rw [Int.tmod_eq_emod_of_nonneg (by omega), Int.tdiv_eq_ediv_of_nonneg (by omega)]
    by_cases h : n % 2 = 0
    · rw [if_pos (by omega), w64 (by omega) (by omega), w64 (by omega) (by omega), show (n : Int) / 2 = ((n / 2 : Nat) : Int) by omega, show (c : Int) + 1 = ((c + 1 : Nat) : Int) by omega,
        ih (n / 2) (by omega) (c + 1) k (by omega) (by omega) (by omega), ex_even h0 h, od_even h0 h, show c + 1 + ex (n / 2) = c + (ex (n / 2) + 1) by omega]
    · rw [if_neg (by omega), ex_odd (by omega), od_odd (by omega)]; rfl
theorem spec_split_at (n : Nat) (k : Nat) (h0 : 0 < n) (hn : n ≤ 4611686018427387904) (hk : n < k) : spec_skSplit.f k (n : Int) = some (((ex n : Nat) : Int), ((od n : Nat) : Int)) := by
  have := spec_split_l n 0 k h0 (by omega) hk
  simpa [spec_skSplit.f] using this
theorem impl_split_l (n : Nat) : ∀ (c k : Nat), 0 < n → n + c ≤ 4611686018427387904 → n < k → impl_split.l0 k (n : Int) (c : Int) = some (((c + ex n : Nat) : Int), ((od n : Nat) : Int)) := by
  induction n using Nat.strongRecOn with
  | _ n ih =>
    intro c k h0 hc hk
    obtain ⟨k, rfl⟩ : ∃ m, k = m + 1 := ⟨k - 1, by omega⟩
    simp only [impl_split.l0]
    rw [Int.tmod_eq_emod_of_nonneg (by omega), Int.tdiv_eq_ediv_of_nonneg (by omega)]
    by_cases h : n % 2 = 0
    · rw [if_pos (by omega), w64 (by omega) (by omega), w64 (by omega) (by omega), show (n : Int) / 2 = ((n / 2 : Nat) : Int) by omega, show (c : Int) + 1 = ((c + 1 : Nat) : Int) by omega,
        ih (n / 2) (by omega) (c + 1) k (by omega) (by omega) (by omega), ex_even h0 h, od_even h0 h, show c + 1 + ex (n / 2) = c + (ex (n / 2) + 1) by omega]
    · rw [if_neg (by omega), ex_odd (by omega), od_odd (by omega)]; rfl
theorem impl_split_at (n : Nat) (k : Nat) (h0 : 0 < n) (hn : n ≤ 4611686018427387904) (hk : n < k) : impl_split.f k (n : Int) = some (((ex n : Nat) : Int), ((od n : Nat) : Int)) := by
  have := impl_split_l n 0 k h0 (by omega) hk
  simpa [impl_split.f] using this

/-! skBefore -/
theorem spec_skBefore_at (a b k : Nat) (ha : 0 < a) (hb : 0 < b) (ha2 : a ≤ 1000000) (hb2 : b ≤ 1000000) (hk : 1000005 < k) :
    spec_skBefore.f k (a : Int) (b : Int) = some (decide (key a < key b)) := by
  have a1 := ex_small ha ha2; have a2 := ex_small hb hb2; have b1 := od_le a; have b2 := od_le b; have c1 := od_pos ha; have c2 := od_pos hb
  obtain ⟨k, rfl⟩ : ∃ m, k = m + 2 := ⟨k - 2, by omega⟩
  simp only [spec_skBefore.f, spec_split_at a (k + 2) ha (by omega) (by omega), spec_split_at b (k + 2) hb (by omega) (by omega), Option.bind_some, spec_skBefore.j0, spec_skBefore.j1, key]
  have cp : ((od a : Nat) : Int) = 1 ↔ od a = 1 := by omega
  have cq : ((od b : Nat) : Int) = 1 ↔ od b = 1 := by omega
  have cr : ((ex a : Nat) : Int) = ((ex b : Nat) : Int) ↔ ex a = ex b := by omega
  have cb : (((od b : Nat) : Int) == 1) = decide (od b = 1) := by rw [Bool.eq_iff_iff]; simp; omega
  by_cases p : od a = 1 <;> by_cases q : od b = 1 <;> by_cases r : ex a = ex b <;> simp [cb, cp, cq, cr, p, q, r] <;> omega

/-! l1In -/
theorem spec_l1In_eq (a b c : Int) : spec_l1In.f a b c = some (decide (b ≤ a ∧ a ≤ c)) := by
  unfold spec_l1In.f; split <;> simp <;> omega

/-! placeAmong -/
theorem spec_place_l (n most : Nat) (hn : 0 < n) (hn2 : n ≤ 1000000) (hm : most ≤ 200) : ∀ (d m k c : Nat), m + d = most + 1 → 0 < m → c + d < 1000 → 1000006 + d < k →
    spec_PlaceAmong.l0 k n most c m = some (((c + cnt n d m : Nat) : Int), true) := by
  intro d
  induction d with
  | zero =>
    intro m k c h1 h2 h3 h4
    obtain ⟨k, rfl⟩ : ∃ q, k = q + 1 := ⟨k - 1, by omega⟩
    simp only [spec_PlaceAmong.l0, cnt]; rw [if_neg (by omega)]; simp
  | succ d ih =>
    intro m k c h1 h2 h3 h4
    obtain ⟨k, rfl⟩ : ∃ q, k = q + 1 := ⟨k - 1, by omega⟩
    simp only [spec_PlaceAmong.l0, cnt]
    rw [if_pos (by omega), spec_skBefore_at m n k h2 hn (by omega) hn2 (by omega), Option.bind_some, w64 (x := (m : Int) + 1) (by omega) (by omega), w64 (x := (c : Int) + 1) (by omega) (by omega), show (m : Int) + 1 = ((m + 1 : Nat) : Int) by omega, show (c : Int) + 1 = ((c + 1 : Nat) : Int) by omega]
    by_cases h : key m < key n
    · rw [if_pos (by simpa using h), ih (m + 1) k _ (by omega) (by omega) (by omega) (by omega), if_pos h, Nat.add_assoc]
    · rw [if_neg (by simpa using h), ih (m + 1) k _ (by omega) (by omega) (by omega) (by omega), if_neg h, Nat.zero_add]

/-! cmpPeriods -/
theorem cmp_Compare_eq (a b : Int) : cmp_Compare_int.f a b = some (if a < b then -1 else if a > b then 1 else 0) := by
  simp only [cmp_Compare_int.f, cmp_isNaN_int.f]; simp only [bne_self_eq_false, Option.bind_some]; simp
  repeat' split <;> simp_all
theorem cmp_Or_eq (k : Nat) (a b : Int) (hk : 3 < k) : cmp_Or_int.f k [a, b] = some (if a = 0 then b else a) := by
  obtain ⟨k, rfl⟩ : ∃ m, k = m + 3 := ⟨k - 3, by omega⟩
  have e : wrap64 (0 + 1) = 1 := by unfold wrap64; omega
  have e2 : wrap64 (1 + 1) = 2 := by unfold wrap64; omega
  simp only [cmp_Or_int.f, cmp_Or_int.l0, e, e2]
  by_cases p : a = 0 <;> by_cases q : b = 0 <;> simp [p, q, rd]
theorem impl_comparePeriods_at (a b k : Nat) (ha : 0 < a) (hb : 0 < b) (ha2 : a ≤ 1000000) (hb2 : b ≤ 1000000) (hk : 1000005 < k) :
    impl_comparePeriods.f k (a : Int) (b : Int) = some (cmpP a b) := by
  have a1 := ex_small ha ha2; have a2 := ex_small hb hb2; have b1 := od_le a; have b2 := od_le b; have c1 := od_pos ha; have c2 := od_pos hb
  obtain ⟨k, rfl⟩ : ∃ m, k = m + 1 := ⟨k - 1, by omega⟩
  simp only [impl_comparePeriods.f, impl_split_at a (k + 1) ha (by omega) (by omega), impl_split_at b (k + 1) hb (by omega) (by omega), Option.bind_some, impl_comparePeriods.j0, cmp_Compare_eq, cmp_Or_eq k _ _ (by omega), cmpP, key]
  have cp : ((od a : Nat) : Int) = 1 ↔ od a = 1 := by omega
  have cq : ((od b : Nat) : Int) = 1 ↔ od b = 1 := by omega
  have cb : (((od b : Nat) : Int) == 1) = decide (od b = 1) := by rw [Bool.eq_iff_iff]; simp; omega
  by_cases p : od a = 1 <;> by_cases q : od b = 1 <;> simp [cb, cp, cq, p, q] <;> (repeat' split) <;> (first | rfl | omega)

/-! iforces -/
theorem impl_forces_at (a b k : Nat) (ha : 0 < a) (hb : 0 < b) (ha2 : a ≤ 1000000) (hb2 : b ≤ 1000000) (hk : 1000005 < k) :
    impl_forces.f k (a : Int) (b : Int) = some (decide (key a ≤ key b)) := by
  simp only [impl_forces.f, impl_comparePeriods_at a b k ha hb ha2 hb2 hk, Option.bind_some, cmpP]
  congr 2; rw [eq_iff_iff]
  repeat' split <;> omega

/-! iforced -/
theorem impl_forced_l (n most : Nat) (hn : 0 < n) (hn2 : n ≤ 1000000) (hm : most ≤ 200) : ∀ (d m k : Nat) (acc : List Int), m + d = most + 1 → 0 < m → acc.length + d < 1000 → 1000006 + d < k →
    impl_forced.l0 k n most acc m = some (acc ++ fl n d m) := by
  intro d
  induction d with
  | zero =>
    intro m k acc h1 h2 h3 h4
    obtain ⟨k, rfl⟩ : ∃ q, k = q + 1 := ⟨k - 1, by omega⟩
    simp only [impl_forced.l0, fl]; rw [if_neg (by omega)]; simp
  | succ d ih =>
    intro m k acc h1 h2 h3 h4
    obtain ⟨k, rfl⟩ : ∃ q, k = q + 1 := ⟨k - 1, by omega⟩
    simp only [impl_forced.l0, fl]
    rw [if_pos (by omega), impl_forces_at n m k hn h2 hn2 (by omega) (by omega), Option.bind_some, w64 (x := (m : Int) + 1) (by omega) (by omega), show (m : Int) + 1 = ((m + 1 : Nat) : Int) by omega]
    by_cases h : key n ≤ key m
    · rw [if_pos (by simpa using h), if_pos (by omega), ih (m + 1) k _ (by omega) (by omega) (by simp; omega) (by omega), if_pos h]; simp
    · rw [if_neg (by simpa using h), ih (m + 1) k _ (by omega) (by omega) (by omega) (by omega), if_neg h]
theorem impl_forced_at (n most k : Nat) (hn : 0 < n) (hn2 : n ≤ 1000000) (hm : most ≤ 200) (hk : 1000300 < k) : impl_forced.f k n most = some (fl n most 1) := by
  have := impl_forced_l n most hn hn2 hm most 1 k [] (by omega) (by omega) (by simp; omega) (by omega)
  simpa [impl_forced.f] using this

/-! within -/
theorem impl_within_eq (a b c : Int) : impl_within.f a b c = some (decide (b ≤ a ∧ a ≤ c)) := by
  unfold impl_within.f; split <;> simp <;> omega

/-! iperiod -/
theorem impl_isPeriod_eq (a : Int) : impl_isPeriod.f a = some (decide (1 ≤ a ∧ a ≤ 1000000)) := by
  unfold impl_isPeriod.f; rw [impl_within_eq]; rfl

/-! most -/
theorem spec_skMost_eq (a : Int) : spec_skMost.f a = some (decide (1 ≤ a ∧ a ≤ 200)) := by
  unfold spec_skMost.f; rw [spec_l1In_eq]; rfl
theorem impl_isMost_eq (a : Int) : impl_isMost.f a = some (decide (1 ≤ a ∧ a ≤ 200)) := by
  unfold impl_isMost.f; rw [impl_within_eq]; rfl

end FnExactPlaceAmong_
open FnExactPlaceAmong_
theorem FnExactPlaceAmong : laws_FnExactPlaceAmong.Pure := by
  intro a b _ _
  refine ⟨1000400, ?_⟩
  by_cases h2 : 1 ≤ b ∧ b ≤ 200
  · by_cases h : 1 ≤ a ∧ a ≤ b
    · obtain ⟨n, rfl⟩ : ∃ n : Nat, a = n := ⟨a.toNat, by omega⟩
      obtain ⟨most, rfl⟩ : ∃ n : Nat, b = n := ⟨b.toNat, by omega⟩
      have e := spec_place_l n most (by omega) (by omega) (by omega) most 1 1000399 0 (by omega) (by omega) (by omega) (by omega)
      have f := impl_forced_at n most 1000400 (by omega) (by omega) (by omega) (by omega)
      have c := cnt_fl n most 1
      have e' : spec_PlaceAmong.l0 1000399 (n : Int) (most : Int) 0 1 = some ((most : Int) - ((fl n most 1).length : Int), true) := by
        have : (most : Int) - ((fl n most 1).length : Int) = ((0 + cnt n most 1 : Nat) : Int) := by omega
        rw [this]; exact e
      have w : wrap64 ((most : Int) - ((fl n most 1).length : Int)) = (most : Int) - ((fl n most 1).length : Int) := w64 (by omega) (by omega)
      have q1 : ((fl n most 1).length : Int) ≤ most := by omega
      have p1 : (1 : Int) ≤ n ∧ (n : Int) ≤ 1000000 := by omega
      have p2 : ¬ ((n : Int) > most) := by omega
      simp [laws_FnExactPlaceAmong.f, spec_PlaceAmong.f, impl_PlaceAmong.f, spec_PlaceAmong.j0, spec_skMost_eq, spec_l1In_eq, impl_isPeriod_eq, impl_isMost_eq, h, h2, p1, e', f]
      rw [w, if_neg (by omega)]; simp
    · have : (if (if (1 ≤ a ∧ a ≤ 1000000) then true else false) = true then if a > b then true else false else true) = true := by
        repeat' split <;> simp_all <;> omega
      by_cases h3 : 1 ≤ a ∧ a ≤ 1000000
      · have p : a > b := by omega
        simp [laws_FnExactPlaceAmong.f, spec_PlaceAmong.f, impl_PlaceAmong.f, spec_PlaceAmong.j0, spec_skMost_eq, spec_l1In_eq, impl_isPeriod_eq, impl_isMost_eq, h, h2, h3, p]
      · simp [laws_FnExactPlaceAmong.f, spec_PlaceAmong.f, impl_PlaceAmong.f, spec_PlaceAmong.j0, spec_skMost_eq, spec_l1In_eq, impl_isPeriod_eq, impl_isMost_eq, h, h2, h3]
  · by_cases h3 : 1 ≤ a ∧ a ≤ 1000000
    · simp [laws_FnExactPlaceAmong.f, spec_PlaceAmong.f, impl_PlaceAmong.f, spec_PlaceAmong.j0, spec_skMost_eq, spec_l1In_eq, impl_isPeriod_eq, impl_isMost_eq, h2, h3]
    · simp [laws_FnExactPlaceAmong.f, spec_PlaceAmong.f, impl_PlaceAmong.f, spec_PlaceAmong.j0, spec_skMost_eq, spec_l1In_eq, impl_isPeriod_eq, impl_isMost_eq, h2, h3]

end Go.Proofs.Ytjeaeaagaaedaaa.Pure
