/- The program's IsTail returns what the reference's returns, for all arguments. -/
import Derived.Test.YtmpccnagidednaaPFnExactIsTailx4
import Derived.Test.YtmpccnagidednaaMathSplit
import Derived.Test.YtmpccnagidednaaMathShark
import Derived.Test.YtmpccnagidednaaMathTail
namespace Go.Proofs.Ytmpccnagidednaa.Pure
open Go.RowKit Go.Proofs.Ytmpccnagidednaa.PFnExactIsTail Go.Proofs.YtmpccnagidednaaW.PrintWords Go.Proofs.YtmpccnagidednaaW.PrintLast Go.Proofs.YtmpccnagidednaaW.PrintMore Go.Proofs.Ytmpccnagidednaa.Math
set_option linter.unusedVariables false
set_option linter.unusedSimpArgs false
namespace FnExactIsTail_
/-! wrap -/
theorem w64 {x : Int} (h1 : -9223372036854775808 ≤ x) (h2 : x ≤ 9223372036854775807) : wrap64 x = x := by unfold wrap64; omega

/-! l1Has -/
theorem spec_l1Has_l (y : Int) (xs : List Int) (hn : xs.length ≤ 4611686018427387904) : ∀ (d i k : Nat), i + d = xs.length → d < k → spec_l1Has.l0 k y xs xs.length i = some (decide (y ∈ xs.drop i)) := by
  intro d
  induction d with
  | zero =>
    intro i k h1 h2
    obtain ⟨k, rfl⟩ : ∃ q, k = q + 1 := ⟨k - 1, by omega⟩
    simp only [spec_l1Has.l0]; rw [if_neg (by omega), List.drop_eq_nil_of_le (by omega)]; simp
  | succ d ih =>
    intro i k h1 h2
    obtain ⟨k, rfl⟩ : ∃ q, k = q + 1 := ⟨k - 1, by omega⟩
    simp only [spec_l1Has.l0]
    have a1 : rd xs (i : Int) = xs[i]'(by omega) := by simp [rd, List.getD_eq_getElem?_getD, List.getElem?_eq_getElem (show i < xs.length by omega)]
    rw [if_pos (by omega), if_pos (by omega), if_pos (by omega), a1, w64 (by omega) (by omega), show (i : Int) + 1 = ((i + 1 : Nat) : Int) by omega, ih (i + 1) k (by omega) (by omega), List.drop_eq_getElem_cons (show i < xs.length by omega)]
    by_cases h : xs[i]'(by omega) = y
    · rw [if_pos h]; simp [h]
    · rw [if_neg h]; congr 1; rw [Bool.eq_iff_iff]; simp only [decide_eq_true_eq, List.mem_cons]
      exact ⟨.inr, fun e => e.elim (fun e => absurd e.symm h) id⟩
theorem spec_l1Has_at (xs : List Int) (y : Int) (k : Nat) (hn : xs.length ≤ 4611686018427387904) (hk : xs.length < k) : spec_l1Has.f k xs y = some (decide (y ∈ xs)) := by
  have := spec_l1Has_l y xs hn xs.length 0 k (by omega) hk
  simpa [spec_l1Has.f] using this

/-! l1In -/
theorem spec_l1In_eq (a b c : Int) : spec_l1In.f a b c = some (decide (b ≤ a ∧ a ≤ c)) := by
  unfold spec_l1In.f; split <;> simp <;> omega

/-! l1All -/
theorem spec_l1All_l (lo hi : Int) (xs : List Int) (hn : xs.length ≤ 4611686018427387904) : ∀ (d i k : Nat), i + d = xs.length → d < k →
    spec_l1All.l0 k lo hi xs xs.length i = some ((xs.drop i).all fun x => decide (lo ≤ x ∧ x ≤ hi)) := by
  intro d
  induction d with
  | zero =>
    intro i k h1 h2
    obtain ⟨k, rfl⟩ : ∃ q, k = q + 1 := ⟨k - 1, by omega⟩
    simp only [spec_l1All.l0]; rw [if_neg (by omega), List.drop_eq_nil_of_le (by omega)]; rfl
  | succ d ih =>
    intro i k h1 h2
    obtain ⟨k, rfl⟩ : ∃ q, k = q + 1 := ⟨k - 1, by omega⟩
    simp only [spec_l1All.l0]
    have a1 : rd xs (i : Int) = xs[i]'(by omega) := by simp [rd, List.getD_eq_getElem?_getD, List.getElem?_eq_getElem (show i < xs.length by omega)]
    rw [if_pos (by omega), if_pos (by omega), if_pos (by omega), a1, spec_l1In_eq, Option.bind_some, List.drop_eq_getElem_cons (show i < xs.length by omega), List.all_cons, w64 (by omega) (by omega), show (i : Int) + 1 = ((i + 1 : Nat) : Int) by omega, ih (i + 1) k (by omega) (by omega)]
    by_cases h : lo ≤ xs[i]'(by omega) ∧ xs[i]'(by omega) ≤ hi
    · rw [decide_eq_true h, if_pos rfl, Bool.true_and]
    · rw [decide_eq_false h, if_neg (by simp), Bool.false_and]
theorem spec_l1All_at (xs : List Int) (lo hi : Int) (k : Nat) (hn : xs.length ≤ 4611686018427387904) (hk : xs.length < k) : spec_l1All.f k xs lo hi = some (xs.all fun x => decide (lo ≤ x ∧ x ≤ hi)) := by
  have := spec_l1All_l lo hi xs hn xs.length 0 k (by omega) hk
  simpa [spec_l1All.f] using this

/-! within -/
theorem impl_within_eq (a b c : Int) : impl_within.f a b c = some (decide (b ≤ a ∧ a ≤ c)) := by
  unfold impl_within.f; split <;> simp <;> omega

/-! most -/
theorem spec_skMost_eq (a : Int) : spec_skMost.f a = some (decide (1 ≤ a ∧ a ≤ 200)) := by
  unfold spec_skMost.f; rw [spec_l1In_eq]; rfl
theorem impl_isMost_eq (a : Int) : impl_isMost.f a = some (decide (1 ≤ a ∧ a ≤ 200)) := by
  unfold impl_isMost.f; rw [impl_within_eq]; rfl

/-! split -/
theorem spec_split_l (n : Nat) : ∀ (c k : Nat), 0 < n → n + c ≤ 4611686018427387904 → n < k → spec_skSplit.l0 k (n : Int) (c : Int) = some (((c + ex n : Nat) : Int), ((od n : Nat) : Int)) := by
  induction n using Nat.strongRecOn with
  | _ n ih =>
    intro c k h0 hc hk
    obtain ⟨k, rfl⟩ : ∃ m, k = m + 1 := ⟨k - 1, by omega⟩
    simp only [spec_skSplit.l0]
    rw [Int.tmod_eq_emod_of_nonneg (by omega), Int.tdiv_eq_ediv_of_nonneg (by omega)]
    by_cases h : n % 2 = 0
    · rw [if_pos (by omega), w64 (by omega) (by omega), w64 (by omega) (by omega), show (n : Int) / 2 = ((n / 2 : Nat) : Int) by omega, show (c : Int) + 1 = ((c + 1 : Nat) : Int) by omega,
        ih (n / 2) (by omega) (c + 1) k (by omega) (by omega) (by omega), ex_even h0 h, od_even h0 h, show c + 1 + ex (n / 2) = c + (ex (n / 2) + 1) by omega]
    · rw [if_neg (by omega), ex_odd (by omega), od_odd (by omega)]; rfl
theorem spec_split_at (n : Nat) (k : Nat) (h0 : 0 < n) (hn : n ≤ 4611686018427387904) (hk : n < k) : spec_skSplit.f k (n : Int) = some (((ex n : Nat) : Int), ((od n : Nat) : Int)) := by
  have := spec_split_l n 0 k h0 (by omega) hk
  simpa [spec_skSplit.f] using this
theorem impl_split_l (n : Nat) : ∀ (c k : Nat), 0 < n → n + c ≤ 4611686018427387904 → n < k → impl_split.l0 k (n : Int) (c : Int) = some (((c + ex n : Nat) : Int), ((od n : Nat) : Int)) := by
  induction n using Nat.strongRecOn with
  | _ n ih =>
    intro c k h0 hc hk
    obtain ⟨k, rfl⟩ : ∃ m, k = m + 1 := ⟨k - 1, by omega⟩
    simp only [impl_split.l0]
    rw [Int.tmod_eq_emod_of_nonneg (by omega), Int.tdiv_eq_ediv_of_nonneg (by omega)]
    by_cases h : n % 2 = 0
    · rw [if_pos (by omega), w64 (by omega) (by omega), w64 (by omega) (by omega), show (n : Int) / 2 = ((n / 2 : Nat) : Int) by omega, show (c : Int) + 1 = ((c + 1 : Nat) : Int) by omega,
        ih (n / 2) (by omega) (c + 1) k (by omega) (by omega) (by omega), ex_even h0 h, od_even h0 h, show c + 1 + ex (n / 2) = c + (ex (n / 2) + 1) by omega]
    · rw [if_neg (by omega), ex_odd (by omega), od_odd (by omega)]; rfl
theorem impl_split_at (n : Nat) (k : Nat) (h0 : 0 < n) (hn : n ≤ 4611686018427387904) (hk : n < k) : impl_split.f k (n : Int) = some (((ex n : Nat) : Int), ((od n : Nat) : Int)) := by
  have := impl_split_l n 0 k h0 (by omega) hk
  simpa [impl_split.f] using this

/-! skBefore -/
theorem spec_skBefore_at (a b k : Nat) (ha : 0 < a) (hb : 0 < b) (ha2 : a ≤ 1000000) (hb2 : b ≤ 1000000) (hk : 1000005 < k) :
    spec_skBefore.f k (a : Int) (b : Int) = some (decide (key a < key b)) := by
  have a1 := ex_small ha ha2; have a2 := ex_small hb hb2; have b1 := od_le a; have b2 := od_le b; have c1 := od_pos ha; have c2 := od_pos hb
  obtain ⟨k, rfl⟩ : ∃ m, k = m + 2 := ⟨k - 2, by omega⟩
  simp only [spec_skBefore.f, spec_split_at a (k + 2) ha (by omega) (by omega), spec_split_at b (k + 2) hb (by omega) (by omega), Option.bind_some, spec_skBefore.j0, spec_skBefore.j1, key]
  have cp : ((od a : Nat) : Int) = 1 ↔ od a = 1 := by omega
  have cq : ((od b : Nat) : Int) = 1 ↔ od b = 1 := by omega
  have cr : ((ex a : Nat) : Int) = ((ex b : Nat) : Int) ↔ ex a = ex b := by omega
  have cb : (((od b : Nat) : Int) == 1) = decide (od b = 1) := by rw [Bool.eq_iff_iff]; simp; omega
  by_cases p : od a = 1 <;> by_cases q : od b = 1 <;> by_cases r : ex a = ex b <;> simp [cb, cp, cq, cr, p, q, r] <;> omega

/-! sforces -/
theorem spec_skForces_at (a b k : Nat) (ha : 0 < a) (hb : 0 < b) (ha2 : a ≤ 1000000) (hb2 : b ≤ 1000000) (hk : 1000005 < k) :
    spec_skForces.f k (a : Int) (b : Int) = some (decide (key a ≤ key b)) := by
  simp only [spec_skForces.f, spec_skBefore_at b a k hb ha hb2 ha2 hk, Option.bind_some]
  rw [← decide_not]; congr 2; rw [Nat.not_lt]

/-! sforced -/
theorem spec_skForced_l (n most : Nat) (hn : 0 < n) (hn2 : n ≤ 1000000) (hm : most ≤ 200) : ∀ (d m k : Nat) (acc : List Int), m + d = most + 1 → 0 < m → acc.length + d < 1000 → 1000006 + d < k →
    spec_skForced.l0 k n most acc m = some (acc ++ fl n d m) := by
  intro d
  induction d with
  | zero =>
    intro m k acc h1 h2 h3 h4
    obtain ⟨k, rfl⟩ : ∃ q, k = q + 1 := ⟨k - 1, by omega⟩
    simp only [spec_skForced.l0, fl]; rw [if_neg (by omega)]; simp
  | succ d ih =>
    intro m k acc h1 h2 h3 h4
    obtain ⟨k, rfl⟩ : ∃ q, k = q + 1 := ⟨k - 1, by omega⟩
    simp only [spec_skForced.l0, fl]
    rw [if_pos (by omega), spec_skForces_at n m k hn h2 hn2 (by omega) (by omega), Option.bind_some, w64 (x := (m : Int) + 1) (by omega) (by omega), show (m : Int) + 1 = ((m + 1 : Nat) : Int) by omega]
    by_cases h : key n ≤ key m
    · rw [if_pos (by simpa using h), if_pos (by omega), ih (m + 1) k _ (by omega) (by omega) (by simp; omega) (by omega), if_pos h]; simp
    · rw [if_neg (by simpa using h), ih (m + 1) k _ (by omega) (by omega) (by omega) (by omega), if_neg h]
theorem spec_skForced_at (n most k : Nat) (hn : 0 < n) (hn2 : n ≤ 1000000) (hm : most ≤ 200) (hk : 1000300 < k) : spec_skForced.f k n most = some (fl n most 1) := by
  have := spec_skForced_l n most hn hn2 hm most 1 k [] (by omega) (by omega) (by simp; omega) (by omega)
  simpa [spec_skForced.f] using this

/-! cmpPeriods -/
theorem cmp_Compare_eq (a b : Int) : cmp_Compare_int.f a b = some (if a < b then -1 else if a > b then 1 else 0) := by
  simp only [cmp_Compare_int.f, cmp_isNaN_int.f]; simp only [bne_self_eq_false, Option.bind_some]; simp
  repeat' split <;> simp_all
theorem cmp_Or_eq (k : Nat) (a b : Int) (hk : 3 < k) : cmp_Or_int.f k [a, b] = some (if a = 0 then b else a) := by
  obtain ⟨k, rfl⟩ : ∃ m, k = m + 3 := ⟨k - 3, by omega⟩
  have e : wrap64 (0 + 1) = 1 := by unfold wrap64; omega
  have e2 : wrap64 (1 + 1) = 2 := by unfold wrap64; omega
  simp only [cmp_Or_int.f, cmp_Or_int.l0, e, e2]
  by_cases p : a = 0 <;> by_cases q : b = 0 <;> simp [p, q, rd]
theorem impl_comparePeriods_at (a b k : Nat) (ha : 0 < a) (hb : 0 < b) (ha2 : a ≤ 1000000) (hb2 : b ≤ 1000000) (hk : 1000005 < k) :
    impl_comparePeriods.f k (a : Int) (b : Int) = some (cmpP a b) := by
  have a1 := ex_small ha ha2; have a2 := ex_small hb hb2; have b1 := od_le a; have b2 := od_le b; have c1 := od_pos ha; have c2 := od_pos hb
  obtain ⟨k, rfl⟩ : ∃ m, k = m + 1 := ⟨k - 1, by omega⟩
  simp only [impl_comparePeriods.f, impl_split_at a (k + 1) ha (by omega) (by omega), impl_split_at b (k + 1) hb (by omega) (by omega), Option.bind_some, impl_comparePeriods.j0, cmp_Compare_eq, cmp_Or_eq k _ _ (by omega), cmpP, key]
  have cp : ((od a : Nat) : Int) = 1 ↔ od a = 1 := by omega
  have cq : ((od b : Nat) : Int) = 1 ↔ od b = 1 := by omega
  have cb : (((od b : Nat) : Int) == 1) = decide (od b = 1) := by rw [Bool.eq_iff_iff]; simp; omega
  by_cases p : od a = 1 <;> by_cases q : od b = 1 <;> simp [cb, cp, cq, p, q] <;> (repeat' split) <;> (first | rfl | omega)

/-! iforces -/
theorem impl_forces_at (a b k : Nat) (ha : 0 < a) (hb : 0 < b) (ha2 : a ≤ 1000000) (hb2 : b ≤ 1000000) (hk : 1000005 < k) :
    impl_forces.f k (a : Int) (b : Int) = some (decide (key a ≤ key b)) := by
  simp only [impl_forces.f, impl_comparePeriods_at a b k ha hb ha2 hb2 hk, Option.bind_some, cmpP]
  congr 2; rw [eq_iff_iff]
  repeat' split <;> omega

/-! iforced -/
theorem impl_forced_l (n most : Nat) (hn : 0 < n) (hn2 : n ≤ 1000000) (hm : most ≤ 200) : ∀ (d m k : Nat) (acc : List Int), m + d = most + 1 → 0 < m → acc.length + d < 1000 → 1000006 + d < k →
    impl_forced.l0 k n most acc m = some (acc ++ fl n d m) := by
  intro d
  induction d with
  | zero =>
    intro m k acc h1 h2 h3 h4
    obtain ⟨k, rfl⟩ : ∃ q, k = q + 1 := ⟨k - 1, by omega⟩
    simp only [impl_forced.l0, fl]; rw [if_neg (by omega)]; simp
  | succ d ih =>
    intro m k acc h1 h2 h3 h4
    obtain ⟨k, rfl⟩ : ∃ q, k = q + 1 := ⟨k - 1, by omega⟩
    simp only [impl_forced.l0, fl]
    rw [if_pos (by omega), impl_forces_at n m k hn h2 hn2 (by omega) (by omega), Option.bind_some, w64 (x := (m : Int) + 1) (by omega) (by omega), show (m : Int) + 1 = ((m + 1 : Nat) : Int) by omega]
    by_cases h : key n ≤ key m
    · rw [if_pos (by simpa using h), if_pos (by omega), ih (m + 1) k _ (by omega) (by omega) (by simp; omega) (by omega), if_pos h]; simp
    · rw [if_neg (by simpa using h), ih (m + 1) k _ (by omega) (by omega) (by omega) (by omega), if_neg h]
theorem impl_forced_at (n most k : Nat) (hn : 0 < n) (hn2 : n ≤ 1000000) (hm : most ≤ 200) (hk : 1000300 < k) : impl_forced.f k n most = some (fl n most 1) := by
  have := impl_forced_l n most hn hn2 hm most 1 k [] (by omega) (by omega) (by simp; omega) (by omega)
  simpa [impl_forced.f] using this

/-! iperiod -/
theorem impl_isPeriod_eq (a : Int) : impl_isPeriod.f a = some (decide (1 ≤ a ∧ a ≤ 1000000)) := by
  unfold impl_isPeriod.f; rw [impl_within_eq]; rfl

/-! toIntS -/
theorem laws_toIntS_l : ∀ (b a : List Int) (k : Nat), (a.length : Int) + b.length ≤ 4611686018427387904 → b.length < k → ∀ xs, xs = a ++ b →
    laws_toIntS.l0 k xs (a ++ List.replicate b.length 0) a.length = some xs := by
  intro b
  induction b with
  | nil =>
    intro a k h1 h2 xs hx
    obtain ⟨k, rfl⟩ : ∃ q, k = q + 1 := ⟨k - 1, by omega⟩
    subst hx
    simp [laws_toIntS.l0]
  | cons x b ih =>
    intro a k h1 h2 xs hx
    obtain ⟨k, rfl⟩ : ∃ q, k = q + 1 := ⟨k - 1, by omega⟩
    simp only [List.length_cons] at h1 h2
    have hl : xs.length = a.length + b.length + 1 := by rw [hx]; simp; omega
    simp only [laws_toIntS.l0]
    have a1 : rd xs (a.length : Int) = x := by subst hx; simp [rd, List.getD_eq_getElem?_getD]
    rw [if_pos (by omega), if_pos (by omega), if_pos (by simp; omega), w64 (by omega) (by omega), a1]
    have e : (a ++ List.replicate (x :: b).length 0).set (a.length : Int).toNat x = (a ++ [x]) ++ List.replicate b.length 0 := by simp [List.set_append, List.replicate_succ]
    rw [e, show (a.length : Int) + 1 = ((a ++ [x]).length : Int) by simp]
    exact ih (a ++ [x]) k (by simp; omega) (by omega) xs (by rw [hx]; simp)
theorem laws_toIntS_at (xs : List Int) (k : Nat) (hn : xs.length ≤ 35184372088832) (hk : xs.length < k) : laws_toIntS.f k xs = some xs := by
  simp only [laws_toIntS.f]
  rw [if_pos (by omega), if_pos (by simpa using hn), Int.toNat_natCast]
  have := laws_toIntS_l xs [] k (by simp; omega) hk xs (by simp)
  simpa using this

/-! marks0 -/
theorem laws_eqIntS_l (xs ys : List Int) (hl : xs.length = ys.length) (hn : xs.length ≤ 4611686018427387904) : ∀ (d i k : Nat), i + d = xs.length → d < k → laws_eqIntS.l0 k xs ys i = some (decide (xs.drop i = ys.drop i)) := by
  intro d
  induction d with
  | zero =>
    intro i k h1 h2
    obtain ⟨k, rfl⟩ : ∃ q, k = q + 1 := ⟨k - 1, by omega⟩
    simp only [laws_eqIntS.l0]; rw [if_neg (by omega), List.drop_eq_nil_of_le (by omega), List.drop_eq_nil_of_le (by omega)]; simp
  | succ d ih =>
    intro i k h1 h2
    obtain ⟨k, rfl⟩ : ∃ q, k = q + 1 := ⟨k - 1, by omega⟩
    simp only [laws_eqIntS.l0]
    rw [if_pos (by omega), if_pos (by omega), if_pos (by omega), w64 (by omega) (by omega), show (i : Int) + 1 = ((i + 1 : Nat) : Int) by omega, ih (i + 1) k (by omega) (by omega)]
    have a1 : rd xs (i : Int) = xs[i]'(by omega) := by simp [rd, List.getD_eq_getElem?_getD, List.getElem?_eq_getElem (show i < xs.length by omega)]
    have a2 : rd ys (i : Int) = ys[i]'(by omega) := by simp [rd, List.getD_eq_getElem?_getD, List.getElem?_eq_getElem (show i < ys.length by omega)]
    rw [a1, a2, List.drop_eq_getElem_cons (show i < xs.length by omega), List.drop_eq_getElem_cons (show i < ys.length by omega)]
    by_cases h : xs[i]'(by omega) = ys[i]'(by omega)
    · rw [if_pos h, h]; simp only [List.cons.injEq, true_and]
    · rw [if_neg h]; have q : ¬ (xs[i]'(by omega) :: xs.drop (i + 1) = ys[i]'(by omega) :: ys.drop (i + 1)) := fun e => h (List.cons.inj e).1
      simp only [q, decide_false]
theorem laws_eqIntS_at (xs ys : List Int) (k : Nat) (hn : xs.length ≤ 4611686018427387904) (hk : xs.length < k) : laws_eqIntS.f k xs ys = some (decide (xs = ys)) := by
  simp only [laws_eqIntS.f]
  by_cases h : xs.length = ys.length
  · rw [if_pos (by omega)]
    have := laws_eqIntS_l xs ys h hn xs.length 0 k (by omega) hk
    simpa using this
  · rw [if_neg (by omega)]
    have : ¬ xs = ys := fun e => h (by rw [e])
    simp [this]

/-! anyInt(I=slices_IndexFunc__impl_arePeriods_1;C=slices_ContainsFunc__impl_arePeriods_1;P=impl_arePeriods_1) -/
/-- ContainsFunc over ints, the predicate without rounds. slices_IndexFunc__impl_arePeriods_1: IndexFunc, slices_ContainsFunc__impl_arePeriods_1: ContainsFunc, impl_arePeriods_1: the predicate's function -/
theorem slices_IndexFunc__impl_arePeriods_1_l (P : Int → Bool) (xs : List Int) (hP : ∀ x, x ∈ xs → impl_arePeriods_1.f x = some (P x)) (hn : xs.length ≤ 4611686018427387904) : ∀ (d i k : Nat), i + d = xs.length → d < k →
    ∃ r : Int, slices_IndexFunc__impl_arePeriods_1.l0 k xs xs.length i = some r ∧ (decide (r ≥ 0)) = (xs.drop i).any P := by
  intro d
  induction d with
  | zero =>
    intro i k h1 h2
    obtain ⟨k, rfl⟩ : ∃ q, k = q + 1 := ⟨k - 1, by omega⟩
    refine ⟨-1, ?_, ?_⟩
    · simp only [slices_IndexFunc__impl_arePeriods_1.l0]; rw [if_neg (by omega)]
    · rw [List.drop_eq_nil_of_le (by omega)]; rfl
  | succ d ih =>
    intro i k h1 h2
    obtain ⟨k, rfl⟩ : ∃ q, k = q + 1 := ⟨k - 1, by omega⟩
    simp only [slices_IndexFunc__impl_arePeriods_1.l0]
    have a1 : rd xs (i : Int) = xs[i]'(by omega) := by simp [rd, List.getD_eq_getElem?_getD, List.getElem?_eq_getElem (show i < xs.length by omega)]
    have a2 := hP (xs[i]'(by omega)) (List.getElem_mem _)
    rw [if_pos (by omega), if_pos (by omega), if_pos (by omega), a1, a2, Option.bind_some, List.drop_eq_getElem_cons (show i < xs.length by omega), List.any_cons]
    by_cases h : P (xs[i]'(by omega)) = true
    · exact ⟨i, by rw [if_pos h], by rw [h]; simp⟩
    · obtain ⟨r, hr, h3⟩ := ih (i + 1) k (by omega) (by omega)
      refine ⟨r, ?_, ?_⟩
      · rw [if_neg h, w64 (by omega) (by omega), show (i : Int) + 1 = ((i + 1 : Nat) : Int) by omega]; exact hr
      · rw [h3]; simp [h]
theorem slices_ContainsFunc__impl_arePeriods_1_at (P : Int → Bool) (xs : List Int) (k : Nat) (hP : ∀ x, x ∈ xs → impl_arePeriods_1.f x = some (P x)) (hn : xs.length ≤ 4611686018427387904) (hk : xs.length < k) : slices_ContainsFunc__impl_arePeriods_1.f k xs = some (xs.any P) := by
  obtain ⟨r, h1, h2⟩ := slices_IndexFunc__impl_arePeriods_1_l P xs hP hn xs.length 0 k (by omega) hk
  simp only [slices_ContainsFunc__impl_arePeriods_1.f, slices_IndexFunc__impl_arePeriods_1.f]
  rw [show (0 : Int) = ((0 : Nat) : Int) by rfl, h1, Option.bind_some]
  simp only [List.drop_zero] at h2; rw [← h2]; rfl

end FnExactIsTail_
open FnExactIsTail_
abbrev up (l : List Nat) : List Int := l.map fun n : Nat => (n : Int)
theorem up_rd (l : List Nat) (i : Nat) (h : i < l.length) : rd (up l) (i : Int) = (l[i] : Int) := by
  simp [up, rd, List.getD_eq_getElem?_getD, List.getElem?_eq_getElem h]
theorem up_len (l : List Nat) : (up l).length = l.length := by simp [up]
theorem slices_Equal_l (xs ys : List Int) (hl : xs.length = ys.length) (hn : xs.length ≤ 4611686018427387904) : ∀ (d i k : Nat), i + d = xs.length → d < k → slices_Equal_int_int.l0 k xs ys xs.length i = some (decide (xs.drop i = ys.drop i)) := by
  intro d
  induction d with
  | zero =>
    intro i k h1 h2
    obtain ⟨k, rfl⟩ : ∃ q, k = q + 1 := ⟨k - 1, by omega⟩
    simp only [slices_Equal_int_int.l0]; rw [if_neg (by omega), List.drop_eq_nil_of_le (by omega), List.drop_eq_nil_of_le (by omega)]; simp
  | succ d ih =>
    intro i k h1 h2
    obtain ⟨k, rfl⟩ : ∃ q, k = q + 1 := ⟨k - 1, by omega⟩
    simp only [slices_Equal_int_int.l0]
    rw [if_pos (by omega), if_pos (by omega), if_pos (by omega), if_pos (by omega), w64 (by omega) (by omega), show (i : Int) + 1 = ((i + 1 : Nat) : Int) by omega, ih (i + 1) k (by omega) (by omega)]
    have a1 : rd xs (i : Int) = xs[i]'(by omega) := by simp [rd, List.getD_eq_getElem?_getD, List.getElem?_eq_getElem (show i < xs.length by omega)]
    have a2 : rd ys (i : Int) = ys[i]'(by omega) := by simp [rd, List.getD_eq_getElem?_getD, List.getElem?_eq_getElem (show i < ys.length by omega)]
    rw [a1, a2, List.drop_eq_getElem_cons (show i < xs.length by omega), List.drop_eq_getElem_cons (show i < ys.length by omega)]
    by_cases h : xs[i]'(by omega) = ys[i]'(by omega)
    · rw [if_pos h, h]; simp only [List.cons.injEq, true_and]
    · rw [if_neg h]; have q : ¬ (xs[i]'(by omega) :: xs.drop (i + 1) = ys[i]'(by omega) :: ys.drop (i + 1)) := fun e => h (List.cons.inj e).1
      simp only [q, decide_false]
theorem slices_Equal_at (xs ys : List Int) (k : Nat) (hn : xs.length ≤ 4611686018427387904) (hk : xs.length < k) : slices_Equal_int_int.f k xs ys = some (decide (xs = ys)) := by
  simp only [slices_Equal_int_int.f]
  by_cases h : xs.length = ys.length
  · rw [if_pos (by omega)]
    have := slices_Equal_l xs ys h hn xs.length 0 k (by omega) hk
    simpa using this
  · rw [if_neg (by omega)]
    have : ¬ xs = ys := fun e => h (by rw [e])
    simp [this]
theorem minFunc_l (l : List Nat) (hb : ∀ x ∈ l, 1 ≤ x ∧ x ≤ 1000000) (hn : l.length ≤ 60) : ∀ (d i m : Nat), i + d = l.length → m ∈ l →
    ∃ r ∈ l, key r ≤ key m ∧ (∀ y ∈ l.drop i, key r ≤ key y) ∧ ∀ k, 1000010 + d < k → slices_MinFunc__impl_comparePeriods.l0 k (up l) m i = some (r : Int) := by
  intro d
  induction d with
  | zero =>
    intro i m h1 hm
    refine ⟨m, hm, Nat.le_refl _, ?_, fun k hk => ?_⟩
    · rw [List.drop_eq_nil_of_le (by omega)]; simp
    · obtain ⟨k, rfl⟩ : ∃ q, k = q + 1 := ⟨k - 1, by omega⟩
      simp only [slices_MinFunc__impl_comparePeriods.l0]; rw [if_neg (by rw [up_len]; omega)]
  | succ d ih =>
    intro i m h1 hm
    have hi : i < l.length := by omega
    have b1 := hb l[i] (List.getElem_mem hi); have b2 := hb m hm
    rw [List.drop_eq_getElem_cons hi]
    by_cases h : key l[i] < key m
    · obtain ⟨r, r1, r2, r3, r4⟩ := ih (i + 1) l[i] (by omega) (List.getElem_mem hi)
      refine ⟨r, r1, by omega, ?_, fun k hk => ?_⟩
      · intro y hy; rcases List.mem_cons.1 hy with rfl | hy
        · exact r2
        · exact r3 y hy
      · obtain ⟨k, rfl⟩ : ∃ q, k = q + 1 := ⟨k - 1, by omega⟩
        simp only [slices_MinFunc__impl_comparePeriods.l0]
        rw [if_pos (by rw [up_len]; omega), if_pos (by omega), up_rd l i hi, impl_comparePeriods_at _ _ k (by omega) (by omega) (by omega) (by omega) (by omega), Option.bind_some, w64 (by omega) (by omega), show (i : Int) + 1 = ((i + 1 : Nat) : Int) by omega, if_pos (by simp [cmpP, h]), r4 k (by omega)]
    · obtain ⟨r, r1, r2, r3, r4⟩ := ih (i + 1) m (by omega) hm
      refine ⟨r, r1, by omega, ?_, fun k hk => ?_⟩
      · intro y hy; rcases List.mem_cons.1 hy with rfl | hy
        · omega
        · exact r3 y hy
      · obtain ⟨k, rfl⟩ : ∃ q, k = q + 1 := ⟨k - 1, by omega⟩
        simp only [slices_MinFunc__impl_comparePeriods.l0]
        rw [if_pos (by rw [up_len]; omega), if_pos (by omega), up_rd l i hi, impl_comparePeriods_at _ _ k (by omega) (by omega) (by omega) (by omega) (by omega), Option.bind_some, w64 (by omega) (by omega), show (i : Int) + 1 = ((i + 1 : Nat) : Int) by omega, if_neg (by simp only [cmpP, h, if_false]; split <;> omega), r4 k (by omega)]
theorem minFunc_at (l : List Nat) (hb : ∀ x ∈ l, 1 ≤ x ∧ x ≤ 1000000) (hn : l.length ≤ 60) (h0 : 0 < l.length) :
    ∃ r ∈ l, (∀ y ∈ l, key r ≤ key y) ∧ ∀ k, 1000080 < k → slices_MinFunc__impl_comparePeriods.f k (up l) = some (r : Int) := by
  obtain ⟨r, r1, r2, r3, r4⟩ := minFunc_l l hb hn (l.length - 1) 1 l[0] (by omega) (List.getElem_mem h0)
  refine ⟨r, r1, fun y hy => ?_, fun k hk => ?_⟩
  · have e : l = l[0] :: l.drop 1 := by rw [← List.drop_eq_getElem_cons h0, List.drop_zero]
    rw [e] at hy
    rcases List.mem_cons.1 hy with rfl | hy
    · exact r2
    · exact r3 y hy
  · simp only [slices_MinFunc__impl_comparePeriods.f]
    have := r4 k (by omega)
    have e := up_rd l 0 h0
    rw [if_neg (by rw [up_len]; omega), if_pos (by rw [up_len]; omega), show (0 : Int) = ((0 : Nat) : Int) by rfl, e]
    exact this
/-- The rising test of the reference, from the second place on. -/
theorem rising_l (lo hi : Int) (l : List Nat) (hn : l.length ≤ 1000) : ∀ (d i k : Nat), i + 1 + d = l.length → d < k →
    spec_l1Rising.l0 k (up l) lo hi (up l) ((up l).length : Int) ((i + 1 : Nat) : Int) = some (((up l).drop (i + 1)).all (fun x => decide (lo ≤ x ∧ x ≤ hi)) && asc (l.drop i)) := by
  intro d
  induction d with
  | zero =>
    intro i k h1 h2
    obtain ⟨k, rfl⟩ : ∃ q, k = q + 1 := ⟨k - 1, by omega⟩
    simp only [spec_l1Rising.l0]; rw [if_neg (by rw [up_len]; omega), List.drop_eq_nil_of_le (by rw [up_len]; omega), List.drop_eq_getElem_cons (show i < l.length by omega), List.drop_eq_nil_of_le (by omega)]; rfl
  | succ d ih =>
    intro i k h1 h2
    obtain ⟨k, rfl⟩ : ∃ q, k = q + 1 := ⟨k - 1, by omega⟩
    have hi0 : i < l.length := by omega
    have hi1 : i + 1 < l.length := by omega
    simp only [spec_l1Rising.l0]
    have e1 : (up l).drop (i + 1) = (l[i + 1] : Int) :: (up l).drop (i + 2) := by
      rw [List.drop_eq_getElem_cons (show i + 1 < (up l).length by rw [up_len]; omega)]; simp [up]
    have e2 : asc (l.drop i) = (decide (l[i] < l[i + 1]) && asc (l.drop (i + 1))) := by
      rw [List.drop_eq_getElem_cons hi0]
      conv => lhs; rw [List.drop_eq_getElem_cons hi1]
      conv => rhs; rw [List.drop_eq_getElem_cons hi1]
      rfl
    rw [if_pos (by rw [up_len]; omega), if_pos (by omega), if_pos (by rw [up_len]; omega), up_rd l (i + 1) hi1, spec_l1In_eq, Option.bind_some, if_pos (show ((i + 1 : Nat) : Int) > 0 by omega), w64 (x := ((i + 1 : Nat) : Int) - 1) (by omega) (by omega), w64 (x := ((i + 1 : Nat) : Int) + 1) (by omega) (by omega),
      show ((i + 1 : Nat) : Int) - 1 = (i : Int) by omega, show ((i + 1 : Nat) : Int) + 1 = ((i + 1 + 1 : Nat) : Int) by omega, if_pos (show (0 : Int) ≤ (i : Int) by omega), if_pos (show (i : Int) < ((up l).length : Int) by rw [up_len]; omega), up_rd l i hi0, ih (i + 1) k (by omega) (by omega), e1, e2, List.all_cons]
    by_cases h : lo ≤ (l[i + 1] : Int) ∧ (l[i + 1] : Int) ≤ hi
    · by_cases g : l[i] < l[i + 1]
      · rw [if_pos (by simpa using h), if_neg (by omega)]; simp [h, g]
      · rw [if_pos (by simpa using h), if_pos (by omega)]; simp [g]
    · rw [if_neg (by simpa using h)]; simp [h]
theorem rising_at (lo hi : Int) (l : List Nat) (hn : l.length ≤ 1000) (h0 : 0 < l.length) (k : Nat) (hk : l.length < k) :
    spec_l1Rising.f k (up l) lo hi = some ((up l).all (fun x => decide (lo ≤ x ∧ x ≤ hi)) && asc l) := by
  obtain ⟨k, rfl⟩ : ∃ q, k = q + 1 := ⟨k - 1, by omega⟩
  simp only [spec_l1Rising.f, spec_l1Rising.l0]
  have e0 := up_rd l 0 h0
  have e1 : up l = (l[0] : Int) :: (up l).drop 1 := by
    conv => lhs; rw [← List.drop_zero (l := up l), List.drop_eq_getElem_cons (show 0 < (up l).length by rw [up_len]; omega)]
    simp [up]
  have e2 : (up l).all (fun x => decide (lo ≤ x ∧ x ≤ hi)) = (decide (lo ≤ (l[0] : Int) ∧ (l[0] : Int) ≤ hi) && ((up l).drop 1).all (fun x => decide (lo ≤ x ∧ x ≤ hi))) := by
    conv => lhs; rw [e1]
    rw [List.all_cons]
  have r := rising_l lo hi l hn (l.length - 1) 0 k (by omega) (by omega)
  simp only [Nat.zero_add, List.drop_zero] at r
  have w : wrap64 (((0 : Nat) : Int) + 1) = ((1 : Nat) : Int) := by rw [w64 (by omega) (by omega)]; rfl
  rw [show (0 : Int) = ((0 : Nat) : Int) by rfl, if_pos (by rw [up_len]; omega), if_pos (by omega), if_pos (by rw [up_len]; omega), e0, spec_l1In_eq, Option.bind_some, if_neg (show ¬ (((0 : Nat) : Int) > ((0 : Nat) : Int)) by omega), w, r, e2]
  by_cases h : lo ≤ (l[0] : Int) ∧ (l[0] : Int) ≤ hi
  · rw [if_pos (by simpa using h)]; simp [h]
  · rw [if_neg (by simpa using h)]; simp [h]
theorem tail_l1 (X : List Int) (a : Int) (L : List Int) (m i : Int) (R : Bool × Bool) (B : Nat) (hR : ∀ k, B < k → spec_IsTail.l0 k X a L m (wrap64 (i + 1)) = some R) (hX : X.length ≤ 1000) (ys : List Int) (hy : ys.length ≤ 1000) : ∀ (d j k : Nat), j + d = ys.length → B + d + 1 < k → 1010 + d < k →
    spec_IsTail.l1 k X a L m i ys (ys.length : Int) (j : Int) = some (if (ys.drop j).all (fun y => decide (y ∈ X)) = true then R else (false, true)) := by
  intro d
  induction d with
  | zero =>
    intro j k h1 h2 h3
    obtain ⟨k, rfl⟩ : ∃ q, k = q + 1 := ⟨k - 1, by omega⟩
    simp only [spec_IsTail.l1]; rw [if_neg (by omega), hR k (by omega), List.drop_eq_nil_of_le (by omega)]; simp
  | succ d ih =>
    intro j k h1 h2 h3
    obtain ⟨k, rfl⟩ : ∃ q, k = q + 1 := ⟨k - 1, by omega⟩
    simp only [spec_IsTail.l1]
    have a1 : rd ys (j : Int) = ys[j]'(by omega) := by simp [rd, List.getD_eq_getElem?_getD, List.getElem?_eq_getElem (show j < ys.length by omega)]
    rw [if_pos (by omega), if_pos (by omega), if_pos (by omega), a1, spec_l1Has_at X _ k (by omega) (by omega), Option.bind_some, w64 (by omega) (by omega), show (j : Int) + 1 = ((j + 1 : Nat) : Int) by omega, ih (j + 1) k (by omega) (by omega) (by omega), List.drop_eq_getElem_cons (show j < ys.length by omega), List.all_cons]
    by_cases h : ys[j]'(by omega) ∈ X
    · rw [if_pos (by simpa using h)]; simp [h]
    · rw [if_neg (by simpa using h)]; simp [h]
theorem tail_l0 (l : List Nat) (most : Nat) (hm : most ≤ 200) (hb : ∀ x ∈ l, 1 ≤ x ∧ x ≤ 1000000) (hn : l.length ≤ 60) : ∀ (d i k : Nat), i + d = l.length → 1000500 + d * 300 < k →
    spec_IsTail.l0 k (up l) most (up l) ((up l).length : Int) (i : Int) = some ((l.drop i).all (fun n => (fl n most 1).all fun m => decide (m ∈ up l)), true) := by
  intro d
  induction d with
  | zero =>
    intro i k h1 h2
    obtain ⟨k, rfl⟩ : ∃ q, k = q + 1 := ⟨k - 1, by omega⟩
    simp only [spec_IsTail.l0]; rw [if_neg (by rw [up_len]; omega), List.drop_eq_nil_of_le (by omega)]; rfl
  | succ d ih =>
    intro i k h1 h2
    obtain ⟨k, rfl⟩ : ∃ q, k = q + 1 := ⟨k - 1, by omega⟩
    have hi : i < l.length := by omega
    have b1 := hb l[i] (List.getElem_mem hi)
    simp only [spec_IsTail.l0]
    have ln := fl_len l[i] most 1
    rw [if_pos (by rw [up_len]; omega), if_pos (by omega), if_pos (by rw [up_len]; omega), up_rd l i hi, spec_skForced_at l[i] most k (by omega) (by omega) hm (by omega), Option.bind_some]
    have e := tail_l1 (up l) most (up l) ((up l).length : Int) (i : Int) _ (1000500 + d * 300) (fun k hk => by
      rw [w64 (by omega) (by omega), show (i : Int) + 1 = ((i + 1 : Nat) : Int) by omega]
      exact ih (i + 1) k (by omega) hk) (by rw [up_len]; omega) (fl l[i] most 1) (by omega) (fl l[i] most 1).length 0 k (by omega) (by omega) (by omega)
    rw [show ((0 : Nat) : Int) = 0 by rfl] at e
    rw [e, List.drop_zero, List.drop_eq_getElem_cons hi, List.all_cons]
    by_cases h : ((fl l[i] most 1).all fun y => decide (y ∈ up l)) = true
    · rw [if_pos h, h, Bool.true_and]
    · rw [if_neg h]; simp only [Bool.not_eq_true] at h; rw [h, Bool.false_and]
theorem itail_l (l : List Nat) (most : Int) (R : Bool × Bool) (hn : l.length ≤ 60) (hR : ∀ k, 1000400 < k → ((slices_MinFunc__impl_comparePeriods.f k (up l)).bind fun t173 => ((impl_forced.f k t173 most).bind fun t174 => ((slices_Equal_int_int.f k (up l) t174).bind fun t177 => (some (t177, true))))) = some R) : ∀ (d i k : Nat), i + 1 + d = l.length → 1000400 + d + 1 < k →
    impl_IsTail.l0 k (up l) most ((i + 1 : Nat) : Int) = some (if asc (l.drop i) = true then R else (false, false)) := by
  intro d
  induction d with
  | zero =>
    intro i k h1 h2
    obtain ⟨k, rfl⟩ : ∃ q, k = q + 1 := ⟨k - 1, by omega⟩
    simp only [impl_IsTail.l0]; rw [if_neg (by rw [up_len]; omega), hR k (by omega), List.drop_eq_getElem_cons (show i < l.length by omega), List.drop_eq_nil_of_le (by omega)]; rfl
  | succ d ih =>
    intro i k h1 h2
    obtain ⟨k, rfl⟩ : ∃ q, k = q + 1 := ⟨k - 1, by omega⟩
    have hi0 : i < l.length := by omega
    have hi1 : i + 1 < l.length := by omega
    have e2 : asc (l.drop i) = (decide (l[i] < l[i + 1]) && asc (l.drop (i + 1))) := by
      rw [List.drop_eq_getElem_cons hi0]
      conv => lhs; rw [List.drop_eq_getElem_cons hi1]
      conv => rhs; rw [List.drop_eq_getElem_cons hi1]
      rfl
    simp only [impl_IsTail.l0]
    rw [if_pos (by rw [up_len]; omega), w64 (x := ((i + 1 : Nat) : Int) - 1) (by omega) (by omega), w64 (x := ((i + 1 : Nat) : Int) + 1) (by omega) (by omega), show ((i + 1 : Nat) : Int) - 1 = (i : Int) by omega, show ((i + 1 : Nat) : Int) + 1 = ((i + 1 + 1 : Nat) : Int) by omega, if_pos (show (0 : Int) ≤ (i : Int) by omega), if_pos (by rw [up_len]; omega), if_pos (by omega), up_rd l i hi0, up_rd l (i + 1) hi1, ih (i + 1) k (by omega) (by omega), e2]
    by_cases g : l[i] < l[i + 1]
    · rw [if_neg (by omega)]; simp [g]
    · rw [if_pos (by omega)]; simp [g]
theorem FnExactIsTail : laws_FnExactIsTail.Pure := by
  intro xs a _ _ _ _
  refine ⟨2000000, ?_⟩
  by_cases big : (xs.length : Int) > 1048576
  · simp [laws_FnExactIsTail.f, big]
  have key : ∃ r : Bool × Bool, ∀ k, 1999990 < k → spec_IsTail.f k xs a = some r ∧ impl_IsTail.f k xs a = some r := by
    have s1 : ∀ k, 1999990 < k → spec_skList.f k xs = some (decide (1 ≤ (xs.length : Int) ∧ (xs.length : Int) ≤ 60) && xs.all fun x => decide (1 ≤ x ∧ x ≤ 1000000)) := fun k hk => by
      simp only [spec_skList.f, spec_l1In_eq, spec_l1All_at xs 1 1000000 k (by omega) (by omega), Option.bind_some]
      by_cases h : 1 ≤ (xs.length : Int) ∧ (xs.length : Int) ≤ 60 <;> simp [h]
    have s2 : ∀ k, 1999990 < k → impl_arePeriods.f k xs = some (decide (1 ≤ (xs.length : Int) ∧ (xs.length : Int) ≤ 60) && xs.all fun x => decide (1 ≤ x ∧ x ≤ 1000000)) := fun k hk => by
      have c := slices_ContainsFunc__impl_arePeriods_1_at (fun x => !decide (1 ≤ x ∧ x ≤ 1000000)) xs k (fun x _ => by simp only [impl_arePeriods_1.f, impl_isPeriod_eq, Option.bind_some]) (by omega) (by omega)
      simp only [impl_arePeriods.f, impl_within_eq, c, Option.bind_some]
      have e : (!xs.any fun x => !decide (1 ≤ x ∧ x ≤ 1000000)) = xs.all fun x => decide (1 ≤ x ∧ x ≤ 1000000) := by rw [List.all_eq_not_any_not]
      rw [e]
      by_cases h : 1 ≤ (xs.length : Int) ∧ (xs.length : Int) ≤ 60 <;> simp [h]
    by_cases v : (decide (1 ≤ (xs.length : Int) ∧ (xs.length : Int) ≤ 60) && xs.all fun x => decide (1 ≤ x ∧ x ≤ 1000000)) = true
    · by_cases h2 : 1 ≤ a ∧ a ≤ 200
      · rw [Bool.and_eq_true, decide_eq_true_eq, List.all_eq_true] at v
        obtain ⟨v1, v2⟩ := v
        obtain ⟨l, rfl⟩ : ∃ l : List Nat, xs = up l := ⟨xs.map Int.toNat, by
          rw [up, List.map_map]
          conv => lhs; rw [← List.map_id xs]
          exact List.map_congr_left fun x hx => by have := v2 x hx; simp at this; simp; omega⟩
        obtain ⟨most, rfl⟩ : ∃ n : Nat, a = n := ⟨a.toNat, by omega⟩
        have ln := up_len l
        have hb : ∀ x ∈ l, 1 ≤ x ∧ x ≤ 1000000 := fun x hx => by
          have := v2 (x : Int) (List.mem_map.2 ⟨x, hx, rfl⟩); simp at this; omega
        have hn : l.length ≤ 60 := by omega
        have h0 : 0 < l.length := by omega
        obtain ⟨r, r1, r2, r3⟩ := minFunc_at l hb hn h0
        have hr := hb r r1
        have hne : l ≠ [] := by intro e; simp [e] at h0
        have lst : rd (up l) (((up l).length : Int) - 1) = (l.getLast hne : Int) := by
          rw [ln, show (l.length : Int) - 1 = ((l.length - 1 : Nat) : Int) by omega, up_rd l _ (by omega), List.getLast_eq_getElem]
        have R : ∀ k, 1000400 < k → ((slices_MinFunc__impl_comparePeriods.f k (up l)).bind fun t173 => ((impl_forced.f k t173 most).bind fun t174 => ((slices_Equal_int_int.f k (up l) t174).bind fun t177 => (some (t177, true))))) = some (decide (up l = fl r most 1), true) := fun k hk => by
          rw [r3 k (by omega), Option.bind_some, impl_forced_at r most k (by omega) (by omega) (by omega) (by omega), Option.bind_some, slices_Equal_at _ _ k (by omega) (by omega), Option.bind_some]
        have w : wrap64 (((up l).length : Int) - 1) = ((up l).length : Int) - 1 := w64 (by omega) (by omega)
        have A : ∀ k, 1999990 < k → impl_IsTail.f k (up l) (most : Int) = some (if (decide (((l.getLast hne : Nat) : Int) ≤ most) && asc l) = true then (decide (up l = fl r most 1), true) else (false, false)) := fun k hk => by
          obtain ⟨k, rfl⟩ : ∃ q, k = q + 1 := ⟨k - 1, by omega⟩
          have e := itail_l l most _ hn R (l.length - 1) 0 k (by omega) (by omega)
          simp only [Nat.zero_add, List.drop_zero] at e
          rw [show ((1 : Nat) : Int) = 1 by rfl] at e
          have va : (decide (1 ≤ ((up l).length : Int) ∧ ((up l).length : Int) ≤ 60) && (up l).all fun x => decide (1 ≤ x ∧ x ≤ 1000000)) = true := by rw [Bool.and_eq_true, decide_eq_true_eq, List.all_eq_true]; exact ⟨v1, v2⟩
          simp only [impl_IsTail.f, s2 (k + 1) hk, va, impl_isMost_eq, h2, and_self, decide_true, Option.bind_some, if_true, w, lst, impl_IsTail.j0, e]
          rw [if_pos (by omega), if_pos (by omega)]
          by_cases g : ((l.getLast hne : Nat) : Int) ≤ most
          · rw [if_neg (by simp; omega)]; simp [g]
          · rw [if_pos (by simp; omega)]; simp [g]
        have S : ∀ k, 1999990 < k → spec_IsTail.f k (up l) (most : Int) = some (if ((up l).all (fun x => decide (1 ≤ x ∧ x ≤ (most : Int))) && asc l) = true then (l.all (fun n => (fl n most 1).all fun m => decide (m ∈ up l)), true) else (false, false)) := fun k hk => by
          obtain ⟨k, rfl⟩ : ∃ q, k = q + 1 := ⟨k - 1, by omega⟩
          have e := tail_l0 l most (by omega) hb hn l.length 0 k (by omega) (by omega)
          simp only [List.drop_zero] at e
          rw [show ((0 : Nat) : Int) = 0 by rfl] at e
          have va : (decide (1 ≤ ((up l).length : Int) ∧ ((up l).length : Int) ≤ 60) && (up l).all fun x => decide (1 ≤ x ∧ x ≤ 1000000)) = true := by rw [Bool.and_eq_true, decide_eq_true_eq, List.all_eq_true]; exact ⟨v1, v2⟩
          simp only [spec_IsTail.f, s1 (k + 1) hk, va, spec_skMost_eq, h2, and_self, decide_true, Option.bind_some, if_true, rising_at 1 most l (by omega) h0 (k + 1) (by omega), spec_IsTail.j0, e]
          by_cases g : ((up l).all (fun x => decide (1 ≤ x ∧ x ≤ (most : Int))) && asc l) = true
          · rw [g]; simp
          · simp only [Bool.not_eq_true] at g; rw [g]; simp
        refine ⟨_, fun k hk => ⟨S k hk, ?_⟩⟩
        rw [A k hk]
        congr 1
        by_cases ha : asc l = true
        · have c1 : (up l).all (fun x => decide (1 ≤ x ∧ x ≤ (most : Int))) = decide (((l.getLast hne : Nat) : Int) ≤ most) := by
            rw [Bool.eq_iff_iff, List.all_eq_true, decide_eq_true_eq]
            constructor
            · intro h; have := h (l.getLast hne : Int) (List.mem_map.2 ⟨_, List.getLast_mem hne, rfl⟩); simp at this; omega
            · intro h x hx; obtain ⟨q, hq, rfl⟩ := List.mem_map.1 hx; have := asc_last l hne ha q hq; have := hb q hq; simp; omega
          rw [c1, ha, Bool.and_true]
          by_cases g : ((l.getLast hne : Nat) : Int) ≤ most
          · rw [if_pos (by simpa using g), if_pos (by simpa using g)]
            have := tail_eq l most r ha (fun x hx => by have := asc_last l hne ha x hx; have := hb x hx; omega) r1 r2
            rw [this]
          · rw [if_neg (by simpa using g), if_neg (by simpa using g)]
        · simp only [Bool.not_eq_true] at ha; rw [ha, Bool.and_false, Bool.and_false]; simp
      · refine ⟨(false, false), fun k hk => ?_⟩
        obtain ⟨k, rfl⟩ : ∃ q, k = q + 1 := ⟨k - 1, by omega⟩
        simp [spec_IsTail.f, impl_IsTail.f, s1 (k + 1) hk, s2 (k + 1) hk, v, spec_skMost_eq, impl_isMost_eq, h2, spec_IsTail.j0, impl_IsTail.j0]
    · simp only [Bool.not_eq_true] at v
      refine ⟨(false, false), fun k hk => ?_⟩
      obtain ⟨k, rfl⟩ : ∃ q, k = q + 1 := ⟨k - 1, by omega⟩
      simp only [spec_IsTail.f, impl_IsTail.f, s1 (k + 1) hk, s2 (k + 1) hk, v, Option.bind_some, Bool.false_eq_true, if_false, spec_IsTail.j0, impl_IsTail.j0, if_true, and_self]
  obtain ⟨r, hk⟩ := key
  have t := fun k (h : 1999990 < k) => laws_toIntS_at xs k (by omega) (by omega)
  have z := fun k (h : 1999990 < k) => laws_eqIntS_at xs xs k (by omega) (by omega)
  simp only [laws_FnExactIsTail.f, if_neg big, laws_FnExactIsTail.j0, (hk 2000000 (by omega)).1, (hk 2000000 (by omega)).2, t 2000000 (by omega), t 1999999 (by omega), z 1999999 (by omega), Option.bind_some, bne_self_eq_false, decide_true, if_true, if_false, Bool.false_eq_true]

end Go.Proofs.Ytmpccnagidednaa.Pure
