/- The program's ForcedPeriods returns what the reference's returns, for all arguments. -/
import Derived.Test.YtjeaeaagaaedaaaPFnExactForcedPeriodsx3
import Derived.Test.YtjeaeaagaaedaaaMathSplit
import Derived.Test.YtjeaeaagaaedaaaMathShark
import Derived.Test.YtjeaeaagaaedaaaMathMarks
namespace Go.Proofs.Ytjeaeaagaaedaaa.Pure
open Go.RowKit Go.Proofs.Ytjeaeaagaaedaaa.PFnExactForcedPeriods Go.Proofs.YtjeaeaagaaedaaaW.PrintWords Go.Proofs.YtjeaeaagaaedaaaW.PrintLast Go.Proofs.YtjeaeaagaaedaaaW.PrintMore Go.Proofs.Ytjeaeaagaaedaaa.Math
set_option linter.unusedVariables false
set_option linter.unusedSimpArgs false
namespace FnExactForcedPeriods_
/-! wrap -/
theorem w64 {x : Int} (h1 : -9223372036854775808 ≤ x) (h2 : x ≤ 9223372036854775807) : wrap64 x = x := by unfold wrap64; omega

/-! split -/
theorem spec_split_l (n : Nat) : ∀ (c k : Nat), 0 < n → n + c ≤ 4611686018427387904 → n < k → spec_skSplit.l0 k (n : Int) (c : Int) = some (((c + ex n : Nat) : Int), ((od n : Nat) : Int)) := by
  induction n using Nat.strongRecOn with
  | _ n ih =>
    intro c k h0 hc hk
    obtain ⟨k, rfl⟩ : ∃ m, k = m + 1 := ⟨k - 1, by omega⟩
    simp only [spec_skSplit.l0]
    rw [Int.tmod_eq_emod_of_nonneg (by omega), Int.tdiv_eq_ediv_of_nonneg (by omega)]
    by_cases h : n % 2 = 0
    · rw [if_pos (by omega), w64 (by omega) (by omega), w64 (by omega) (by omega), show (n : Int) / 2 = ((n / 2 : Nat) : Int) by omega, show (c : Int) + 1 = ((c + 1 : Nat) : Int) by omega,
        ih (n / 2) (by omega) (c + 1) k (by omega) (by omega) (by omega), ex_even h0 h, od_even h0 h, show c + 1 + ex (n / 2) = c + (ex (n / 2) + 1) by omega]
    · rw [if_neg (by omega), ex_odd (by omega), od_odd (by omega)]; rfl
theorem spec_split_at (n : Nat) (k : Nat) (h0 : 0 < n) (hn : n ≤ 4611686018427387904) (hk : n < k) : spec_skSplit.f k (n : Int) = some (((ex n : Nat) : Int), ((od n : Nat) : Int)) := by
  have := spec_split_l n 0 k h0 (by omega) hk
  simpa [spec_skSplit.f] using this
theorem impl_split_l (n : Nat) : ∀ (c k : Nat), 0 < n → n + c ≤ 4611686018427387904 → n < k → impl_split.l0 k (n : Int) (c : Int) = some (((c + ex n : Nat) : Int), ((od n : Nat) : Int)) := by
  induction n using Nat.strongRecOn with
  | _ n ih =>
    intro c k h0 hc hk
    obtain ⟨k, rfl⟩ : ∃ m, k = m + 1 := ⟨k - 1, by omega⟩
    simp only [impl_split.l0]
    rw [Int.tmod_eq_emod_of_nonneg (by omega), Int.tdiv_eq_ediv_of_nonneg (by omega)]
    by_cases h : n % 2 = 0
    · rw [if_pos (by omega), w64 (by omega) (by omega), w64 (by omega) (by omega), show (n : Int) / 2 = ((n / 2 : Nat) : Int) by omega, show (c : Int) + 1 = ((c + 1 : Nat) : Int) by omega,
        ih (n / 2) (by omega) (c + 1) k (by omega) (by omega) (by omega), ex_even h0 h, od_even h0 h, show c + 1 + ex (n / 2) = c + (ex (n / 2) + 1) by omega]
    · rw [if_neg (by omega), ex_odd (by omega), od_odd (by omega)]; rfl
theorem impl_split_at (n : Nat) (k : Nat) (h0 : 0 < n) (hn : n ≤ 4611686018427387904) (hk : n < k) : impl_split.f k (n : Int) = some (((ex n : Nat) : Int), ((od n : Nat) : Int)) := by
  have := impl_split_l n 0 k h0 (by omega) hk
  simpa [impl_split.f] using this

/-! skBefore -/
theorem spec_skBefore_at (a b k : Nat) (ha : 0 < a) (hb : 0 < b) (ha2 : a ≤ 1000000) (hb2 : b ≤ 1000000) (hk : 1000005 < k) :
    spec_skBefore.f k (a : Int) (b : Int) = some (decide (key a < key b)) := by
  have a1 := ex_small ha ha2; have a2 := ex_small hb hb2; have b1 := od_le a; have b2 := od_le b; have c1 := od_pos ha; have c2 := od_pos hb
  obtain ⟨k, rfl⟩ : ∃ m, k = m + 2 := ⟨k - 2, by omega⟩
  simp only [spec_skBefore.f, spec_split_at a (k + 2) ha (by omega) (by omega), spec_split_at b (k + 2) hb (by omega) (by omega), Option.bind_some, spec_skBefore.j0, spec_skBefore.j1, key]
  have cp : ((od a : Nat) : Int) = 1 ↔ od a = 1 := by omega
  have cq : ((od b : Nat) : Int) = 1 ↔ od b = 1 := by omega
  have cr : ((ex a : Nat) : Int) = ((ex b : Nat) : Int) ↔ ex a = ex b := by omega
  have cb : (((od b : Nat) : Int) == 1) = decide (od b = 1) := by rw [Bool.eq_iff_iff]; simp; omega
  by_cases p : od a = 1 <;> by_cases q : od b = 1 <;> by_cases r : ex a = ex b <;> simp [cb, cp, cq, cr, p, q, r] <;> omega

/-! cmpPeriods -/
theorem cmp_Compare_eq (a b : Int) : cmp_Compare_int.f a b = some (if a < b then -1 else if a > b then 1 else 0) := by
  simp only [cmp_Compare_int.f, cmp_isNaN_int.f]; simp only [bne_self_eq_false, Option.bind_some]; simp
  repeat' split <;> simp_all
theorem cmp_Or_eq (k : Nat) (a b : Int) (hk : 3 < k) : cmp_Or_int.f k [a, b] = some (if a = 0 then b else a) := by
  obtain ⟨k, rfl⟩ : ∃ m, k = m + 3 := ⟨k - 3, by omega⟩
  have e : wrap64 (0 + 1) = 1 := by unfold wrap64; omega
  have e2 : wrap64 (1 + 1) = 2 := by unfold wrap64; omega
  simp only [cmp_Or_int.f, cmp_Or_int.l0, e, e2]
  by_cases p : a = 0 <;> by_cases q : b = 0 <;> simp [p, q, rd]
theorem impl_comparePeriods_at (a b k : Nat) (ha : 0 < a) (hb : 0 < b) (ha2 : a ≤ 1000000) (hb2 : b ≤ 1000000) (hk : 1000005 < k) :
    impl_comparePeriods.f k (a : Int) (b : Int) = some (cmpP a b) := by
  have a1 := ex_small ha ha2; have a2 := ex_small hb hb2; have b1 := od_le a; have b2 := od_le b; have c1 := od_pos ha; have c2 := od_pos hb
  obtain ⟨k, rfl⟩ : ∃ m, k = m + 1 := ⟨k - 1, by omega⟩
  simp only [impl_comparePeriods.f, impl_split_at a (k + 1) ha (by omega) (by omega), impl_split_at b (k + 1) hb (by omega) (by omega), Option.bind_some, impl_comparePeriods.j0, cmp_Compare_eq, cmp_Or_eq k _ _ (by omega), cmpP, key]
  have cp : ((od a : Nat) : Int) = 1 ↔ od a = 1 := by omega
  have cq : ((od b : Nat) : Int) = 1 ↔ od b = 1 := by omega
  have cb : (((od b : Nat) : Int) == 1) = decide (od b = 1) := by rw [Bool.eq_iff_iff]; simp; omega
  by_cases p : od a = 1 <;> by_cases q : od b = 1 <;> simp [cb, cp, cq, p, q] <;> (repeat' split) <;> (first | rfl | omega)

/-! forces -/
theorem spec_skForces_at (a b k : Nat) (ha : 0 < a) (hb : 0 < b) (ha2 : a ≤ 1000000) (hb2 : b ≤ 1000000) (hk : 1000005 < k) :
    spec_skForces.f k (a : Int) (b : Int) = some (decide (key a ≤ key b)) := by
  simp only [spec_skForces.f, spec_skBefore_at b a k hb ha hb2 ha2 hk, Option.bind_some]
  rw [← decide_not]; congr 2; rw [Nat.not_lt]
theorem impl_forces_at (a b k : Nat) (ha : 0 < a) (hb : 0 < b) (ha2 : a ≤ 1000000) (hb2 : b ≤ 1000000) (hk : 1000005 < k) :
    impl_forces.f k (a : Int) (b : Int) = some (decide (key a ≤ key b)) := by
  simp only [impl_forces.f, impl_comparePeriods_at a b k ha hb ha2 hb2 hk, Option.bind_some, cmpP]
  congr 2; rw [eq_iff_iff]
  repeat' split <;> omega

/-! forced -/
theorem spec_skForced_l (n most : Nat) (hn : 0 < n) (hn2 : n ≤ 1000000) (hm : most ≤ 200) : ∀ (d m k : Nat) (acc : List Int), m + d = most + 1 → 0 < m → acc.length + d < 1000 → 1000006 + d < k →
    spec_skForced.l0 k n most acc m = some (acc ++ fl n d m) := by
  intro d
  induction d with
  | zero =>
    intro m k acc h1 h2 h3 h4
    obtain ⟨k, rfl⟩ : ∃ q, k = q + 1 := ⟨k - 1, by omega⟩
    simp only [spec_skForced.l0, fl]; rw [if_neg (by omega)]; simp
  | succ d ih =>
    intro m k acc h1 h2 h3 h4
    obtain ⟨k, rfl⟩ : ∃ q, k = q + 1 := ⟨k - 1, by omega⟩
    simp only [spec_skForced.l0, fl]
    rw [if_pos (by omega), spec_skForces_at n m k hn h2 hn2 (by omega) (by omega), Option.bind_some, w64 (x := (m : Int) + 1) (by omega) (by omega), show (m : Int) + 1 = ((m + 1 : Nat) : Int) by omega]
    by_cases h : key n ≤ key m
    · rw [if_pos (by simpa using h), if_pos (by omega), ih (m + 1) k _ (by omega) (by omega) (by simp; omega) (by omega), if_pos h]; simp
    · rw [if_neg (by simpa using h), ih (m + 1) k _ (by omega) (by omega) (by omega) (by omega), if_neg h]
theorem spec_skForced_at (n most k : Nat) (hn : 0 < n) (hn2 : n ≤ 1000000) (hm : most ≤ 200) (hk : 1000300 < k) : spec_skForced.f k n most = some (fl n most 1) := by
  have := spec_skForced_l n most hn hn2 hm most 1 k [] (by omega) (by omega) (by simp; omega) (by omega)
  simpa [spec_skForced.f] using this

/-! forced2 -/
theorem impl_forced_l (n most : Nat) (hn : 0 < n) (hn2 : n ≤ 1000000) (hm : most ≤ 200) : ∀ (d m k : Nat) (acc : List Int), m + d = most + 1 → 0 < m → acc.length + d < 1000 → 1000006 + d < k →
    impl_forced.l0 k n most acc m = some (acc ++ fl n d m) := by
  intro d
  induction d with
  | zero =>
    intro m k acc h1 h2 h3 h4
    obtain ⟨k, rfl⟩ : ∃ q, k = q + 1 := ⟨k - 1, by omega⟩
    simp only [impl_forced.l0, fl]; rw [if_neg (by omega)]; simp
  | succ d ih =>
    intro m k acc h1 h2 h3 h4
    obtain ⟨k, rfl⟩ : ∃ q, k = q + 1 := ⟨k - 1, by omega⟩
    simp only [impl_forced.l0, fl]
    rw [if_pos (by omega), impl_forces_at n m k hn h2 hn2 (by omega) (by omega), Option.bind_some, w64 (x := (m : Int) + 1) (by omega) (by omega), show (m : Int) + 1 = ((m + 1 : Nat) : Int) by omega]
    by_cases h : key n ≤ key m
    · rw [if_pos (by simpa using h), if_pos (by omega), ih (m + 1) k _ (by omega) (by omega) (by simp; omega) (by omega), if_pos h]; simp
    · rw [if_neg (by simpa using h), ih (m + 1) k _ (by omega) (by omega) (by omega) (by omega), if_neg h]
theorem impl_forced_at (n most k : Nat) (hn : 0 < n) (hn2 : n ≤ 1000000) (hm : most ≤ 200) (hk : 1000300 < k) : impl_forced.f k n most = some (fl n most 1) := by
  have := impl_forced_l n most hn hn2 hm most 1 k [] (by omega) (by omega) (by simp; omega) (by omega)
  simpa [impl_forced.f] using this

/-! l1In -/
theorem spec_l1In_eq (a b c : Int) : spec_l1In.f a b c = some (decide (b ≤ a ∧ a ≤ c)) := by
  unfold spec_l1In.f; split <;> simp <;> omega

/-! within -/
theorem impl_within_eq (a b c : Int) : impl_within.f a b c = some (decide (b ≤ a ∧ a ≤ c)) := by
  unfold impl_within.f; split <;> simp <;> omega

/-! period -/
theorem spec_skPeriod_eq (a : Int) : spec_skPeriod.f a = some (decide (1 ≤ a ∧ a ≤ 1000000)) := by
  unfold spec_skPeriod.f; rw [spec_l1In_eq]; rfl
theorem impl_isPeriod_eq (a : Int) : impl_isPeriod.f a = some (decide (1 ≤ a ∧ a ≤ 1000000)) := by
  unfold impl_isPeriod.f; rw [impl_within_eq]; rfl

/-! most -/
theorem spec_skMost_eq (a : Int) : spec_skMost.f a = some (decide (1 ≤ a ∧ a ≤ 200)) := by
  unfold spec_skMost.f; rw [spec_l1In_eq]; rfl
theorem impl_isMost_eq (a : Int) : impl_isMost.f a = some (decide (1 ≤ a ∧ a ≤ 200)) := by
  unfold impl_isMost.f; rw [impl_within_eq]; rfl

/-! marks -/
theorem laws_eqIntS_l (xs ys : List Int) (hl : xs.length = ys.length) (hn : xs.length ≤ 4611686018427387904) : ∀ (d i k : Nat), i + d = xs.length → d < k → laws_eqIntS.l0 k xs ys i = some (decide (xs.drop i = ys.drop i)) := by
  intro d
  induction d with
  | zero =>
    intro i k h1 h2
    obtain ⟨k, rfl⟩ : ∃ q, k = q + 1 := ⟨k - 1, by omega⟩
    simp only [laws_eqIntS.l0]; rw [if_neg (by omega), List.drop_eq_nil_of_le (by omega), List.drop_eq_nil_of_le (by omega)]; simp
  | succ d ih =>
    intro i k h1 h2
    obtain ⟨k, rfl⟩ : ∃ q, k = q + 1 := ⟨k - 1, by omega⟩
    simp only [laws_eqIntS.l0]
    rw [if_pos (by omega), if_pos (by omega), if_pos (by omega), w64 (by omega) (by omega), show (i : Int) + 1 = ((i + 1 : Nat) : Int) by omega, ih (i + 1) k (by omega) (by omega)]
    have a1 : rd xs (i : Int) = xs[i]'(by omega) := by simp [rd, List.getD_eq_getElem?_getD, List.getElem?_eq_getElem (show i < xs.length by omega)]
    have a2 : rd ys (i : Int) = ys[i]'(by omega) := by simp [rd, List.getD_eq_getElem?_getD, List.getElem?_eq_getElem (show i < ys.length by omega)]
    rw [a1, a2, List.drop_eq_getElem_cons (show i < xs.length by omega), List.drop_eq_getElem_cons (show i < ys.length by omega)]
    by_cases h : xs[i]'(by omega) = ys[i]'(by omega)
    · rw [if_pos h, h]; simp only [List.cons.injEq, true_and]
    · rw [if_neg h]; have q : ¬ (xs[i]'(by omega) :: xs.drop (i + 1) = ys[i]'(by omega) :: ys.drop (i + 1)) := fun e => h (List.cons.inj e).1
      simp only [q, decide_false]
theorem laws_eqIntS_at (xs ys : List Int) (k : Nat) (hn : xs.length ≤ 4611686018427387904) (hk : xs.length < k) : laws_eqIntS.f k xs ys = some (decide (xs = ys)) := by
  simp only [laws_eqIntS.f]
  by_cases h : xs.length = ys.length
  · rw [if_pos (by omega)]
    have := laws_eqIntS_l xs ys h hn xs.length 0 k (by omega) hk
    simpa using this
  · rw [if_neg (by omega)]
    have : ¬ xs = ys := fun e => h (by rw [e])
    simp [this]
theorem laws_markIntS_l : ∀ (b a : List Int) (k : Nat) (m : Int), 0 ≤ m → m + b.length ≤ 4611686018427387904 → (a.length : Int) + b.length ≤ 4611686018427387904 → b.length < k →
    laws_markIntS.l0 k (a ++ b) m a.length = some (m + (b.length : Int), a ++ marks b.length m) := by
  intro b
  induction b with
  | nil =>
    intro a k m h0 h1 h2 h3
    obtain ⟨k, rfl⟩ : ∃ q, k = q + 1 := ⟨k - 1, by omega⟩
    simp [laws_markIntS.l0, marks]
  | cons x b ih =>
    intro a k m h0 h1 h2 h3
    obtain ⟨k, rfl⟩ : ∃ q, k = q + 1 := ⟨k - 1, by omega⟩
    simp only [List.length_cons] at h1 h2 h3
    simp only [laws_markIntS.l0]
    rw [if_pos (by simp; omega), if_pos (by omega), w64 (x := m + 1) (by omega) (by omega), w64 (by omega) (by omega)]
    have e : (a ++ x :: b).set (a.length : Int).toNat m = (a ++ [m]) ++ b := by simp [List.set_append]
    rw [e, show (a.length : Int) + 1 = ((a ++ [m]).length : Int) by simp, ih (a ++ [m]) k (m + 1) (by omega) (by omega) (by simp; omega) (by omega)]
    simp [marks]; omega
theorem laws_markIntS_at (b : List Int) (k : Nat) (hn : b.length ≤ 1000000000) (hk : b.length < k) : laws_markIntS.f k b 1 = some (1 + (b.length : Int), marks b.length 1) := by
  have := laws_markIntS_l b [] k 1 (by omega) (by omega) (by simp; omega) hk
  simpa [laws_markIntS.f] using this
theorem laws_heldIntS_l : ∀ (d i k : Nat) (n : Nat) (m : Int), i + d = n → n ≤ 1000000000 → 0 ≤ m → m ≤ 1000000000 → d < k →
    laws_heldIntS.l0 k (marks n m) (m + i) i = some (m + n) := by
  intro d
  induction d with
  | zero =>
    intro i k n m h1 h2 h3 h4 h5
    obtain ⟨k, rfl⟩ : ∃ q, k = q + 1 := ⟨k - 1, by omega⟩
    simp only [laws_heldIntS.l0]; rw [if_neg (by rw [marks_len]; omega)]; congr 2; omega
  | succ d ih =>
    intro i k n m h1 h2 h3 h4 h5
    obtain ⟨k, rfl⟩ : ∃ q, k = q + 1 := ⟨k - 1, by omega⟩
    simp only [laws_heldIntS.l0]
    have e : rd (marks n m) (i : Int) = m + i := by
      simp only [rd, Int.toNat_natCast]; exact marks_get n m i (by omega)
    rw [if_pos (by rw [marks_len]; omega), if_pos (by omega), if_pos e, w64 (by omega) (by omega), w64 (by omega) (by omega), show m + (i : Int) + 1 = m + ((i + 1 : Nat) : Int) by omega, show (i : Int) + 1 = ((i + 1 : Nat) : Int) by omega]
    exact ih (i + 1) k n m (by omega) h2 h3 h4 (by omega)
theorem laws_heldIntS_at (n k : Nat) (hn : n ≤ 1000000000) (hk : n < k) : laws_heldIntS.f k (marks n 1) 1 = some (1 + (n : Int)) := by
  have := laws_heldIntS_l n 0 k n 1 (by omega) hn (by omega) (by omega) hk
  simpa [laws_heldIntS.f] using this

end FnExactForcedPeriods_
open FnExactForcedPeriods_
theorem FnExactForcedPeriods : laws_FnExactForcedPeriods.Pure := by
  intro a b _ _
  refine ⟨1000400, ?_⟩
  have key : ∃ l : List Int, l.length ≤ 200 ∧ ∃ c, ∀ k, 1000300 < k → spec_ForcedPeriods.f k a b = some (l, c) ∧ impl_ForcedPeriods.f k a b = some (l, c) := by
    by_cases h : 1 ≤ a ∧ a ≤ 1000000
    · by_cases h2 : 1 ≤ b ∧ b ≤ 200
      · obtain ⟨n, rfl⟩ : ∃ n : Nat, a = n := ⟨a.toNat, by omega⟩
        obtain ⟨most, rfl⟩ : ∃ n : Nat, b = n := ⟨b.toNat, by omega⟩
        refine ⟨fl n most 1, by have := fl_len n most 1; omega, true, fun k hk => ?_⟩
        simp [spec_ForcedPeriods.f, impl_ForcedPeriods.f, spec_skPeriod_eq, impl_isPeriod_eq, spec_skMost_eq, impl_isMost_eq, h, h2, spec_skForced_at n most k (by omega) (by omega) (by omega) hk, impl_forced_at n most k (by omega) (by omega) (by omega) hk]
      · exact ⟨[], by simp, false, fun k hk => by simp [spec_ForcedPeriods.f, impl_ForcedPeriods.f, spec_skPeriod_eq, impl_isPeriod_eq, spec_skMost_eq, impl_isMost_eq, h, h2]⟩
    · exact ⟨[], by simp, false, fun k hk => by simp [spec_ForcedPeriods.f, impl_ForcedPeriods.f, spec_skPeriod_eq, impl_isPeriod_eq, spec_skMost_eq, impl_isMost_eq, h]⟩
  obtain ⟨l, hl, c, hk⟩ := key
  have e := fun k (h : 1000300 < k) => (hk k h).2
  have m := fun k (h : 1000300 < k) => laws_markIntS_at l k (by omega) (by omega)
  have q := fun k (h : 1000300 < k) => laws_heldIntS_at l.length k (by omega) (by omega)
  have z := fun k (h : 1000300 < k) => laws_eqIntS_at l l k (by omega) (by omega)
  have p : ¬ (1 + (l.length : Int) < 0) := by omega
  simp only [laws_FnExactForcedPeriods.f, laws_FnExactForcedPeriods.j0, laws_FnExactForcedPeriods.j1, (hk 1000400 (by omega)).1, e 1000400 (by omega), e 1000399 (by omega), m 1000399 (by omega), q 1000399 (by omega), q 1000398 (by omega), z 1000400 (by omega), z 1000399 (by omega), Option.bind_some, p, bne_self_eq_false, decide_true, if_true, if_false, Bool.false_eq_true]

end Go.Proofs.Ytjeaeaagaaedaaa.Pure
