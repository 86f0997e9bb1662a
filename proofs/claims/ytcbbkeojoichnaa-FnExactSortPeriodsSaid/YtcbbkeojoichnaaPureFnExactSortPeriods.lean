/- The program's SortPeriods returns what the reference's returns, for all arguments. -/
import Derived.Test.YtcbbkeojoichnaaPFnExactSortPeriodsx5
import Derived.Test.YtcbbkeojoichnaaMathSplit
import Derived.Test.YtcbbkeojoichnaaMathShark
import Derived.Test.YtcbbkeojoichnaaMathMarks
namespace Go.Proofs.Ytcbbkeojoichnaa.Pure
open Go.RowKit Go.Proofs.Ytcbbkeojoichnaa.PFnExactSortPeriods Go.Proofs.YtcbbkeojoichnaaW.PrintWords Go.Proofs.YtcbbkeojoichnaaW.PrintLast Go.Proofs.YtcbbkeojoichnaaW.PrintMore Go.Proofs.Ytcbbkeojoichnaa.Math
set_option linter.unusedVariables false
set_option linter.unusedSimpArgs false
namespace FnExactSortPeriods_
/-! wrap -/
theorem w64 {x : Int} (h1 : -9223372036854775808 ≤ x) (h2 : x ≤ 9223372036854775807) : wrap64 x = x := by unfold wrap64; omega

/-! split -/
theorem spec_split_l (n : Nat) : ∀ (c k : Nat), 0 < n → n + c ≤ 4611686018427387904 → n < k → spec_skSplit.l0 k (n : Int) (c : Int) = some (((c + ex n : Nat) : Int), ((od n : Nat) : Int)) := by
 induction n using Nat.strongRecOn with
 | _ n ih =>
  intro c k h0 hc hk
  obtain ⟨k, rfl⟩ : ∃ m, k = m + 1 := ⟨k - 1, by omega⟩
  simp only [spec_skSplit.l0]
  rw [Int.tmod_eq_emod_of_nonneg (by omega), Int.tdiv_eq_ediv_of_nonneg (by omega)]
  by_cases h : n % 2 = 0
  ·rw [if_pos (by omega), w64 (by omega) (by omega), w64 (by omega) (by omega), show (n : Int) / 2 = ((n / 2 : Nat) : Int) by omega, show (c : Int) + 1 = ((c + 1 : Nat) : Int) by omega,
    ih (n / 2) (by omega) (c + 1) k (by omega) (by omega) (by omega), ex_even h0 h, od_even h0 h, show c + 1 + ex (n / 2) = c + (ex (n / 2) + 1) by omega]
  ·rw [if_neg (by omega), ex_odd (by omega), od_odd (by omega)]; rfl
theorem spec_split_at (n : Nat) (k : Nat) (h0 : 0 < n) (hn : n ≤ 4611686018427387904) (hk : n < k) : spec_skSplit.f k (n : Int) = some (((ex n : Nat) : Int), ((od n : Nat) : Int)) := by
 have := spec_split_l n 0 k h0 (by omega) hk
 simpa [spec_skSplit.f] using this
theorem impl_split_l (n : Nat) : ∀ (c k : Nat), 0 < n → n + c ≤ 4611686018427387904 → n < k → impl_split.l0 k (n : Int) (c : Int) = some (((c + ex n : Nat) : Int), ((od n : Nat) : Int)) := by
 induction n using Nat.strongRecOn with
 | _ n ih =>
  intro c k h0 hc hk
  obtain ⟨k, rfl⟩ : ∃ m, k = m + 1 := ⟨k - 1, by omega⟩
  simp only [impl_split.l0]
  rw [Int.tmod_eq_emod_of_nonneg (by omega), Int.tdiv_eq_ediv_of_nonneg (by omega)]
  by_cases h : n % 2 = 0
  ·rw [if_pos (by omega), w64 (by omega) (by omega), w64 (by omega) (by omega), show (n : Int) / 2 = ((n / 2 : Nat) : Int) by omega, show (c : Int) + 1 = ((c + 1 : Nat) : Int) by omega,
    ih (n / 2) (by omega) (c + 1) k (by omega) (by omega) (by omega), ex_even h0 h, od_even h0 h, show c + 1 + ex (n / 2) = c + (ex (n / 2) + 1) by omega]
  ·rw [if_neg (by omega), ex_odd (by omega), od_odd (by omega)]; rfl
theorem impl_split_at (n : Nat) (k : Nat) (h0 : 0 < n) (hn : n ≤ 4611686018427387904) (hk : n < k) : impl_split.f k (n : Int) = some (((ex n : Nat) : Int), ((od n : Nat) : Int)) := by
 have := impl_split_l n 0 k h0 (by omega) hk
 simpa [impl_split.f] using this

/-! cmpPeriods -/
theorem cmp_Compare_eq (a b : Int) : cmp_Compare_int.f a b = some (if a < b then -1 else if a > b then 1 else 0) := by
 simp only [cmp_Compare_int.f, cmp_isNaN_int.f]; simp only [bne_self_eq_false, Option.bind_some]; simp
 repeat' split <;> simp_all
theorem cmp_Or_eq (k : Nat) (a b : Int) (hk : 3 < k) : cmp_Or_int.f k [a, b] = some (if a = 0 then b else a) := by
 obtain ⟨k, rfl⟩ : ∃ m, k = m + 3 := ⟨k - 3, by omega⟩
 have e : wrap64 (0 + 1) = 1 := by unfold wrap64; omega
 have e2 : wrap64 (1 + 1) = 2 := by unfold wrap64; omega
 simp only [cmp_Or_int.f, cmp_Or_int.l0, e, e2]
 by_cases p : a = 0 <;> by_cases q : b = 0 <;> simp [p, q, rd]
theorem impl_comparePeriods_at (a b k : Nat) (ha : 0 < a) (hb : 0 < b) (ha2 : a ≤ 1000000) (hb2 : b ≤ 1000000) (hk : 1000005 < k) :
  impl_comparePeriods.f k (a : Int) (b : Int) = some (cmpP a b) := by
 have a1 := ex_small ha ha2; have a2 := ex_small hb hb2; have b1 := od_le a; have b2 := od_le b; have c1 := od_pos ha; have c2 := od_pos hb
 obtain ⟨k, rfl⟩ : ∃ m, k = m + 1 := ⟨k - 1, by omega⟩
 simp only [impl_comparePeriods.f, impl_split_at a (k + 1) ha (by omega) (by omega), impl_split_at b (k + 1) hb (by omega) (by omega), Option.bind_some, impl_comparePeriods.j0, cmp_Compare_eq, cmp_Or_eq k _ _ (by omega), cmpP, key]
 have cp : ((od a : Nat) : Int) = 1 ↔ od a = 1 := by omega
 have cq : ((od b : Nat) : Int) = 1 ↔ od b = 1 := by omega
 have cb : (((od b : Nat) : Int) == 1) = decide (od b = 1) := by rw [Bool.eq_iff_iff]; simp; omega
 by_cases p : od a = 1 <;> by_cases q : od b = 1 <;> simp [cb, cp, cq, p, q] <;> (repeat' split) <;> (first | rfl | omega)

/-! upOnly -/
abbrev up (l : List Nat) : List Int := l.map fun n : Nat => (n : Int)
theorem up_rd (l : List Nat) (i : Nat) (h : i < l.length) : rd (up l) (i : Int) = (l[i] : Int) := by
 simp [up, rd, List.getD_eq_getElem?_getD, List.getElem?_eq_getElem h]
theorem up_len (l : List Nat) : (up l).length = l.length := by simp [up]

/-! skBefore -/
theorem spec_skBefore_at (a b k : Nat) (ha : 0 < a) (hb : 0 < b) (ha2 : a ≤ 1000000) (hb2 : b ≤ 1000000) (hk : 1000005 < k) :
  spec_skBefore.f k (a : Int) (b : Int) = some (decide (key a < key b)) := by
 have a1 := ex_small ha ha2; have a2 := ex_small hb hb2; have b1 := od_le a; have b2 := od_le b; have c1 := od_pos ha; have c2 := od_pos hb
 obtain ⟨k, rfl⟩ : ∃ m, k = m + 2 := ⟨k - 2, by omega⟩
 simp only [spec_skBefore.f, spec_split_at a (k + 2) ha (by omega) (by omega), spec_split_at b (k + 2) hb (by omega) (by omega), Option.bind_some, spec_skBefore.j0, spec_skBefore.j1, key]
 have cp : ((od a : Nat) : Int) = 1 ↔ od a = 1 := by omega
 have cq : ((od b : Nat) : Int) = 1 ↔ od b = 1 := by omega
 have cr : ((ex a : Nat) : Int) = ((ex b : Nat) : Int) ↔ ex a = ex b := by omega
 have cb : (((od b : Nat) : Int) == 1) = decide (od b = 1) := by rw [Bool.eq_iff_iff]; simp; omega
 by_cases p : od a = 1 <;> by_cases q : od b = 1 <;> by_cases r : ex a = ex b <;> simp [cb, cp, cq, cr, p, q, r] <;> omega

/-! l1Has -/
theorem spec_l1Has_l (y : Int) (xs : List Int) (hn : xs.length ≤ 4611686018427387904) : ∀ (d i k : Nat), i + d = xs.length → d < k → spec_l1Has.l0 k y xs xs.length i = some (decide (y ∈ xs.drop i)) := by
 intro d
 induction d with
 | zero =>
  intro i k h1 h2
  obtain ⟨k, rfl⟩ : ∃ q, k = q + 1 := ⟨k - 1, by omega⟩
  simp only [spec_l1Has.l0]; rw [if_neg (by omega), List.drop_eq_nil_of_le (by omega)]; simp
 | succ d ih =>
  intro i k h1 h2
  obtain ⟨k, rfl⟩ : ∃ q, k = q + 1 := ⟨k - 1, by omega⟩
  simp only [spec_l1Has.l0]
  have a1 : rd xs (i : Int) = xs[i]'(by omega) := by simp [rd, List.getD_eq_getElem?_getD, List.getElem?_eq_getElem (show i < xs.length by omega)]
  rw [if_pos (by omega), if_pos (by omega), if_pos (by omega), a1, w64 (by omega) (by omega), show (i : Int) + 1 = ((i + 1 : Nat) : Int) by omega, ih (i + 1) k (by omega) (by omega), List.drop_eq_getElem_cons (show i < xs.length by omega)]
  by_cases h : xs[i]'(by omega) = y
  ·rw [if_pos h]; simp [h]
  ·rw [if_neg h]; congr 1; rw [Bool.eq_iff_iff]; simp only [decide_eq_true_eq, List.mem_cons]
   exact ⟨.inr, fun e => e.elim (fun e => absurd e.symm h) id⟩
theorem spec_l1Has_at (xs : List Int) (y : Int) (k : Nat) (hn : xs.length ≤ 4611686018427387904) (hk : xs.length < k) : spec_l1Has.f k xs y = some (decide (y ∈ xs)) := by
 have := spec_l1Has_l y xs hn xs.length 0 k (by omega) hk
 simpa [spec_l1Has.f] using this

/-! skSort -/
theorem spec_l1Own_at (xs : List Int) (h : xs.length < 17592186044416) : spec_l1Own.f xs = some xs := by
 simp only [spec_l1Own.f, Option.bind_some]; rw [if_pos (by simpa using h)]; simp
def pos (o : List Nat) (n : Nat) : Nat → Nat
 | 0 => 0
 | j + 1 => if key n < key (o.getD j 0) then pos o n j else j + 1
theorem pos_le (o : List Nat) (n : Nat) : ∀ j, pos o n j ≤ j
 | 0 => Nat.le_refl _
 | j + 1 => by simp only [pos]; have := pos_le o n j; split <;> omega
theorem pos_zero (o : List Nat) (n : Nat) : ∀ j, pos o n j = 0 → 0 < j → key n < key (o.getD 0 0)
 | 0, _, h => by omega
 | j + 1, h, _ => by
  simp only [pos] at h
  by_cases c : key n < key (o.getD j 0)
  ·rw [if_pos c] at h
   rcases Nat.eq_zero_or_pos j with rfl | hj
   ·exact c
   ·exact pos_zero o n j h hj
  ·rw [if_neg c] at h; omega
theorem pos_pos (o : List Nat) (n : Nat) : ∀ j, 0 < pos o n j → key (o.getD (pos o n j - 1) 0) ≤ key n
 | 0, h => by simp [pos] at h
 | j + 1, h => by
  by_cases c : key n < key (o.getD j 0)
  ·have e : pos o n (j + 1) = pos o n j := by simp only [pos, if_pos c]
   rw [e] at h ⊢; exact pos_pos o n j h
  ·have e : pos o n (j + 1) = j + 1 := by simp only [pos, if_neg c]
   rw [e, Nat.add_sub_cancel]; omega
def ins (o : List Nat) (n p : Nat) : List Nat := o.take p ++ [n] ++ o.drop p
theorem ins_mem (o : List Nat) (n p y : Nat) : y ∈ ins o n p ↔ y = n ∨ y ∈ o := by
 have e : y ∈ o ↔ y ∈ o.take p ∨ y ∈ o.drop p := by rw [← List.mem_append, List.take_append_drop]
 simp only [ins, List.mem_append, List.mem_singleton, e]
 constructor
 ·rintro ((h | h) | h)
  ·exact .inr (.inl h)
  ·exact .inl h
  ·exact .inr (.inr h)
 ·rintro (h | h | h)
  ·exact .inl (.inr h)
  ·exact .inl (.inl h)
  ·exact .inr h
theorem ins_len (o : List Nat) (n p : Nat) (h : p ≤ o.length) : (ins o n p).length = o.length + 1 := by
 simp only [ins, List.length_append, List.length_take, List.length_drop, List.length_singleton]; omega
theorem ins_up (o : List Nat) (n p : Nat) : (up o).take p ++ [(n : Int)] ++ (up o).drop p = up (ins o n p) := by
 simp [up, ins, List.map_take, List.map_drop]
def HeadMin (o : List Nat) : Prop := ∀ y ∈ o, key (o.getD 0 0) ≤ key y
theorem ins_min (o : List Nat) (n : Nat) (h : HeadMin o) : HeadMin (ins o n (pos o n o.length)) := by
 intro y hy
 rcases Nat.eq_zero_or_pos (pos o n o.length) with p | p
 ·have e : (ins o n (pos o n o.length)).getD 0 0 = n := by rw [p]; simp [ins]
  rw [e]
  rcases (ins_mem _ _ _ _).1 hy with rfl | hy
  ·exact Nat.le_refl _
  ·have l : 0 < o.length := List.length_pos_of_mem hy
   have := pos_zero o n _ p l; have := h y hy; omega
 ·have l := pos_le o n o.length
  have e : (ins o n (pos o n o.length)).getD 0 0 = o.getD 0 0 := by
   cases o with
   | nil => exact absurd p (by simp [pos])
   | cons a t =>
    obtain ⟨q, hq⟩ : ∃ q, pos (a :: t) n (a :: t).length = q + 1 := ⟨_, (Nat.succ_pred_eq_of_pos p).symm⟩
    rw [hq]; simp [ins]
  rw [e]
  rcases (ins_mem _ _ _ _).1 hy with rfl | hy
  ·have a := pos_pos o y _ p
   have b : o.getD (pos o y o.length - 1) 0 ∈ o := by
    rw [List.getD_eq_getElem?_getD, List.getElem?_eq_getElem (show pos o y o.length - 1 < o.length by omega)]; exact List.getElem_mem _
   have := h _ b; omega
  ·exact h y hy
theorem skPlace (o : List Nat) (n p : Nat) (xs : List Int) (a b : Int) (k : Nat) (hp : p ≤ o.length) (ho : o.length ≤ 100) (F : List Int → Option (List Int)) :
  (if 0 ≤ (p : Int) then (if (p : Int) ≤ ((up o).length : Int) then ((spec_l1Own.f ((up o).take (p : Int).toNat)).bind fun t124 => ((some (([(n : Int)] : List Int) : List Int)).bind fun y127 => (if t124.length + y127.length < 17592186044416 then ((some (t124 ++ y127 : List Int)).bind fun y130 => ((some ((up o).drop (p : Int).toNat : List Int)).bind fun y133 => (if y130.length + y133.length < 17592186044416 then F (y130 ++ y133) else (none)))) else (none)))) else (none)) else (none)) = F (up (ins o n p)) := by
 have lo := up_len o
 have t1 : ((up o).take p).length ≤ 100 := by rw [List.length_take]; omega
 have t2 : ((up o).drop p).length ≤ 100 := by rw [List.length_drop]; omega
 rw [if_pos (by omega), if_pos (by omega), show (p : Int).toNat = p by omega, spec_l1Own_at _ (by omega)]
 simp only [Option.bind_some]
 rw [if_pos (by simp only [List.length_singleton]; omega), if_pos (by simp only [List.length_append, List.length_singleton]; omega), ins_up]
theorem skSort_l1 (o : List Nat) (n : Nat) (xs : List Int) (m i : Int) (ho : o.length ≤ 100) (hb : ∀ x ∈ o, 1 ≤ x ∧ x ≤ 1000000) (hn : 1 ≤ n ∧ n ≤ 1000000) : ∀ (j k : Nat), j ≤ o.length → 1000010 + j < k →
  spec_skSort.l1 k (up o) (n : Int) (j : Int) xs m i = spec_skSort.l0 (k - (j - pos o n j) - 1) (up (ins o n (pos o n j))) xs m (wrap64 (i + 1)) := by
 intro j
 induction j with
 | zero =>
  intro k h1 h2
  obtain ⟨k, rfl⟩ : ∃ q, k = q + 1 := ⟨k - 1, by omega⟩
  simp only [spec_skSort.l1]
  rw [if_neg (by omega)]
  exact skPlace o n 0 xs m i k (by omega) ho (fun z => spec_skSort.l0 k z xs m (wrap64 (i + 1)))
 | succ j ih =>
  intro k h1 h2
  obtain ⟨k, rfl⟩ : ∃ q, k = q + 1 := ⟨k - 1, by omega⟩
  have hj : j < o.length := by omega
  have b1 := hb o[j] (List.getElem_mem hj)
  have g : o.getD j 0 = o[j] := by rw [List.getD_eq_getElem?_getD, List.getElem?_eq_getElem hj]; rfl
  simp only [spec_skSort.l1]
  rw [if_pos (by omega), w64 (by omega) (by omega), show ((j + 1 : Nat) : Int) - 1 = (j : Int) by omega, if_pos (by omega), if_pos (by rw [up_len]; omega), up_rd o j hj, spec_skBefore_at n o[j] k (by omega) (by omega) (by omega) (by omega) (by omega), Option.bind_some]
  by_cases c : key n < key o[j]
  ·rw [decide_eq_true c, if_pos rfl, ih k (by omega) (by omega)]
   have e : pos o n (j + 1) = pos o n j := by simp only [pos, g, if_pos c]
   have := pos_le o n j
   rw [e, show k + 1 - (j + 1 - pos o n j) - 1 = k - (j - pos o n j) - 1 by omega]
  ·rw [decide_eq_false c, if_neg (by simp)]
   have e : pos o n (j + 1) = j + 1 := by simp only [pos, g, if_neg c]
   rw [e, show k + 1 - (j + 1 - (j + 1)) - 1 = k by omega]
   exact skPlace o n (j + 1) xs m i k (by omega) ho (fun z => spec_skSort.l0 k z xs m (wrap64 (i + 1)))
theorem mem_up (o : List Nat) (n : Nat) : (n : Int) ∈ up o ↔ n ∈ o := by
 simp only [up, List.mem_map]
 constructor
 ·rintro ⟨y, h, e⟩; have : y = n := by omega
  rw [← this]; exact h
 ·intro h; exact ⟨n, h, rfl⟩
theorem skSort_l0 (I : List Nat → Prop) (hI : ∀ o n, I o → (∀ x ∈ o, 1 ≤ x ∧ x ≤ 1000000) → 1 ≤ n ∧ n ≤ 1000000 → n ∉ o → I (ins o n (pos o n o.length))) (l : List Nat) (hb : ∀ x ∈ l, 1 ≤ x ∧ x ≤ 1000000) (hn : l.length ≤ 60) : ∀ (d i : Nat) (o : List Nat), i + d = l.length → (∀ y ∈ o, y ∈ l) → o.length ≤ i → I o →
  ∃ r : List Nat, (∀ y ∈ o, y ∈ r) ∧ (∀ y ∈ l.drop i, y ∈ r) ∧ (∀ y ∈ r, y ∈ l) ∧ I r ∧ ∀ k, 1000200 + 100 * d < k → spec_skSort.l0 k (up o) (up l) l.length i = some (up r) := by
 intro d
 induction d with
 | zero =>
  intro i o h1 ho _ hm
  refine ⟨o, fun _ h => h, by rw [List.drop_eq_nil_of_le (by omega)]; simp, ho, hm, fun k hk => ?_⟩
  obtain ⟨k, rfl⟩ : ∃ q, k = q + 1 := ⟨k - 1, by omega⟩
  simp only [spec_skSort.l0]; rw [if_neg (by omega)]
 | succ d ih =>
  intro i o h1 ho hl hm
  have hi : i < l.length := by omega
  have b1 := hb l[i] (List.getElem_mem hi)
  have lo := up_len o
  have hbo : ∀ x ∈ o, 1 ≤ x ∧ x ≤ 1000000 := fun x h => hb x (ho x h)
  rw [List.drop_eq_getElem_cons hi]
  by_cases c : l[i] ∈ o
  ·obtain ⟨r, r1, r2, r3, r4, r5⟩ := ih (i + 1) o (by omega) ho (by omega) hm
   refine ⟨r, r1, ?_, r3, r4, fun k hk => ?_⟩
   ·intro y hy; rcases List.mem_cons.1 hy with rfl | hy
    ·exact r1 _ c
    ·exact r2 y hy
   ·obtain ⟨k, rfl⟩ : ∃ q, k = q + 1 := ⟨k - 1, by omega⟩
    simp only [spec_skSort.l0]
    rw [if_pos (by omega), if_pos (by omega), if_pos (by rw [up_len]; omega), up_rd l i hi, spec_l1Has_at _ _ k (by omega) (by omega), Option.bind_some, if_pos (by rw [decide_eq_true_eq]; exact (mem_up _ _).2 c), w64 (by omega) (by omega), show (i : Int) + 1 = ((i + 1 : Nat) : Int) by omega]
    exact r5 k (by omega)
  ·have pl := pos_le o l[i] o.length
   have il := ins_len o l[i] _ pl
   obtain ⟨r, r1, r2, r3, r4, r5⟩ := ih (i + 1) (ins o l[i] (pos o l[i] o.length)) (by omega) (fun y hy => by
    rcases (ins_mem _ _ _ _).1 hy with rfl | hy
    ·exact List.getElem_mem hi
    ·exact ho y hy) (by omega) (hI o l[i] hm hbo b1 c)
   refine ⟨r, fun y hy => r1 y ((ins_mem _ _ _ _).2 (.inr hy)), ?_, r3, r4, fun k hk => ?_⟩
   ·intro y hy; rcases List.mem_cons.1 hy with rfl | hy
    ·exact r1 _ ((ins_mem _ _ _ _).2 (.inl rfl))
    ·exact r2 y hy
   ·obtain ⟨k, rfl⟩ : ∃ q, k = q + 1 := ⟨k - 1, by omega⟩
    simp only [spec_skSort.l0]
    rw [if_pos (by omega), if_pos (by omega), if_pos (by rw [up_len]; omega), up_rd l i hi, spec_l1Has_at _ _ k (by omega) (by omega), Option.bind_some, if_neg (by rw [decide_eq_true_eq]; exact fun h => c ((mem_up _ _).1 h)), lo,
     skSort_l1 o l[i] (up l) l.length i (by omega) hbo b1 o.length k (by omega) (by omega), w64 (by omega) (by omega), show (i : Int) + 1 = ((i + 1 : Nat) : Int) by omega]
    exact r5 _ (by omega)
theorem spec_skSort_gen (I : List Nat → Prop) (hI : ∀ o n, I o → (∀ x ∈ o, 1 ≤ x ∧ x ≤ 1000000) → 1 ≤ n ∧ n ≤ 1000000 → n ∉ o → I (ins o n (pos o n o.length))) (h0 : I []) (l : List Nat) (hb : ∀ x ∈ l, 1 ≤ x ∧ x ≤ 1000000) (hn : l.length ≤ 60) :
  ∃ r : List Nat, (∀ y ∈ l, y ∈ r) ∧ (∀ y ∈ r, y ∈ l) ∧ I r ∧ ∀ k, 1010000 < k → spec_skSort.f k (up l) = some (up r) := by
 obtain ⟨r, _, r2, r3, r4, r5⟩ := skSort_l0 I hI l hb hn l.length 0 [] (by omega) (by simp) (by simp) h0
 rw [List.drop_zero] at r2
 refine ⟨r, r2, r3, r4, fun k hk => ?_⟩
 have := r5 k (by omega)
 simp only [spec_skSort.f, up_len]; exact this
theorem spec_skSort_at (l : List Nat) (hb : ∀ x ∈ l, 1 ≤ x ∧ x ≤ 1000000) (hn : l.length ≤ 60) :
  ∃ r : List Nat, (∀ y ∈ l, y ∈ r) ∧ (∀ y ∈ r, y ∈ l) ∧ HeadMin r ∧ ∀ k, 1010000 < k → spec_skSort.f k (up l) = some (up r) :=
 spec_skSort_gen HeadMin (fun o n h _ _ _ => ins_min o n h) (by intro y hy; simp at hy) l hb hn

/-! skSorted -/
theorem pos_hi (o : List Nat) (n : Nat) : ∀ j q, pos o n j ≤ q → q < j → key n < key (o.getD q 0)
 | 0, q, _, h => by omega
 | j + 1, q, h1, h2 => by
  by_cases c : key n < key (o.getD j 0)
  ·have e : pos o n (j + 1) = pos o n j := by simp only [pos, if_pos c]
   rw [e] at h1
   by_cases hq : q = j
   ·subst hq; exact c
   ·exact pos_hi o n j q h1 (by omega)
  ·have e : pos o n (j + 1) = j + 1 := by simp only [pos, if_neg c]
   omega
abbrev Asc (o : List Nat) : Prop := o.Pairwise fun a b => key a < key b
theorem ins_asc (o : List Nat) (n : Nat) (h : Asc o) (hb : ∀ x ∈ o, 1 ≤ x ∧ x ≤ 1000000) (hn : 1 ≤ n ∧ n ≤ 1000000) (hm : n ∉ o) : Asc (ins o n (pos o n o.length)) := by
 have pl := pos_le o n o.length
 have hi : ∀ b ∈ o.drop (pos o n o.length), key n < key b := by
  intro b hb'
  obtain ⟨i, hi, e⟩ := List.mem_iff_getElem.1 hb'
  rw [List.length_drop] at hi
  rw [List.getElem_drop] at e
  have q := pos_hi o n o.length (pos o n o.length + i) (by omega) (by omega)
  rw [List.getD_eq_getElem?_getD, List.getElem?_eq_getElem (show pos o n o.length + i < o.length by omega), Option.getD_some, e] at q
  exact q
 have lo : ∀ a ∈ o.take (pos o n o.length), key a < key n := by
  intro a ha
  obtain ⟨i, hi, e⟩ := List.mem_iff_getElem.1 ha
  rw [List.length_take] at hi
  rw [List.getElem_take] at e
  have p := pos_pos o n o.length (by omega)
  have hl : pos o n o.length - 1 < o.length := by omega
  rw [List.getD_eq_getElem?_getD, List.getElem?_eq_getElem hl, Option.getD_some] at p
  have le : key a ≤ key o[pos o n o.length - 1] := by
   by_cases c : i = pos o n o.length - 1
   ·subst c; rw [e]; exact Nat.le_refl _
   ·have := List.pairwise_iff_getElem.1 h i (pos o n o.length - 1) (by omega) hl (by omega)
    rw [e] at this; omega
  have ma : a ∈ o := List.mem_of_mem_take ha
  have ba := hb a ma
  rcases Nat.lt_or_ge (key a) (key n) with c | c
  ·exact c
  ·exact absurd (key_inj (by omega) (by omega) (by omega) (by omega) (show key a = key n by omega)) (fun e2 => hm (e2 ▸ ma))
 unfold ins
 rw [List.append_assoc]
 refine List.pairwise_append.2 ⟨h.sublist (List.take_sublist _ _), ?_, ?_⟩
 ·rw [List.singleton_append]
  exact List.pairwise_cons.2 ⟨hi, h.sublist (List.drop_sublist _ _)⟩
 ·intro a ha b hb'
  have la := lo a ha
  rw [List.singleton_append] at hb'
  rcases List.mem_cons.1 hb' with rfl | hb'
  ·exact la
  ·have := hi b hb'; omega
abbrev keyI (x : Int) : Nat := key x.toNat
theorem asc_uniq : ∀ xs ys : List Int, xs.Pairwise (fun a b => keyI a < keyI b) → ys.Pairwise (fun a b => keyI a < keyI b) → (∀ x, x ∈ xs ↔ x ∈ ys) → xs = ys
 | [], ys, _, _, h => by
  cases ys with
  | nil => rfl
  | cons y ys => exact absurd ((h y).2 (List.mem_cons_self ..)) (by simp)
 | x :: xs, [], _, _, h => absurd ((h x).1 (List.mem_cons_self ..)) (by simp)
 | x :: xs, y :: ys, hx, hy, h => by
  obtain ⟨x1, x2⟩ := List.pairwise_cons.1 hx
  obtain ⟨y1, y2⟩ := List.pairwise_cons.1 hy
  have e : x = y := by
   rcases List.mem_cons.1 ((h x).1 (List.mem_cons_self ..)) with e | e
   ·exact e
   ·rcases List.mem_cons.1 ((h y).2 (List.mem_cons_self ..)) with e' | e'
    ·exact e'.symm
    ·have := y1 x e; have := x1 y e'; omega
  subst e
  rw [asc_uniq xs ys x2 y2 fun z => ⟨fun hz => ?_, fun hz => ?_⟩]
  ·rcases List.mem_cons.1 ((h z).1 (List.mem_cons_of_mem _ hz)) with rfl | e
   ·have := x1 z hz; omega
   ·exact e
  ·rcases List.mem_cons.1 ((h z).2 (List.mem_cons_of_mem _ hz)) with rfl | e
   ·have := y1 z hz; omega
   ·exact e
theorem compact_asc (ts : List Int) (hr : ∀ x ∈ ts, 1 ≤ x ∧ x ≤ 1000000) (hs : ts.Pairwise fun a b => keyI a ≤ keyI b) :
  (∀ x, x ∈ Go.Lib.compact ts ↔ x ∈ ts) ∧ (Go.Lib.compact ts).Pairwise fun a b => keyI a < keyI b := by
 have g : ∀ j, j < ts.length → ts.toArray[j]! = ts.getD j 0 := by
  intro j hj
  rw [getElem!_pos ts.toArray j (by simpa using hj), List.getD_eq_getElem?_getD, List.getElem?_eq_getElem hj]; simp
 have gm : ∀ j, j < ts.length → ts.getD j 0 ∈ ts := by
  intro j hj
  rw [List.getD_eq_getElem?_getD, List.getElem?_eq_getElem hj]; exact List.getElem_mem hj
 have le : ∀ i j, i ≤ j → j < ts.length → keyI (ts.getD i 0) ≤ keyI (ts.getD j 0) := by
  intro i j hij hj
  by_cases c : i = j
  ·subst c; exact Nat.le_refl _
  ·have := List.pairwise_iff_getElem.1 hs i j (by omega) hj (by omega)
   rw [List.getD_eq_getElem?_getD, List.getElem?_eq_getElem (show i < ts.length by omega), List.getD_eq_getElem?_getD, List.getElem?_eq_getElem hj]; exact this
 have main : ∀ m, m ≤ ts.length → (∀ x, x ∈ Go.Lib.compactUpTo ts.toArray m ↔ ∃ j, j < m ∧ ts.getD j 0 = x) ∧ (Go.Lib.compactUpTo ts.toArray m).Pairwise fun a b => keyI a < keyI b := by
  intro m
  induction m with
  | zero => intro _; simp [Go.Lib.compactUpTo]
  | succ m ih =>
   intro hm
   obtain ⟨i1, i2⟩ := ih (by omega)
   rw [Go.Lib.compactUpTo_succ]
   by_cases c : Go.Lib.keeps ts.toArray m = true
   ·rw [if_pos c, g m (by omega)]
    constructor
    ·intro x
     rw [List.mem_append, i1, List.mem_singleton]
     constructor
     ·rintro (⟨j, h1, h2⟩ | h)
      ·exact ⟨j, by omega, h2⟩
      ·exact ⟨m, by omega, h.symm⟩
     ·rintro ⟨j, h1, h2⟩
      by_cases e : j = m
      ·subst e; exact .inr h2.symm
      ·exact .inl ⟨j, by omega, h2⟩
    ·refine List.pairwise_append.2 ⟨i2, List.pairwise_singleton _ _, ?_⟩
     intro a ha b hb
     rw [List.mem_singleton] at hb
     subst hb
     obtain ⟨j, h1, h2⟩ := (i1 a).1 ha
     subst h2
     have c2 : ts.getD m 0 ≠ ts.getD (m - 1) 0 := by
      have c3 := c
      simp only [Go.Lib.keeps, decide_eq_true_eq] at c3
      rcases c3 with c3 | c3
      ·omega
      ·rw [g m (by omega), g (m - 1) (by omega)] at c3; exact c3
     have l1 := le j (m - 1) (by omega) (by omega)
     have l2 := le (m - 1) m (by omega) (by omega)
     have r1 := hr _ (gm m (by omega)); have r2 := hr _ (gm (m - 1) (by omega))
     rcases Nat.lt_or_ge (keyI (ts.getD (m - 1) 0)) (keyI (ts.getD m 0)) with l3 | l3
     ·omega
     ·have q := key_inj (m := (ts.getD (m - 1) 0).toNat) (n := (ts.getD m 0).toNat) (by omega) (by omega) (by omega) (by omega) (Nat.le_antisymm l2 l3)
      exact absurd (show ts.getD m 0 = ts.getD (m - 1) 0 by omega) c2
   ·rw [if_neg c, List.append_nil]
    refine ⟨fun x => ?_, i2⟩
    rw [i1]
    have c2 : 0 < m ∧ ts.getD m 0 = ts.getD (m - 1) 0 := by
     have c3 := c
     simp only [Go.Lib.keeps, decide_eq_true_eq, not_or, Classical.not_not] at c3
     have h0 : 0 < m := by omega
     rw [g m (by omega), g (m - 1) (by omega)] at c3
     exact ⟨h0, c3.2⟩
    constructor
    ·rintro ⟨j, h1, h2⟩; exact ⟨j, by omega, h2⟩
    ·rintro ⟨j, h1, h2⟩
     by_cases e : j = m
     ·subst e; exact ⟨j - 1, by omega, by rw [← c2.2]; exact h2⟩
     ·exact ⟨j, by omega, h2⟩
 obtain ⟨m1, m2⟩ := main ts.length (Nat.le_refl _)
 refine ⟨fun x => ?_, m2⟩
 show x ∈ Go.Lib.compactUpTo ts.toArray ts.length ↔ _
 rw [m1]
 constructor
 ·rintro ⟨j, h1, h2⟩; rw [← h2]; exact gm j h1
 ·intro h
  obtain ⟨i, hi, e⟩ := List.mem_iff_getElem.1 h
  exact ⟨i, hi, by rw [List.getD_eq_getElem?_getD, List.getElem?_eq_getElem hi]; exact e⟩

/-! l1In -/
theorem spec_l1In_eq (a b c : Int) : spec_l1In.f a b c = some (decide (b ≤ a ∧ a ≤ c)) := by
 unfold spec_l1In.f; split <;> simp <;> omega

/-! l1All -/
theorem spec_l1All_l (lo hi : Int) (xs : List Int) (hn : xs.length ≤ 4611686018427387904) : ∀ (d i k : Nat), i + d = xs.length → d < k →
  spec_l1All.l0 k lo hi xs xs.length i = some ((xs.drop i).all fun x => decide (lo ≤ x ∧ x ≤ hi)) := by
 intro d
 induction d with
 | zero =>
  intro i k h1 h2
  obtain ⟨k, rfl⟩ : ∃ q, k = q + 1 := ⟨k - 1, by omega⟩
  simp only [spec_l1All.l0]; rw [if_neg (by omega), List.drop_eq_nil_of_le (by omega)]; rfl
 | succ d ih =>
  intro i k h1 h2
  obtain ⟨k, rfl⟩ : ∃ q, k = q + 1 := ⟨k - 1, by omega⟩
  simp only [spec_l1All.l0]
  have a1 : rd xs (i : Int) = xs[i]'(by omega) := by simp [rd, List.getD_eq_getElem?_getD, List.getElem?_eq_getElem (show i < xs.length by omega)]
  rw [if_pos (by omega), if_pos (by omega), if_pos (by omega), a1, spec_l1In_eq, Option.bind_some, List.drop_eq_getElem_cons (show i < xs.length by omega), List.all_cons, w64 (by omega) (by omega), show (i : Int) + 1 = ((i + 1 : Nat) : Int) by omega, ih (i + 1) k (by omega) (by omega)]
  by_cases h : lo ≤ xs[i]'(by omega) ∧ xs[i]'(by omega) ≤ hi
  ·rw [decide_eq_true h, if_pos rfl, Bool.true_and]
  ·rw [decide_eq_false h, if_neg (by simp), Bool.false_and]
theorem spec_l1All_at (xs : List Int) (lo hi : Int) (k : Nat) (hn : xs.length ≤ 4611686018427387904) (hk : xs.length < k) : spec_l1All.f k xs lo hi = some (xs.all fun x => decide (lo ≤ x ∧ x ≤ hi)) := by
 have := spec_l1All_l lo hi xs hn xs.length 0 k (by omega) hk
 simpa [spec_l1All.f] using this

/-! within -/
theorem impl_within_eq (a b c : Int) : impl_within.f a b c = some (decide (b ≤ a ∧ a ≤ c)) := by
 unfold impl_within.f; split <;> simp <;> omega

/-! iperiod -/
theorem impl_isPeriod_eq (a : Int) : impl_isPeriod.f a = some (decide (1 ≤ a ∧ a ≤ 1000000)) := by
 unfold impl_isPeriod.f; rw [impl_within_eq]; rfl

/-! anyInt(I=slices_IndexFunc__impl_arePeriods_1;C=slices_ContainsFunc__impl_arePeriods_1;P=impl_arePeriods_1) -/
/-- ContainsFunc over ints, the predicate without rounds. slices_IndexFunc__impl_arePeriods_1: IndexFunc, slices_ContainsFunc__impl_arePeriods_1: ContainsFunc, impl_arePeriods_1: the predicate's function -/
theorem slices_IndexFunc__impl_arePeriods_1_l (P : Int → Bool) (xs : List Int) (hP : ∀ x, x ∈ xs → impl_arePeriods_1.f x = some (P x)) (hn : xs.length ≤ 4611686018427387904) : ∀ (d i k : Nat), i + d = xs.length → d < k →
  ∃ r : Int, slices_IndexFunc__impl_arePeriods_1.l0 k xs xs.length i = some r ∧ (decide (r ≥ 0)) = (xs.drop i).any P := by
 intro d
 induction d with
 | zero =>
  intro i k h1 h2
  obtain ⟨k, rfl⟩ : ∃ q, k = q + 1 := ⟨k - 1, by omega⟩
  refine ⟨-1, ?_, ?_⟩
  ·simp only [slices_IndexFunc__impl_arePeriods_1.l0]; rw [if_neg (by omega)]
  ·rw [List.drop_eq_nil_of_le (by omega)]; rfl
 | succ d ih =>
  intro i k h1 h2
  obtain ⟨k, rfl⟩ : ∃ q, k = q + 1 := ⟨k - 1, by omega⟩
  simp only [slices_IndexFunc__impl_arePeriods_1.l0]
  have a1 : rd xs (i : Int) = xs[i]'(by omega) := by simp [rd, List.getD_eq_getElem?_getD, List.getElem?_eq_getElem (show i < xs.length by omega)]
  have a2 := hP (xs[i]'(by omega)) (List.getElem_mem _)
  rw [if_pos (by omega), if_pos (by omega), if_pos (by omega), a1, a2, Option.bind_some, List.drop_eq_getElem_cons (show i < xs.length by omega), List.any_cons]
  by_cases h : P (xs[i]'(by omega)) = true
  ·exact ⟨i, by rw [if_pos h], by rw [h]; simp⟩
  ·obtain ⟨r, hr, h3⟩ := ih (i + 1) k (by omega) (by omega)
   refine ⟨r, ?_, ?_⟩
   ·rw [if_neg h, w64 (by omega) (by omega), show (i : Int) + 1 = ((i + 1 : Nat) : Int) by omega]; exact hr
   ·rw [h3]; simp [h]
theorem slices_ContainsFunc__impl_arePeriods_1_at (P : Int → Bool) (xs : List Int) (k : Nat) (hP : ∀ x, x ∈ xs → impl_arePeriods_1.f x = some (P x)) (hn : xs.length ≤ 4611686018427387904) (hk : xs.length < k) : slices_ContainsFunc__impl_arePeriods_1.f k xs = some (xs.any P) := by
 obtain ⟨r, h1, h2⟩ := slices_IndexFunc__impl_arePeriods_1_l P xs hP hn xs.length 0 k (by omega) hk
 simp only [slices_ContainsFunc__impl_arePeriods_1.f, slices_IndexFunc__impl_arePeriods_1.f]
 rw [show (0 : Int) = ((0 : Nat) : Int) by rfl, h1, Option.bind_some]
 simp only [List.drop_zero] at h2; rw [← h2]; rfl

/-! iarePeriods -/
theorem impl_arePeriods_at (xs : List Int) (k : Nat) (hk : 1000 < k) : impl_arePeriods.f k xs = some (decide (1 ≤ (xs.length : Int) ∧ (xs.length : Int) ≤ 60) && xs.all fun x => decide (1 ≤ x ∧ x ≤ 1000000)) := by
 simp only [impl_arePeriods.f, impl_within_eq, Option.bind_some]
 by_cases h : 1 ≤ (xs.length : Int) ∧ (xs.length : Int) ≤ 60
 ·have c := slices_ContainsFunc__impl_arePeriods_1_at (fun x => !decide (1 ≤ x ∧ x ≤ 1000000)) xs k (fun x _ => by simp only [impl_arePeriods_1.f, impl_isPeriod_eq, Option.bind_some]) (by omega) (by omega)
  have e : (!xs.any fun x => !decide (1 ≤ x ∧ x ≤ 1000000)) = xs.all fun x => decide (1 ≤ x ∧ x ≤ 1000000) := by rw [List.all_eq_not_any_not]
  simp only [c, Option.bind_some, e, h, and_self, decide_true, if_true, Bool.true_and]
 ·simp only [h, decide_false, Bool.false_eq_true, if_false, Bool.false_and]

/-! toIntS -/
theorem laws_toIntS_l : ∀ (b a : List Int) (k : Nat), (a.length : Int) + b.length ≤ 4611686018427387904 → b.length < k → ∀ xs, xs = a ++ b →
  laws_toIntS.l0 k xs (a ++ List.replicate b.length 0) a.length = some xs := by
 intro b
 induction b with
 | nil =>
  intro a k h1 h2 xs hx
  obtain ⟨k, rfl⟩ : ∃ q, k = q + 1 := ⟨k - 1, by omega⟩
  subst hx
  simp [laws_toIntS.l0]
 | cons x b ih =>
  intro a k h1 h2 xs hx
  obtain ⟨k, rfl⟩ : ∃ q, k = q + 1 := ⟨k - 1, by omega⟩
  simp only [List.length_cons] at h1 h2
  have hl : xs.length = a.length + b.length + 1 := by rw [hx]; simp; omega
  simp only [laws_toIntS.l0]
  have a1 : rd xs (a.length : Int) = x := by subst hx; simp [rd, List.getD_eq_getElem?_getD]
  rw [if_pos (by omega), if_pos (by omega), if_pos (by simp; omega), w64 (by omega) (by omega), a1]
  have e : (a ++ List.replicate (x :: b).length 0).set (a.length : Int).toNat x = (a ++ [x]) ++ List.replicate b.length 0 := by simp [List.set_append, List.replicate_succ]
  rw [e, show (a.length : Int) + 1 = ((a ++ [x]).length : Int) by simp]
  exact ih (a ++ [x]) k (by simp; omega) (by omega) xs (by rw [hx]; simp)
theorem laws_toIntS_at (xs : List Int) (k : Nat) (hn : xs.length ≤ 35184372088832) (hk : xs.length < k) : laws_toIntS.f k xs = some xs := by
 simp only [laws_toIntS.f]
 rw [if_pos (by omega), if_pos (by simpa using hn), Int.toNat_natCast]
 have := laws_toIntS_l xs [] k (by simp; omega) hk xs (by simp)
 simpa using this

/-! marks0 -/
theorem laws_eqIntS_l (xs ys : List Int) (hl : xs.length = ys.length) (hn : xs.length ≤ 4611686018427387904) : ∀ (d i k : Nat), i + d = xs.length → d < k → laws_eqIntS.l0 k xs ys i = some (decide (xs.drop i = ys.drop i)) := by
 intro d
 induction d with
 | zero =>
  intro i k h1 h2
  obtain ⟨k, rfl⟩ : ∃ q, k = q + 1 := ⟨k - 1, by omega⟩
  simp only [laws_eqIntS.l0]; rw [if_neg (by omega), List.drop_eq_nil_of_le (by omega), List.drop_eq_nil_of_le (by omega)]; simp
 | succ d ih =>
  intro i k h1 h2
  obtain ⟨k, rfl⟩ : ∃ q, k = q + 1 := ⟨k - 1, by omega⟩
  simp only [laws_eqIntS.l0]
  rw [if_pos (by omega), if_pos (by omega), if_pos (by omega), w64 (by omega) (by omega), show (i : Int) + 1 = ((i + 1 : Nat) : Int) by omega, ih (i + 1) k (by omega) (by omega)]
  have a1 : rd xs (i : Int) = xs[i]'(by omega) := by simp [rd, List.getD_eq_getElem?_getD, List.getElem?_eq_getElem (show i < xs.length by omega)]
  have a2 : rd ys (i : Int) = ys[i]'(by omega) := by simp [rd, List.getD_eq_getElem?_getD, List.getElem?_eq_getElem (show i < ys.length by omega)]
  rw [a1, a2, List.drop_eq_getElem_cons (show i < xs.length by omega), List.drop_eq_getElem_cons (show i < ys.length by omega)]
  by_cases h : xs[i]'(by omega) = ys[i]'(by omega)
  ·rw [if_pos h, h]; simp only [List.cons.injEq, true_and]
  ·rw [if_neg h]; have q : ¬ (xs[i]'(by omega) :: xs.drop (i + 1) = ys[i]'(by omega) :: ys.drop (i + 1)) := fun e => h (List.cons.inj e).1
   simp only [q, decide_false]
theorem laws_eqIntS_at (xs ys : List Int) (k : Nat) (hn : xs.length ≤ 4611686018427387904) (hk : xs.length < k) : laws_eqIntS.f k xs ys = some (decide (xs = ys)) := by
 simp only [laws_eqIntS.f]
 by_cases h : xs.length = ys.length
 ·rw [if_pos (by omega)]
  have := laws_eqIntS_l xs ys h hn xs.length 0 k (by omega) hk
  simpa using this
 ·rw [if_neg (by omega)]
  have : ¬ xs = ys := fun e => h (by rw [e])
  simp [this]

/-! marks -/
theorem laws_markIntS_l : ∀ (b a : List Int) (k : Nat) (m : Int), 0 ≤ m → m + b.length ≤ 4611686018427387904 → (a.length : Int) + b.length ≤ 4611686018427387904 → b.length < k →
  laws_markIntS.l0 k (a ++ b) m a.length = some (m + (b.length : Int), a ++ marks b.length m) := by
 intro b
 induction b with
 | nil =>
  intro a k m h0 h1 h2 h3
  obtain ⟨k, rfl⟩ : ∃ q, k = q + 1 := ⟨k - 1, by omega⟩
  simp [laws_markIntS.l0, marks]
 | cons x b ih =>
  intro a k m h0 h1 h2 h3
  obtain ⟨k, rfl⟩ : ∃ q, k = q + 1 := ⟨k - 1, by omega⟩
  simp only [List.length_cons] at h1 h2 h3
  simp only [laws_markIntS.l0]
  rw [if_pos (by simp; omega), if_pos (by omega), w64 (x := m + 1) (by omega) (by omega), w64 (by omega) (by omega)]
  have e : (a ++ x :: b).set (a.length : Int).toNat m = (a ++ [m]) ++ b := by simp [List.set_append]
  rw [e, show (a.length : Int) + 1 = ((a ++ [m]).length : Int) by simp, ih (a ++ [m]) k (m + 1) (by omega) (by omega) (by simp; omega) (by omega)]
  simp [marks]; omega
theorem laws_markIntS_at (b : List Int) (k : Nat) (hn : b.length ≤ 1000000000) (hk : b.length < k) : laws_markIntS.f k b 1 = some (1 + (b.length : Int), marks b.length 1) := by
 have := laws_markIntS_l b [] k 1 (by omega) (by omega) (by simp; omega) hk
 simpa [laws_markIntS.f] using this
theorem laws_heldIntS_l : ∀ (d i k : Nat) (n : Nat) (m : Int), i + d = n → n ≤ 1000000000 → 0 ≤ m → m ≤ 1000000000 → d < k →
  laws_heldIntS.l0 k (marks n m) (m + i) i = some (m + n) := by
 intro d
 induction d with
 | zero =>
  intro i k n m h1 h2 h3 h4 h5
  obtain ⟨k, rfl⟩ : ∃ q, k = q + 1 := ⟨k - 1, by omega⟩
  simp only [laws_heldIntS.l0]; rw [if_neg (by rw [marks_len]; omega)]; congr 2; omega
 | succ d ih =>
  intro i k n m h1 h2 h3 h4 h5
  obtain ⟨k, rfl⟩ : ∃ q, k = q + 1 := ⟨k - 1, by omega⟩
  simp only [laws_heldIntS.l0]
  have e : rd (marks n m) (i : Int) = m + i := by
   simp only [rd, Int.toNat_natCast]; exact marks_get n m i (by omega)
  rw [if_pos (by rw [marks_len]; omega), if_pos (by omega), if_pos e, w64 (by omega) (by omega), w64 (by omega) (by omega), show m + (i : Int) + 1 = m + ((i + 1 : Nat) : Int) by omega, show (i : Int) + 1 = ((i + 1 : Nat) : Int) by omega]
  exact ih (i + 1) k n m (by omega) h2 h3 h4 (by omega)
theorem laws_heldIntS_at (n k : Nat) (hn : n ≤ 1000000000) (hk : n < k) : laws_heldIntS.f k (marks n 1) 1 = some (1 + (n : Int)) := by
 have := laws_heldIntS_l n 0 k n 1 (by omega) hn (by omega) (by omega) hk
 simpa [laws_heldIntS.f] using this

end FnExactSortPeriods_
open FnExactSortPeriods_
theorem ltP (k a b : Nat) (hk : 1000005 < k) (ha : 1 ≤ a ∧ a ≤ 1000000) (hb : 1 ≤ b ∧ b ≤ 1000000) : impl_SortPeriods.lt k (a : Int) (b : Int) = decide (key a < key b) := by
 simp only [impl_SortPeriods.lt, impl_comparePeriods_at a b k (by omega) (by omega) (by omega) (by omega) hk, Option.getD_some, cmpP]
 by_cases c : key a < key b
 ·rw [if_pos c]; simp [c]
 ·rw [if_neg c]
  by_cases d : key b < key a
  ·rw [if_pos d]; simp [c]
  ·rw [if_neg d]; simp [c]
theorem goodB_at (k : Nat) (hk : 1000005 < k) : impl_SortPeriods.goodB k = true := by
 have hm : ∀ a ∈ List.range 1000000, a < 1000000 := fun a h => List.mem_range.1 h
 unfold impl_SortPeriods.goodB
 generalize List.range 1000000 = R at hm ⊢
 have cast : ∀ a : Nat, (a : Int) + 1 = ((a + 1 : Nat) : Int) := fun a => by omega
 have lt : ∀ a ∈ R, ∀ b ∈ R, impl_SortPeriods.lt k ((a : Int) + 1) ((b : Int) + 1) = decide (key (a + 1) < key (b + 1)) := fun a ha b hb => by
  have h1 := hm a ha; have h2 := hm b hb
  rw [cast a, cast b, ltP k (a + 1) (b + 1) hk (by omega) (by omega)]
 have cp : ∀ a ∈ R, ∀ b ∈ R, (impl_comparePeriods.f k ((a : Int) + 1) ((b : Int) + 1)).isSome = true := fun a ha b hb => by
  have h1 := hm a ha; have h2 := hm b hb
  rw [cast a, cast b, impl_comparePeriods_at (a + 1) (b + 1) k (by omega) (by omega) (by omega) (by omega) hk]; rfl
 rw [List.all_eq_true]; intro a ha
 rw [List.all_eq_true]; intro b hb
 have h1 := hm a ha; have h2 := hm b hb
 rw [Bool.and_eq_true]
 constructor
 ·rw [cp a ha b hb, lt a ha a ha, lt a ha b hb, lt b hb a ha]
  by_cases c : key (a + 1) < key (b + 1)
  ·simp [c]
  ·by_cases d : key (b + 1) < key (a + 1)
   ·simp [d]
   ·have e := key_inj (m := a + 1) (n := b + 1) (by omega) (by omega) (by omega) (by omega) (by omega)
    have e2 : a = b := by omega
    simp [e2]
 ·rw [List.all_eq_true]; intro c hc
  rw [lt a ha b hb, lt b hb c hc, lt a ha c hc]
  by_cases x : key (a + 1) < key (b + 1) <;> by_cases y : key (b + 1) < key (c + 1) <;> by_cases z : key (a + 1) < key (c + 1) <;> simp [x, y, z] <;> omega
theorem srt_at (l : List Nat) (k : Nat) (hk : 1000005 < k) (hb : ∀ x ∈ l, 1 ≤ x ∧ x ≤ 1000000) :
  (∀ x, x ∈ impl_SortPeriods.srt k (up l) ↔ x ∈ up l) ∧ (impl_SortPeriods.srt k (up l)).Pairwise (fun a b => keyI a ≤ keyI b) ∧ (impl_SortPeriods.srt k (up l)).length = l.length := by
 have hu : ∀ x ∈ up l, 1 ≤ x ∧ x ≤ 1000000 := by
  intro x hx
  obtain ⟨n, hn, rfl⟩ := List.mem_map.1 hx
  have := hb n hn; omega
 have hv := impl_SortPeriods.subs_val (up l) hu
 have lS : ∀ x y : impl_SortPeriods.S, impl_SortPeriods.lt k x.1 y.1 = decide (keyI x.1 < keyI y.1) := fun x y => by
  have hx := x.2; have hy := y.2
  have e1 : x.1 = ((x.1.toNat : Nat) : Int) := by omega
  have e2 : y.1 = ((y.1.toNat : Nat) : Int) := by omega
  conv => lhs; rw [e1, e2]
  exact ltP k _ _ hk (by omega) (by omega)
 have tr : ∀ a b c : impl_SortPeriods.S, (!(impl_SortPeriods.lt k b.1 a.1)) = true → (!(impl_SortPeriods.lt k c.1 b.1)) = true → (!(impl_SortPeriods.lt k c.1 a.1)) = true := fun a b c h1 h2 => by
  rw [lS] at h1 h2 ⊢; simp at h1 h2 ⊢; omega
 have tot : ∀ a b : impl_SortPeriods.S, ((!(impl_SortPeriods.lt k b.1 a.1)) || !(impl_SortPeriods.lt k a.1 b.1)) = true := fun a b => by
  rw [lS, lS]; simp; omega
 have pw : ((impl_SortPeriods.subs (up l)).mergeSort fun x y => !(impl_SortPeriods.lt k y.1 x.1)).Pairwise fun a b => (!(impl_SortPeriods.lt k b.1 a.1)) = true := by
  first
   | exact List.pairwise_mergeSort tr tot _
   | exact List.sorted_mergeSort tr tot _
 have pm := List.mergeSort_perm (impl_SortPeriods.subs (up l)) fun x y => !(impl_SortPeriods.lt k y.1 x.1)
 refine ⟨fun x => ?_, ?_, ?_⟩
 ·have q := (pm.map Subtype.val).mem_iff (a := x)
  rw [hv] at q; exact q
 ·refine List.pairwise_map.2 (pw.imp ?_)
  intro a b h
  rw [lS] at h; simp at h; exact h
 ·have q := (pm.map Subtype.val).length_eq
  rw [hv, up_len] at q; exact q
theorem FnExactSortPeriods : laws_FnExactSortPeriods.Pure := by
 intro xs _ _ _
 refine ⟨2000000, ?_⟩
 by_cases big : (xs.length : Int) > 1048576
 ·simp only [laws_FnExactSortPeriods.f, if_pos big]
 have main : ∃ r : List Int, r.length ≤ 1000 ∧ ∃ c : Bool, ∀ k, 1999900 < k → spec_SortPeriods.f k xs = some (r, c) ∧ impl_SortPeriods.f k xs = some (r, c) := by
  have s1 : ∀ k, 1999900 < k → spec_skList.f k xs = some (decide (1 ≤ (xs.length : Int) ∧ (xs.length : Int) ≤ 60) && xs.all fun x => decide (1 ≤ x ∧ x ≤ 1000000)) := fun k hk => by
   simp only [spec_skList.f, spec_l1In_eq, spec_l1All_at xs 1 1000000 k (by omega) (by omega), Option.bind_some]
   by_cases h : 1 ≤ (xs.length : Int) ∧ (xs.length : Int) ≤ 60 <;> simp [h]
  have s2 : ∀ k, 1999900 < k → impl_arePeriods.f k xs = some (decide (1 ≤ (xs.length : Int) ∧ (xs.length : Int) ≤ 60) && xs.all fun x => decide (1 ≤ x ∧ x ≤ 1000000)) := fun k hk => impl_arePeriods_at xs k (by omega)
  by_cases v : (decide (1 ≤ (xs.length : Int) ∧ (xs.length : Int) ≤ 60) && xs.all fun x => decide (1 ≤ x ∧ x ≤ 1000000)) = true
  ·have v' := v
   rw [Bool.and_eq_true, decide_eq_true_eq, List.all_eq_true] at v'
   obtain ⟨v1, v2⟩ := v'
   have v3 : ∀ x ∈ xs, 1 ≤ x ∧ x ≤ 1000000 := fun x hx => by have := v2 x hx; simpa using this
   obtain ⟨l, rfl⟩ : ∃ l : List Nat, xs = up l := ⟨xs.map Int.toNat, by
    rw [up, List.map_map]
    conv => lhs; rw [← List.map_id xs]
    exact List.map_congr_left fun x hx => by have := v2 x hx; simp at this; simp; omega⟩
   have ln := up_len l
   have hb : ∀ x ∈ l, 1 ≤ x ∧ x ≤ 1000000 := fun x hx => by
    have := v2 (x : Int) (List.mem_map.2 ⟨x, hx, rfl⟩); simp at this; omega
   have hn : l.length ≤ 60 := by omega
   obtain ⟨z, z1, z2, z3, z4⟩ := spec_skSort_gen Asc ins_asc List.Pairwise.nil l hb hn
   have eqk : ∀ k, 1999900 < k → Go.Lib.compact (impl_SortPeriods.srt k (up l)) = up z := by
    intro k hk
    obtain ⟨t1, t2, t3⟩ := srt_at l k (by omega) hb
    obtain ⟨c1, c2⟩ := compact_asc (impl_SortPeriods.srt k (up l)) (fun x hx => v3 x ((t1 x).1 hx)) t2
    refine asc_uniq _ _ c2 (List.pairwise_map.2 (z3.imp ?_)) fun x => ?_
    ·intro a b h; simpa [keyI] using h
    ·rw [c1, t1]
     constructor
     ·intro h; obtain ⟨n, h1, rfl⟩ := List.mem_map.1 h; exact List.mem_map.2 ⟨n, z1 n h1, rfl⟩
     ·intro h; obtain ⟨n, h1, rfl⟩ := List.mem_map.1 h; exact List.mem_map.2 ⟨n, z2 n h1, rfl⟩
   have zl : (up z).length ≤ 1000 := by
    have e := eqk 2000000 (by omega)
    have q := Go.Lib.compact_length_le (impl_SortPeriods.srt 2000000 (up l))
    rw [e, (srt_at l 2000000 (by omega) hb).2.2] at q
    omega
   refine ⟨up z, zl, true, fun k hk => ⟨?_, ?_⟩⟩
   ·simp only [spec_SortPeriods.f, s1 k hk, v, Option.bind_some, if_true, z4 k (by omega)]
   ·simp only [impl_SortPeriods.f, s2 k hk, v, Option.bind_some, if_true]
    rw [if_pos ⟨goodB_at k (by omega), v3, by omega, by omega⟩, eqk k hk]
  ·simp only [Bool.not_eq_true] at v
   refine ⟨[], by simp, false, fun k hk => ?_⟩
   simp only [spec_SortPeriods.f, impl_SortPeriods.f, s1 k hk, s2 k hk, v, Option.bind_some, Bool.false_eq_true, if_false, and_self]
 obtain ⟨l, hl, c, hk⟩ := main
 have e := fun k (h : 1999900 < k) => (hk k h).2
 have t := fun k (h : 1999900 < k) => laws_toIntS_at xs k (by omega) (by omega)
 have m := fun k (h : 1999900 < k) => laws_markIntS_at l k (by omega) (by omega)
 have m2 := fun k (h : 1999900 < k) => laws_markIntS_at xs k (by omega) (by omega)
 have q := fun k (h : 1999900 < k) => laws_heldIntS_at l.length k (by omega) (by omega)
 have q2 := fun k (h : 1999900 < k) => laws_heldIntS_at xs.length k (by omega) (by omega)
 have z := fun k (h : 1999900 < k) => laws_eqIntS_at l l k (by omega) (by omega)
 have z2 := fun k (h : 1999900 < k) => laws_eqIntS_at xs xs k (by omega) (by omega)
 have p : ¬ (1 + (l.length : Int) < 0) := by omega
 have p2 : ¬ (1 + (xs.length : Int) < 0) := by omega
 simp only [laws_FnExactSortPeriods.f, if_neg big, laws_FnExactSortPeriods.j0, laws_FnExactSortPeriods.j1, laws_FnExactSortPeriods.j2, (hk 2000000 (by omega)).1, t 2000000 (by omega), e 2000000 (by omega), z 2000000 (by omega), z2 2000000 (by omega), m 2000000 (by omega), m2 2000000 (by omega), q 2000000 (by omega), t 1999999 (by omega), e 1999999 (by omega), z 1999999 (by omega), z2 1999999 (by omega), m 1999999 (by omega), m2 1999999 (by omega), q 1999999 (by omega), t 1999998 (by omega), e 1999998 (by omega), z 1999998 (by omega), z2 1999998 (by omega), m 1999998 (by omega), m2 1999998 (by omega), q 1999998 (by omega), t 1999997 (by omega), e 1999997 (by omega), z 1999997 (by omega), z2 1999997 (by omega), m 1999997 (by omega), m2 1999997 (by omega), q 1999997 (by omega), Option.bind_some, p, p2, bne_self_eq_false, decide_true, if_true, if_false, Bool.false_eq_true]

end Go.Proofs.Ytcbbkeojoichnaa.Pure
