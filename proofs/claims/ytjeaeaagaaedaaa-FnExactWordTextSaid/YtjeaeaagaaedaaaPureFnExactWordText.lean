/- The program's WordText returns what the reference's returns, for all arguments. -/
import Derived.Test.YtjeaeaagaaedaaaPFnExactWordTextx2
namespace Go.Proofs.Ytjeaeaagaaedaaa.Pure
open Go.RowKit Go.Proofs.Ytjeaeaagaaedaaa.PFnExactWordText Go.Proofs.YtjeaeaagaaedaaaW.PrintWords Go.Proofs.YtjeaeaagaaedaaaW.PrintLast Go.Proofs.YtjeaeaagaaedaaaW.PrintMore
set_option linter.unusedVariables false
set_option linter.unusedSimpArgs false
namespace FnExactWordText_
/-! wrap -/
theorem w64 {x : Int} (h1 : -9223372036854775808 ≤ x) (h2 : x ≤ 9223372036854775807) : wrap64 x = x := by unfold wrap64; omega

/-! toIntS -/
theorem laws_toIntS_l : ∀ (b a : List Int) (k : Nat), (a.length : Int) + b.length ≤ 4611686018427387904 → b.length < k → ∀ xs, xs = a ++ b →
    laws_toIntS.l0 k xs (a ++ List.replicate b.length 0) a.length = some xs := by
  intro b
  induction b with
  | nil =>
    intro a k h1 h2 xs hx
    obtain ⟨k, rfl⟩ : ∃ q, k = q + 1 := ⟨k - 1, by omega⟩
    subst hx
    simp [laws_toIntS.l0]
  | cons x b ih =>
    intro a k h1 h2 xs hx
    obtain ⟨k, rfl⟩ : ∃ q, k = q + 1 := ⟨k - 1, by omega⟩
    simp only [List.length_cons] at h1 h2
    have hl : xs.length = a.length + b.length + 1 := by rw [hx]; simp; omega
    simp only [laws_toIntS.l0]
    have a1 : rd xs (a.length : Int) = x := by subst hx; simp [rd, List.getD_eq_getElem?_getD]
    rw [if_pos (by omega), if_pos (by omega), if_pos (by simp; omega), w64 (by omega) (by omega), a1]
    have e : (a ++ List.replicate (x :: b).length 0).set (a.length : Int).toNat x = (a ++ [x]) ++ List.replicate b.length 0 := by simp [List.set_append, List.replicate_succ]
    rw [e, show (a.length : Int) + 1 = ((a ++ [x]).length : Int) by simp]
    exact ih (a ++ [x]) k (by simp; omega) (by omega) xs (by rw [hx]; simp)
theorem laws_toIntS_at (xs : List Int) (k : Nat) (hn : xs.length ≤ 35184372088832) (hk : xs.length < k) : laws_toIntS.f k xs = some xs := by
  simp only [laws_toIntS.f]
  rw [if_pos (by omega), if_pos (by simpa using hn), Int.toNat_natCast]
  have := laws_toIntS_l xs [] k (by simp; omega) hk xs (by simp)
  simpa using this

/-! l1In -/
theorem spec_l1In_eq (a b c : Int) : spec_l1In.f a b c = some (decide (b ≤ a ∧ a ≤ c)) := by
  unfold spec_l1In.f; split <;> simp <;> omega

/-! l1All -/
theorem spec_l1All_l (lo hi : Int) (xs : List Int) (hn : xs.length ≤ 4611686018427387904) : ∀ (d i k : Nat), i + d = xs.length → d < k →
    spec_l1All.l0 k lo hi xs xs.length i = some ((xs.drop i).all fun x => decide (lo ≤ x ∧ x ≤ hi)) := by
  intro d
  induction d with
  | zero =>
    intro i k h1 h2
    obtain ⟨k, rfl⟩ : ∃ q, k = q + 1 := ⟨k - 1, by omega⟩
    simp only [spec_l1All.l0]; rw [if_neg (by omega), List.drop_eq_nil_of_le (by omega)]; rfl
  | succ d ih =>
    intro i k h1 h2
    obtain ⟨k, rfl⟩ : ∃ q, k = q + 1 := ⟨k - 1, by omega⟩
    simp only [spec_l1All.l0]
    have a1 : rd xs (i : Int) = xs[i]'(by omega) := by simp [rd, List.getD_eq_getElem?_getD, List.getElem?_eq_getElem (show i < xs.length by omega)]
    rw [if_pos (by omega), if_pos (by omega), if_pos (by omega), a1, spec_l1In_eq, Option.bind_some, List.drop_eq_getElem_cons (show i < xs.length by omega), List.all_cons, w64 (by omega) (by omega), show (i : Int) + 1 = ((i + 1 : Nat) : Int) by omega, ih (i + 1) k (by omega) (by omega)]
    by_cases h : lo ≤ xs[i]'(by omega) ∧ xs[i]'(by omega) ≤ hi
    · rw [decide_eq_true h, if_pos rfl, Bool.true_and]
    · rw [decide_eq_false h, if_neg (by simp), Bool.false_and]
theorem spec_l1All_at (xs : List Int) (lo hi : Int) (k : Nat) (hn : xs.length ≤ 4611686018427387904) (hk : xs.length < k) : spec_l1All.f k xs lo hi = some (xs.all fun x => decide (lo ≤ x ∧ x ≤ hi)) := by
  have := spec_l1All_l lo hi xs hn xs.length 0 k (by omega) hk
  simpa [spec_l1All.f] using this

/-! within -/
theorem impl_within_eq (a b c : Int) : impl_within.f a b c = some (decide (b ≤ a ∧ a ≤ c)) := by
  unfold impl_within.f; split <;> simp <;> omega

/-! anyInt(I=slices_IndexFunc__impl_WordText_1;C=slices_ContainsFunc__impl_WordText_1;P=impl_WordText_1) -/
/-- ContainsFunc over ints, the predicate without rounds. slices_IndexFunc__impl_WordText_1: IndexFunc, slices_ContainsFunc__impl_WordText_1: ContainsFunc, impl_WordText_1: the predicate's function -/
theorem slices_IndexFunc__impl_WordText_1_l (P : Int → Bool) (xs : List Int) (hP : ∀ x, x ∈ xs → impl_WordText_1.f x = some (P x)) (hn : xs.length ≤ 4611686018427387904) : ∀ (d i k : Nat), i + d = xs.length → d < k →
    ∃ r : Int, slices_IndexFunc__impl_WordText_1.l0 k xs xs.length i = some r ∧ (decide (r ≥ 0)) = (xs.drop i).any P := by
  intro d
  induction d with
  | zero =>
    intro i k h1 h2
    obtain ⟨k, rfl⟩ : ∃ q, k = q + 1 := ⟨k - 1, by omega⟩
    refine ⟨-1, ?_, ?_⟩
    · simp only [slices_IndexFunc__impl_WordText_1.l0]; rw [if_neg (by omega)]
    · rw [List.drop_eq_nil_of_le (by omega)]; rfl
  | succ d ih =>
    intro i k h1 h2
    obtain ⟨k, rfl⟩ : ∃ q, k = q + 1 := ⟨k - 1, by omega⟩
    simp only [slices_IndexFunc__impl_WordText_1.l0]
    have a1 : rd xs (i : Int) = xs[i]'(by omega) := by simp [rd, List.getD_eq_getElem?_getD, List.getElem?_eq_getElem (show i < xs.length by omega)]
    have a2 := hP (xs[i]'(by omega)) (List.getElem_mem _)
    rw [if_pos (by omega), if_pos (by omega), if_pos (by omega), a1, a2, Option.bind_some, List.drop_eq_getElem_cons (show i < xs.length by omega), List.any_cons]
    by_cases h : P (xs[i]'(by omega)) = true
    · exact ⟨i, by rw [if_pos h], by rw [h]; simp⟩
    · obtain ⟨r, hr, h3⟩ := ih (i + 1) k (by omega) (by omega)
      refine ⟨r, ?_, ?_⟩
      · rw [if_neg h, w64 (by omega) (by omega), show (i : Int) + 1 = ((i + 1 : Nat) : Int) by omega]; exact hr
      · rw [h3]; simp [h]
theorem slices_ContainsFunc__impl_WordText_1_at (P : Int → Bool) (xs : List Int) (k : Nat) (hP : ∀ x, x ∈ xs → impl_WordText_1.f x = some (P x)) (hn : xs.length ≤ 4611686018427387904) (hk : xs.length < k) : slices_ContainsFunc__impl_WordText_1.f k xs = some (xs.any P) := by
  obtain ⟨r, h1, h2⟩ := slices_IndexFunc__impl_WordText_1_l P xs hP hn xs.length 0 k (by omega) hk
  simp only [slices_ContainsFunc__impl_WordText_1.f, slices_IndexFunc__impl_WordText_1.f]
  rw [show (0 : Int) = ((0 : Nat) : Int) by rfl, h1, Option.bind_some]
  simp only [List.drop_zero] at h2; rw [← h2]; rfl

/-! wordText -/
/-- The letters of numbers from 0 to 25. -/
def lets (xs : List Int) : List UInt8 := xs.map fun x => UInt8.ofNat (97 + x.toNat)
theorem ba_ext {a b : ByteArray} (h : a.data.toList = b.data.toList) : a = b := by
  cases a; cases b; congr; exact Array.toList_inj.mp h
theorem abc_at (x : Int) (h0 : 0 ≤ x) (h1 : x ≤ 25) : ((⟨#[97, 98, 99, 100, 101, 102, 103, 104, 105, 106, 107, 108, 109, 110, 111, 112, 113, 114, 115, 116, 117, 118, 119, 120, 121, 122]⟩ : ByteArray).extract x.toNat (x + 1).toNat) = ⟨#[UInt8.ofNat (97 + x.toNat)]⟩ := by
  obtain ⟨n, rfl⟩ : ∃ n : Nat, x = n := ⟨x.toNat, by omega⟩
  have : n = 0 ∨ n = 1 ∨ n = 2 ∨ n = 3 ∨ n = 4 ∨ n = 5 ∨ n = 6 ∨ n = 7 ∨ n = 8 ∨ n = 9 ∨ n = 10 ∨ n = 11 ∨ n = 12 ∨ n = 13 ∨ n = 14 ∨ n = 15 ∨ n = 16 ∨ n = 17 ∨ n = 18 ∨ n = 19 ∨ n = 20 ∨ n = 21 ∨ n = 22 ∨ n = 23 ∨ n = 24 ∨ n = 25 := by omega
  rcases this with rfl | rfl | rfl | rfl | rfl | rfl | rfl | rfl | rfl | rfl | rfl | rfl | rfl | rfl | rfl | rfl | rfl | rfl | rfl | rfl | rfl | rfl | rfl | rfl | rfl | rfl <;> decide +kernel
theorem spec_woText_l (xs : List Int) (hx : ∀ x ∈ xs, 0 ≤ x ∧ x ≤ 25) (hn : xs.length ≤ 20) : ∀ (d i k : Nat) (s : ByteArray), i + d = xs.length → s.size = i → d < k →
    ∃ r : ByteArray, spec_woText.l0 k s xs xs.length i = some r ∧ r.data.toList = s.data.toList ++ lets (xs.drop i) := by
  intro d
  induction d with
  | zero =>
    intro i k s h1 h2 h3
    obtain ⟨k, rfl⟩ : ∃ q, k = q + 1 := ⟨k - 1, by omega⟩
    refine ⟨s, ?_, ?_⟩
    · simp only [spec_woText.l0]; rw [if_neg (by omega)]
    · rw [List.drop_eq_nil_of_le (by omega)]; simp [lets]
  | succ d ih =>
    intro i k s h1 h2 h3
    obtain ⟨k, rfl⟩ : ∃ q, k = q + 1 := ⟨k - 1, by omega⟩
    have a1 : rd xs (i : Int) = xs[i]'(by omega) := by simp [rd, List.getD_eq_getElem?_getD, List.getElem?_eq_getElem (show i < xs.length by omega)]
    obtain ⟨b0, b1⟩ := hx (xs[i]'(by omega)) (List.getElem_mem _)
    simp only [spec_woText.l0, a1]
    rw [w64 (x := xs[i]'(by omega) + 1) (by omega) (by omega), abc_at _ b0 b1, if_pos (by omega), if_pos (by omega), if_pos (by omega), if_pos b0, if_pos (by omega), if_pos (by omega), if_pos (by rw [h2]; simp [ByteArray.size]; omega), w64 (by omega) (by omega), show (i : Int) + 1 = ((i + 1 : Nat) : Int) by omega]
    obtain ⟨r, hr, h4⟩ := ih (i + 1) k (s ++ ⟨#[UInt8.ofNat (97 + (xs[i]'(by omega)).toNat)]⟩) (by omega) (by rw [ByteArray.size_append, h2]; rfl) (by omega)
    refine ⟨r, hr, ?_⟩
    rw [h4, List.drop_eq_getElem_cons (show i < xs.length by omega)]
    simp only [lets, List.map_cons, ByteArray.data_append, Array.toList_append, List.append_assoc]; rfl
theorem impl_WordText_l (xs : List Int) (hx : ∀ x ∈ xs, 0 ≤ x ∧ x ≤ 25) (hn : xs.length ≤ 20) : ∀ (d i k : Nat) (acc : List Int), i + d = xs.length → acc.length = i → d < k →
    impl_WordText.l0 k acc xs xs.length i = some (strOfNums (acc ++ (xs.drop i).map fun x => 97 + x), true) := by
  intro d
  induction d with
  | zero =>
    intro i k s h1 h2 h3
    obtain ⟨k, rfl⟩ : ∃ q, k = q + 1 := ⟨k - 1, by omega⟩
    simp only [impl_WordText.l0]; rw [if_neg (by omega), List.drop_eq_nil_of_le (by omega)]; simp
  | succ d ih =>
    intro i k s h1 h2 h3
    obtain ⟨k, rfl⟩ : ∃ q, k = q + 1 := ⟨k - 1, by omega⟩
    have a1 : rd xs (i : Int) = xs[i]'(by omega) := by simp [rd, List.getD_eq_getElem?_getD, List.getElem?_eq_getElem (show i < xs.length by omega)]
    obtain ⟨b0, b1⟩ := hx (xs[i]'(by omega)) (List.getElem_mem _)
    simp only [impl_WordText.l0, a1]
    rw [if_pos (by omega), if_pos (by omega), if_pos (by omega), if_pos (by omega), w64 (x := 97 + xs[i]'(by omega)) (by omega) (by omega), show (97 + xs[i]'(by omega)) % 256 = 97 + xs[i]'(by omega) by omega, w64 (by omega) (by omega), show (i : Int) + 1 = ((i + 1 : Nat) : Int) by omega, ih (i + 1) k _ (by omega) (by simp; omega) (by omega), List.drop_eq_getElem_cons (show i < xs.length by omega)]
    simp only [List.map_cons, List.append_assoc, List.cons_append, List.nil_append]

/-! marks0 -/
theorem laws_eqIntS_l (xs ys : List Int) (hl : xs.length = ys.length) (hn : xs.length ≤ 4611686018427387904) : ∀ (d i k : Nat), i + d = xs.length → d < k → laws_eqIntS.l0 k xs ys i = some (decide (xs.drop i = ys.drop i)) := by
  intro d
  induction d with
  | zero =>
    intro i k h1 h2
    obtain ⟨k, rfl⟩ : ∃ q, k = q + 1 := ⟨k - 1, by omega⟩
    simp only [laws_eqIntS.l0]; rw [if_neg (by omega), List.drop_eq_nil_of_le (by omega), List.drop_eq_nil_of_le (by omega)]; simp
  | succ d ih =>
    intro i k h1 h2
    obtain ⟨k, rfl⟩ : ∃ q, k = q + 1 := ⟨k - 1, by omega⟩
    simp only [laws_eqIntS.l0]
    rw [if_pos (by omega), if_pos (by omega), if_pos (by omega), w64 (by omega) (by omega), show (i : Int) + 1 = ((i + 1 : Nat) : Int) by omega, ih (i + 1) k (by omega) (by omega)]
    have a1 : rd xs (i : Int) = xs[i]'(by omega) := by simp [rd, List.getD_eq_getElem?_getD, List.getElem?_eq_getElem (show i < xs.length by omega)]
    have a2 : rd ys (i : Int) = ys[i]'(by omega) := by simp [rd, List.getD_eq_getElem?_getD, List.getElem?_eq_getElem (show i < ys.length by omega)]
    rw [a1, a2, List.drop_eq_getElem_cons (show i < xs.length by omega), List.drop_eq_getElem_cons (show i < ys.length by omega)]
    by_cases h : xs[i]'(by omega) = ys[i]'(by omega)
    · rw [if_pos h, h]; simp only [List.cons.injEq, true_and]
    · rw [if_neg h]; have q : ¬ (xs[i]'(by omega) :: xs.drop (i + 1) = ys[i]'(by omega) :: ys.drop (i + 1)) := fun e => h (List.cons.inj e).1
      simp only [q, decide_false]
theorem laws_eqIntS_at (xs ys : List Int) (k : Nat) (hn : xs.length ≤ 4611686018427387904) (hk : xs.length < k) : laws_eqIntS.f k xs ys = some (decide (xs = ys)) := by
  simp only [laws_eqIntS.f]
  by_cases h : xs.length = ys.length
  · rw [if_pos (by omega)]
    have := laws_eqIntS_l xs ys h hn xs.length 0 k (by omega) hk
    simpa using this
  · rw [if_neg (by omega)]
    have : ¬ xs = ys := fun e => h (by rw [e])
    simp [this]

end FnExactWordText_
open FnExactWordText_
theorem FnExactWordText : laws_FnExactWordText.Pure := by
  intro l _ hl2 _
  refine ⟨1048600, ?_⟩
  simp only [laws_FnExactWordText.f]
  by_cases h0 : (l.length : Int) > 1048576
  · rw [if_pos h0]
  rw [if_neg h0]
  have t := fun k (h : 1048580 < k) => laws_toIntS_at l k (by omega) (by omega)
  have z := fun k (h : 1048580 < k) => laws_eqIntS_at l l k (by omega) (by omega)
  have key : ∃ s s' c, spec_WordText.f 1048600 l = some (s, c) ∧ impl_WordText.f 1048600 l = some (s', c) ∧ s'.data.toList = s.data.toList := by
    by_cases h1 : (l.length : Int) > 20
    · exact ⟨⟨#[]⟩, ⟨#[]⟩, false, by simp only [spec_WordText.f]; rw [if_pos h1], by simp only [impl_WordText.f, impl_WordText.j0]; rw [if_pos h1]; simp, rfl⟩
    · have a1 := spec_l1All_at l 0 25 1048600 (by omega) (by omega)
      have a2 := slices_ContainsFunc__impl_WordText_1_at (fun x => !decide (0 ≤ x ∧ x ≤ 25)) l 1048600 (fun x _ => by simp only [impl_WordText_1.f, impl_within_eq, Option.bind_some]) (by omega) (by omega)
      by_cases h2 : ∀ x ∈ l, 0 ≤ x ∧ x ≤ 25
      · have b1 : (l.all fun x => decide (0 ≤ x ∧ x ≤ 25)) = true := by rw [List.all_eq_true]; intro x hx; exact decide_eq_true (h2 x hx)
        have b2 : (l.any fun x => !decide (0 ≤ x ∧ x ≤ 25)) = false := by rw [List.any_eq_false]; intro x hx; simp [h2 x hx]
        obtain ⟨r, hr, hr2⟩ := spec_woText_l l h2 (by omega) l.length 0 1048600 ⟨#[]⟩ (by omega) rfl (by omega)
        have hi := impl_WordText_l l h2 (by omega) l.length 0 1048599 [] (by omega) rfl (by omega)
        refine ⟨r, strOfNums ([] ++ (l.drop 0).map fun x => 97 + x), true, ?_, ?_, ?_⟩
        · simp only [spec_WordText.f]; rw [if_neg h1, a1, b1]; simp only [Option.bind_some, if_true, spec_woText.f]; rw [show (0 : Int) = ((0 : Nat) : Int) by rfl, hr]; rfl
        · simp only [impl_WordText.f, impl_WordText.j0]; rw [if_neg h1, a2, b2]; simp only [Option.bind_some, Bool.false_eq_true, if_false]; rw [show (0 : Int) = ((0 : Nat) : Int) by rfl, hi]
        · rw [hr2]; simp only [List.drop_zero, List.nil_append, strOfNums, lets, List.map_map]
          apply List.map_congr_left
          intro x hx; obtain ⟨p, q⟩ := h2 x hx
          simp only [Function.comp]; congr 1; omega
      · have b1 : (l.all fun x => decide (0 ≤ x ∧ x ≤ 25)) = false := by
          rw [Bool.eq_false_iff]; intro e; rw [List.all_eq_true] at e; exact h2 fun x hx => of_decide_eq_true (e x hx)
        have b2 : (l.any fun x => !decide (0 ≤ x ∧ x ≤ 25)) = true := by
          rw [← Bool.not_eq_false]; intro e; rw [List.any_eq_false] at e; exact h2 fun x hx => by simpa using e x hx
        refine ⟨⟨#[]⟩, ⟨#[]⟩, false, ?_, ?_, rfl⟩
        · simp only [spec_WordText.f]; rw [if_neg h1, a1, b1]; rfl
        · simp only [impl_WordText.f, impl_WordText.j0]; rw [if_neg h1, a2, b2]; rfl
  obtain ⟨s, s', c, e1, e2, e3⟩ := key
  have e4 : s'.toList = s.toList := by rw [ba_ext e3]
  simp only [t 1048600 (by omega), t 1048599 (by omega), e1, e2, e4, Option.bind_some, if_true, bne_self_eq_false, laws_FnExactWordText.j0, z 1048599 (by omega), decide_true, Bool.false_eq_true, if_false]

end Go.Proofs.Ytjeaeaagaaedaaa.Pure
