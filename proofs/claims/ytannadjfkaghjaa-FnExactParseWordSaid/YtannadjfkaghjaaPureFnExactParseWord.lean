/- The program's ParseWord returns what the reference's returns, for all arguments. -/
import Derived.Test.YtannadjfkaghjaaPFnExactParseWordx2
import Derived.Test.YtannadjfkaghjaaMathMarks
namespace Go.Proofs.Ytannadjfkaghjaa.Pure
open Go.RowKit Go.Proofs.Ytannadjfkaghjaa.PFnExactParseWord Go.Proofs.YtannadjfkaghjaaW.PrintWords Go.Proofs.YtannadjfkaghjaaW.PrintLast Go.Proofs.YtannadjfkaghjaaW.PrintMore Go.Proofs.Ytannadjfkaghjaa.Math
set_option linter.unusedVariables false
set_option linter.unusedSimpArgs false
namespace FnExactParseWord_
/-! wrap -/
theorem w64 {x : Int} (h1 : -9223372036854775808 ≤ x) (h2 : x ≤ 9223372036854775807) : wrap64 x = x := by unfold wrap64; omega

/-! marks0 -/
theorem laws_eqIntS_l (xs ys : List Int) (hl : xs.length = ys.length) (hn : xs.length ≤ 4611686018427387904) : ∀ (d i k : Nat), i + d = xs.length → d < k → laws_eqIntS.l0 k xs ys i = some (decide (xs.drop i = ys.drop i)) := by
 intro d
 induction d with
 | zero =>
  intro i k h1 h2
  obtain ⟨k, rfl⟩ : ∃ q, k = q + 1 := ⟨k - 1, by omega⟩
  simp only [laws_eqIntS.l0]; rw [if_neg (by omega), List.drop_eq_nil_of_le (by omega), List.drop_eq_nil_of_le (by omega)]; simp
 | succ d ih =>
  intro i k h1 h2
  obtain ⟨k, rfl⟩ : ∃ q, k = q + 1 := ⟨k - 1, by omega⟩
  simp only [laws_eqIntS.l0]
  rw [if_pos (by omega), if_pos (by omega), if_pos (by omega), w64 (by omega) (by omega), show (i : Int) + 1 = ((i + 1 : Nat) : Int) by omega, ih (i + 1) k (by omega) (by omega)]
  have a1 : rd xs (i : Int) = xs[i]'(by omega) := by simp [rd, List.getD_eq_getElem?_getD, List.getElem?_eq_getElem (show i < xs.length by omega)]
  have a2 : rd ys (i : Int) = ys[i]'(by omega) := by simp [rd, List.getD_eq_getElem?_getD, List.getElem?_eq_getElem (show i < ys.length by omega)]
  rw [a1, a2, List.drop_eq_getElem_cons (show i < xs.length by omega), List.drop_eq_getElem_cons (show i < ys.length by omega)]
  by_cases h : xs[i]'(by omega) = ys[i]'(by omega)
  ·rw [if_pos h, h]; simp only [List.cons.injEq, true_and]
  ·rw [if_neg h]; have q : ¬ (xs[i]'(by omega) :: xs.drop (i + 1) = ys[i]'(by omega) :: ys.drop (i + 1)) := fun e => h (List.cons.inj e).1
   simp only [q, decide_false]
theorem laws_eqIntS_at (xs ys : List Int) (k : Nat) (hn : xs.length ≤ 4611686018427387904) (hk : xs.length < k) : laws_eqIntS.f k xs ys = some (decide (xs = ys)) := by
 simp only [laws_eqIntS.f]
 by_cases h : xs.length = ys.length
 ·rw [if_pos (by omega)]
  have := laws_eqIntS_l xs ys h hn xs.length 0 k (by omega) hk
  simpa using this
 ·rw [if_neg (by omega)]
  have : ¬ xs = ys := fun e => h (by rw [e])
  simp [this]

/-! marks -/
theorem laws_markIntS_l : ∀ (b a : List Int) (k : Nat) (m : Int), 0 ≤ m → m + b.length ≤ 4611686018427387904 → (a.length : Int) + b.length ≤ 4611686018427387904 → b.length < k →
  laws_markIntS.l0 k (a ++ b) m a.length = some (m + (b.length : Int), a ++ marks b.length m) := by
 intro b
 induction b with
 | nil =>
  intro a k m h0 h1 h2 h3
  obtain ⟨k, rfl⟩ : ∃ q, k = q + 1 := ⟨k - 1, by omega⟩
  simp [laws_markIntS.l0, marks]
 | cons x b ih =>
  intro a k m h0 h1 h2 h3
  obtain ⟨k, rfl⟩ : ∃ q, k = q + 1 := ⟨k - 1, by omega⟩
  simp only [List.length_cons] at h1 h2 h3
  simp only [laws_markIntS.l0]
  rw [if_pos (by simp; omega), if_pos (by omega), w64 (x := m + 1) (by omega) (by omega), w64 (by omega) (by omega)]
  have e : (a ++ x :: b).set (a.length : Int).toNat m = (a ++ [m]) ++ b := by simp [List.set_append]
  rw [e, show (a.length : Int) + 1 = ((a ++ [m]).length : Int) by simp, ih (a ++ [m]) k (m + 1) (by omega) (by omega) (by simp; omega) (by omega)]
  simp [marks]; omega
theorem laws_markIntS_at (b : List Int) (k : Nat) (hn : b.length ≤ 1000000000) (hk : b.length < k) : laws_markIntS.f k b 1 = some (1 + (b.length : Int), marks b.length 1) := by
 have := laws_markIntS_l b [] k 1 (by omega) (by omega) (by simp; omega) hk
 simpa [laws_markIntS.f] using this
theorem laws_heldIntS_l : ∀ (d i k : Nat) (n : Nat) (m : Int), i + d = n → n ≤ 1000000000 → 0 ≤ m → m ≤ 1000000000 → d < k →
  laws_heldIntS.l0 k (marks n m) (m + i) i = some (m + n) := by
 intro d
 induction d with
 | zero =>
  intro i k n m h1 h2 h3 h4 h5
  obtain ⟨k, rfl⟩ : ∃ q, k = q + 1 := ⟨k - 1, by omega⟩
  simp only [laws_heldIntS.l0]; rw [if_neg (by rw [marks_len]; omega)]; congr 2; omega
 | succ d ih =>
  intro i k n m h1 h2 h3 h4 h5
  obtain ⟨k, rfl⟩ : ∃ q, k = q + 1 := ⟨k - 1, by omega⟩
  simp only [laws_heldIntS.l0]
  have e : rd (marks n m) (i : Int) = m + i := by
   simp only [rd, Int.toNat_natCast]; exact marks_get n m i (by omega)
  rw [if_pos (by rw [marks_len]; omega), if_pos (by omega), if_pos e, w64 (by omega) (by omega), w64 (by omega) (by omega), show m + (i : Int) + 1 = m + ((i + 1 : Nat) : Int) by omega, show (i : Int) + 1 = ((i + 1 : Nat) : Int) by omega]
  exact ih (i + 1) k n m (by omega) h2 h3 h4 (by omega)
theorem laws_heldIntS_at (n k : Nat) (hn : n ≤ 1000000000) (hk : n < k) : laws_heldIntS.f k (marks n 1) 1 = some (1 + (n : Int)) := by
 have := laws_heldIntS_l n 0 k n 1 (by omega) hn (by omega) (by omega) hk
 simpa [laws_heldIntS.f] using this

end FnExactParseWord_
open FnExactParseWord_
theorem parse_l (s : ByteArray) (hs : s.size ≤ 20) : ∀ (d i : Nat) (xs : List Int), i + d = s.size → xs.length ≤ i →
  ∃ (l : List Int) (c : Bool), l.length ≤ 20 ∧ ∀ k, d < k → spec_woParse.l0 k s xs i = some (l, c) ∧ impl_ParseWord.l0 k s xs i = some (l, c) := by
 intro d
 induction d with
 | zero =>
  intro i xs h1 h2
  refine ⟨xs, true, by omega, fun k hk => ?_⟩
  obtain ⟨k, rfl⟩ : ∃ q, k = q + 1 := ⟨k - 1, by omega⟩
  constructor
  ·simp only [spec_woParse.l0]; rw [if_neg (by omega)]
  ·simp only [impl_ParseWord.l0]; rw [if_neg (by omega)]
 | succ d ih =>
  intro i xs h1 h2
  by_cases a : bt s i < 97
  ·refine ⟨[], false, by simp, fun k hk => ?_⟩
   obtain ⟨k, rfl⟩ : ∃ q, k = q + 1 := ⟨k - 1, by omega⟩
   constructor
   ·simp only [spec_woParse.l0]; rw [if_pos (by omega), if_pos (by omega), if_pos a]
   ·simp only [impl_ParseWord.l0]; rw [if_pos (by omega), if_pos (by omega), if_pos a]
  ·by_cases b : bt s i > 122
   ·refine ⟨[], false, by simp, fun k hk => ?_⟩
    obtain ⟨k, rfl⟩ : ∃ q, k = q + 1 := ⟨k - 1, by omega⟩
    constructor
    ·simp only [spec_woParse.l0]; rw [if_pos (by omega), if_pos (by omega), if_neg a, if_pos b]
    ·simp only [impl_ParseWord.l0]; rw [if_pos (by omega), if_pos (by omega), if_neg a, if_pos b]
   ·obtain ⟨l, c, l1, l2⟩ := ih (i + 1) (xs ++ [(bt s i - 97) % 256]) (by omega) (by rw [List.length_append, List.length_singleton]; omega)
    refine ⟨l, c, l1, fun k hk => ?_⟩
    obtain ⟨k, rfl⟩ : ∃ q, k = q + 1 := ⟨k - 1, by omega⟩
    have e := l2 k (by omega)
    have w : wrap64 ((i : Int) + 1) = ((i + 1 : Nat) : Int) := by rw [w64 (by omega) (by omega)]; omega
    constructor
    ·simp only [spec_woParse.l0]; rw [if_pos (by omega), if_pos (by omega), if_neg a, if_neg b, if_pos (by omega), w]; exact e.1
    ·simp only [impl_ParseWord.l0]; rw [if_pos (by omega), if_pos (by omega), if_neg a, if_neg b, if_pos (by omega), w]; exact e.2
theorem FnExactParseWord : laws_FnExactParseWord.Pure := by
 intro s _
 refine ⟨1000, ?_⟩
 by_cases big : (s.size : Int) > 1048576
 ·simp only [laws_FnExactParseWord.f, if_pos big]
 have key : ∃ l : List Int, l.length ≤ 20 ∧ ∃ c, ∀ k, 900 < k → spec_ParseWord.f k s = some (l, c) ∧ impl_ParseWord.f k s = some (l, c) := by
  by_cases h : (s.size : Int) > 20
  ·refine ⟨[], by simp, false, fun k hk => ⟨?_, ?_⟩⟩
   ·simp only [spec_ParseWord.f, spec_woParse.f, if_pos h, Option.bind_some]
   ·simp only [impl_ParseWord.f, if_pos h]
  ·obtain ⟨l, c, l1, l2⟩ := parse_l s (by omega) s.size 0 [] (by omega) (by simp)
   refine ⟨l, l1, c, fun k hk => ⟨?_, ?_⟩⟩
   ·have e := (l2 k (by omega)).1
    rw [show ((0 : Nat) : Int) = 0 by rfl] at e
    simp only [spec_ParseWord.f, spec_woParse.f, if_neg h, e, Option.bind_some]
   ·have e := (l2 k (by omega)).2
    rw [show ((0 : Nat) : Int) = 0 by rfl] at e
    simp only [impl_ParseWord.f, if_neg h, e]
 obtain ⟨l, hl, c, hk⟩ := key
 have e := fun k (h : 900 < k) => (hk k h).2
 have m := fun k (h : 900 < k) => laws_markIntS_at l k (by omega) (by omega)
 have q := fun k (h : 900 < k) => laws_heldIntS_at l.length k (by omega) (by omega)
 have z := fun k (h : 900 < k) => laws_eqIntS_at l l k (by omega) (by omega)
 have p : ¬ (1 + (l.length : Int) < 0) := by omega
 simp only [laws_FnExactParseWord.f, if_neg big, laws_FnExactParseWord.j0, laws_FnExactParseWord.j1, (hk 1000 (by omega)).1, e 1000 (by omega), e 999 (by omega), m 999 (by omega), q 999 (by omega), q 998 (by omega), z 1000 (by omega), z 999 (by omega), Option.bind_some, p, bne_self_eq_false, decide_true, if_true, if_false, Bool.false_eq_true]

end Go.Proofs.Ytannadjfkaghjaa.Pure
