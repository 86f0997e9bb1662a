/- The program's TentOf returns what the reference's returns, for all arguments. -/
import Derived.Test.YtmpccnagidednaaPFnExactTentOfx7
import Derived.Test.YtmpccnagidednaaMathMap
import Derived.Test.YtmpccnagidednaaMathRat
import Derived.Test.YtmpccnagidednaaMathMarks
namespace Go.Proofs.Ytmpccnagidednaa.Pure
open Go.RowKit Go.Proofs.Ytmpccnagidednaa.PFnExactTentOf Go.Proofs.YtmpccnagidednaaW.PrintWords Go.Proofs.YtmpccnagidednaaW.PrintLast Go.Proofs.YtmpccnagidednaaW.PrintMore Go.Proofs.Ytmpccnagidednaa.Math
set_option linter.unusedVariables false
set_option linter.unusedSimpArgs false
namespace FnExactTentOf_
/-! rdPt -/
theorem rdPt (xs : List S91) (i : Nat) (h : i < xs.length) : rd_T91 xs (i : Int) = xs[i] := by
  simp [rd_T91, List.getD_eq_getElem?_getD, List.getElem?_eq_getElem h]
theorem rdRt (xs : List S33) (i : Nat) (h : i < xs.length) : rd_T33 xs (i : Int) = xs[i] := by
  simp [rd_T33, List.getD_eq_getElem?_getD, List.getElem?_eq_getElem h]
def pt (x : S91) : Pt := ⟨x.f0.f0, x.f0.f1, x.f1.f0, x.f1.f1⟩
def rt (x : S33) : Int × Int := (x.f0, x.f1)

/-! wrap -/
theorem w64 {x : Int} (h1 : -9223372036854775808 ≤ x) (h2 : x ≤ 9223372036854775807) : wrap64 x = x := by unfold wrap64; omega

/-! gcdI -/
theorem impl_gcd_l (b : Nat) : ∀ (a k : Nat), b < k → impl_greatestDivisor.l0 k (a : Int) (b : Int) = some ((Nat.gcd a b : Nat) : Int) := by
  induction b using Nat.strongRecOn with
  | _ b ih =>
    intro a k hk
    obtain ⟨k, rfl⟩ : ∃ m, k = m + 1 := ⟨k - 1, by omega⟩
    simp only [impl_greatestDivisor.l0]
    by_cases h : b = 0
    · subst h; simp
    · rw [if_neg (by omega), Int.tmod_eq_emod_of_nonneg (by omega), show (a : Int) % (b : Int) = ((a % b : Nat) : Int) by omega, ih (a % b) (Nat.mod_lt _ (by omega)) b k (by have := Nat.mod_lt a (show b > 0 by omega); omega)]
      rw [Nat.gcd_comm a b, Nat.gcd_rec b a, Nat.gcd_comm]
theorem impl_abs_at (a : Int) (h : -9000000000000000000 ≤ a) : impl_abs.f a = some ((a.natAbs : Nat) : Int) := by
  unfold impl_abs.f
  by_cases h0 : a < 0
  · rw [if_pos h0]
    by_cases h1 : -a ≤ 9223372036854775807
    · rw [w64 (by omega) h1]; congr 1; omega
    · omega
  · rw [if_neg h0]; congr 1; omega
theorem impl_gcd_at (a b : Int) (k : Nat) (ha : -9000000000000000000 ≤ a) (hb : -9000000000000000000 ≤ b) (hk : b.natAbs < k) : impl_greatestDivisor.f k a b = some ((Int.gcd a b : Nat) : Int) := by
  simp only [impl_greatestDivisor.f, impl_abs_at a ha, impl_abs_at b hb, Option.bind_some, impl_gcd_l b.natAbs a.natAbs k hk]; rfl

/-! within -/
theorem impl_within_eq (a b c : Int) : impl_within.f a b c = some (decide (b ≤ a ∧ a ≤ c)) := by
  unfold impl_within.f; split <;> simp <;> omega

/-! isRat -/
theorem impl_isRat_at (n d : Int) (k : Nat) (hk : 1000000000 < k) : impl_isRat.f k n d = some (goodB n d) := by
  simp only [impl_isRat.f, impl_within_eq, Option.bind_some, goodB]
  by_cases h : 1 ≤ d ∧ d ≤ 1000000000
  · by_cases h2 : -1000000000 ≤ n ∧ n ≤ 1000000000
    · rw [decide_eq_true h, decide_eq_true h2, impl_gcd_at n d k (by omega) (by omega) (by omega)]
      simp only [if_true, Option.bind_some]; congr 1; rw [Bool.eq_iff_iff]; simp [h, h2]; omega
    · rw [decide_eq_true h, decide_eq_false h2]; simp only [if_true, Bool.false_eq_true, if_false]; congr 1; symm; apply decide_eq_false; omega
  · rw [decide_eq_false h]; simp only [Bool.false_eq_true, if_false]; congr 1; symm; apply decide_eq_false; omega

/-! isUnit -/
theorem impl_isUnit_at (n d : Int) (k : Nat) (hk : 1000000000 < k) : impl_isUnit.f k n d = some (unitB n d) := by
  simp only [impl_isUnit.f, impl_isRat_at n d k hk, Option.bind_some, unitB]
  cases goodB n d
  · simp
  · by_cases h : n ≥ 0 <;> simp [h]

/-! cmpI -/
theorem impl_compare_at (a b c d : Int) (h : goodB a b = true) (h2 : goodB c d = true) : impl_compare.f a b c d = some (cmpR a b c d) := by
  obtain ⟨p1, p2, _⟩ := goodB_mul h h2
  simp only [impl_compare.f, cmpR]
  rw [w64 (by omega) (by omega), w64 (by omega) (by omega)]
  by_cases q : a * d < c * b
  · rw [if_pos q, if_pos q]
  · rw [if_neg q, if_neg q]; split <;> rfl
theorem impl_less_at (a b c d : Int) (h : goodB a b = true) (h2 : goodB c d = true) : impl_less.f a b c d = some (decide (a * d < c * b)) := by
  simp only [impl_less.f, impl_compare_at a b c d h h2, Option.bind_some, cmpR]
  congr 2; rw [eq_iff_iff]; repeat' split <;> omega

/-! anyS(I=slices_IndexFunc__impl_isMap_1;C=slices_ContainsFunc__impl_isMap_1;S=S91;RD=rdPt;PRED=impl_isMap_1.f k e.f0.f0 e.f0.f1 e.f1.f0 e.f1.f1) -/
/-- ContainsFunc over structs, the predicate with rounds. -/
theorem slices_IndexFunc__impl_isMap_1_l (P : S91 → Bool) (xs : List S91) (K : Nat) (hP : ∀ e, e ∈ xs → ∀ k, K < k → impl_isMap_1.f k e.f0.f0 e.f0.f1 e.f1.f0 e.f1.f1 = some (P e)) (hn : xs.length ≤ 4611686018427387904) : ∀ (d i k : Nat), i + d = xs.length → K + d + 1 < k →
    ∃ r : Int, slices_IndexFunc__impl_isMap_1.l0 k xs xs.length i = some r ∧ (decide (r ≥ 0)) = (xs.drop i).any P := by
  intro d
  induction d with
  | zero =>
    intro i k h1 h2
    obtain ⟨k, rfl⟩ : ∃ q, k = q + 1 := ⟨k - 1, by omega⟩
    refine ⟨-1, ?_, ?_⟩
    · simp only [slices_IndexFunc__impl_isMap_1.l0]; rw [if_neg (by omega)]
    · rw [List.drop_eq_nil_of_le (by omega)]; rfl
  | succ d ih =>
    intro i k h1 h2
    obtain ⟨k, rfl⟩ : ∃ q, k = q + 1 := ⟨k - 1, by omega⟩
    simp only [slices_IndexFunc__impl_isMap_1.l0]
    have a2 := hP (xs[i]'(by omega)) (List.getElem_mem _) k (by omega)
    rw [if_pos (by omega), if_pos (by omega), if_pos (by omega), rdPt xs i (by omega), a2, Option.bind_some, List.drop_eq_getElem_cons (show i < xs.length by omega), List.any_cons]
    by_cases h : P (xs[i]'(by omega)) = true
    · exact ⟨i, by rw [if_pos h], by rw [h]; simp⟩
    · obtain ⟨r, hr, h3⟩ := ih (i + 1) k (by omega) (by omega)
      refine ⟨r, ?_, ?_⟩
      · rw [if_neg h, w64 (by omega) (by omega), show (i : Int) + 1 = ((i + 1 : Nat) : Int) by omega]; exact hr
      · rw [h3]; simp [h]
theorem slices_ContainsFunc__impl_isMap_1_at (P : S91 → Bool) (xs : List S91) (K k : Nat) (hP : ∀ e, e ∈ xs → ∀ k, K < k → impl_isMap_1.f k e.f0.f0 e.f0.f1 e.f1.f0 e.f1.f1 = some (P e)) (hn : xs.length ≤ 4611686018427387904) (hk : K + xs.length + 1 < k) : slices_ContainsFunc__impl_isMap_1.f k xs = some (xs.any P) := by
  obtain ⟨r, h1, h2⟩ := slices_IndexFunc__impl_isMap_1_l P xs K hP hn xs.length 0 k (by omega) hk
  simp only [slices_ContainsFunc__impl_isMap_1.f, slices_IndexFunc__impl_isMap_1.f]
  rw [show (0 : Int) = ((0 : Nat) : Int) by rfl, h1, Option.bind_some]
  simp only [List.drop_zero] at h2; rw [← h2]; rfl

/-! isMap -/
theorem impl_isCoord_at (n d : Int) (k : Nat) (hk : 1000000000 < k) : impl_isCoord.f k n d = some (coordB n d) := by
  simp only [impl_isCoord.f, impl_isUnit_at n d k hk, Option.bind_some, coordB]
  cases unitB n d <;> simp
theorem impl_isMap_1_at (p : S91) (k : Nat) (hk : 1000000000 < k) : impl_isMap_1.f k p.f0.f0 p.f0.f1 p.f1.f0 p.f1.f1 = some (!(ptB (pt p))) := by
  simp only [impl_isMap_1.f, impl_isCoord_at _ _ k hk, Option.bind_some, ptB, pt]
  cases coordB p.f0.f0 p.f0.f1 <;> simp
theorem impl_xsOf_l (xs : List S91) (hn : xs.length ≤ 1000) : ∀ (d i k : Nat) (acc : List S33), i + d = xs.length → acc.length = i → d < k →
    impl_xsOf.l0 k acc xs xs.length i = some (acc ++ (xs.drop i).map (·.f0)) := by
  intro d
  induction d with
  | zero =>
    intro i k acc h1 h2 h3
    obtain ⟨k, rfl⟩ : ∃ q, k = q + 1 := ⟨k - 1, by omega⟩
    simp only [impl_xsOf.l0]; rw [if_neg (by omega), List.drop_eq_nil_of_le (by omega)]; simp
  | succ d ih =>
    intro i k acc h1 h2 h3
    obtain ⟨k, rfl⟩ : ∃ q, k = q + 1 := ⟨k - 1, by omega⟩
    simp only [impl_xsOf.l0]
    rw [if_pos (by omega), if_pos (by omega), if_pos (by omega), if_pos (by omega), rdPt xs i (by omega), w64 (by omega) (by omega), show (i : Int) + 1 = ((i + 1 : Nat) : Int) by omega, ih (i + 1) k _ (by omega) (by simp; omega) (by omega), List.drop_eq_getElem_cons (show i < xs.length by omega)]
    simp only [List.map_cons, List.append_assoc, List.cons_append, List.nil_append]
theorem impl_isRising_l (xs : List S33) (hn : xs.length ≤ 1000) (hg : ∀ x ∈ xs, goodB x.f0 x.f1 = true) : ∀ (d i k : Nat), i + 1 + d = xs.length → d < k →
    impl_isRising.l0 k xs ((i + 1 : Nat) : Int) = some (risB ((xs.drop i).map rt)) := by
  intro d
  induction d with
  | zero =>
    intro i k h1 h3
    obtain ⟨k, rfl⟩ : ∃ q, k = q + 1 := ⟨k - 1, by omega⟩
    simp only [impl_isRising.l0]; rw [if_neg (by omega), List.drop_eq_getElem_cons (show i < xs.length by omega), List.drop_eq_nil_of_le (by omega)]; rfl
  | succ d ih =>
    intro i k h1 h3
    obtain ⟨k, rfl⟩ : ∃ q, k = q + 1 := ⟨k - 1, by omega⟩
    simp only [impl_isRising.l0]
    rw [if_pos (by omega), w64 (x := ((i + 1 : Nat) : Int) - 1) (by omega) (by omega), if_pos (by omega), if_pos (by omega), if_pos (by omega), show ((i + 1 : Nat) : Int) - 1 = ((i : Nat) : Int) by omega, rdRt xs i (by omega), rdRt xs (i + 1) (by omega),
      impl_less_at _ _ _ _ (hg _ (List.getElem_mem _)) (hg _ (List.getElem_mem _)), Option.bind_some, w64 (by omega) (by omega), show ((i + 1 : Nat) : Int) + 1 = ((i + 1 + 1 : Nat) : Int) by omega, ih (i + 1) k (by omega) (by omega),
      List.drop_eq_getElem_cons (show i < xs.length by omega), List.drop_eq_getElem_cons (show i + 1 < xs.length by omega)]
    simp only [List.map_cons, risB, rt]
    by_cases h : (xs[i]).f0 * (xs[i + 1]).f1 < (xs[i + 1]).f0 * (xs[i]).f1
    · rw [decide_eq_true h, if_pos rfl, Bool.true_and]
    · rw [decide_eq_false h, if_neg (by simp), Bool.false_and]
theorem impl_isMap_at (l : List S91) (k : Nat) (hk : 1000000100 < k) : impl_isMap.f k l = some (mapB (l.map pt)) := by
  obtain ⟨k, rfl⟩ : ∃ q, k = q + 1 := ⟨k - 1, by omega⟩
  simp only [impl_isMap.f, impl_within_eq, Option.bind_some, mapB, List.length_map]
  by_cases h : (2 : Int) ≤ (l.length : Int) ∧ (l.length : Int) ≤ 12
  · have h' : 2 ≤ l.length ∧ l.length ≤ 12 := by omega
    rw [decide_eq_true h, decide_eq_true h', Bool.true_and]
    simp only [if_true]
    rw [slices_ContainsFunc__impl_isMap_1_at (fun p => !(ptB (pt p))) l 1000000000 (k + 1) (fun e _ k hk => impl_isMap_1_at e k hk) (by omega) (by omega), Option.bind_some]
    by_cases ha : (l.map pt).all ptB = true
    · have hb : (l.any fun p => !(ptB (pt p))) = false := by
        rw [List.any_eq_false]; intro p hp
        rw [List.all_eq_true] at ha
        have := ha (pt p) (List.mem_map_of_mem hp)
        simp [this]
      rw [hb, ha, Bool.true_and]
      have hgood : ∀ p ∈ l, goodB p.f0.f0 p.f0.f1 = true := by
        intro p hp
        rw [List.all_eq_true] at ha
        exact (coordB_iff.1 (ptB_iff.1 (ha (pt p) (List.mem_map_of_mem hp))).1).1
      have e0 : rd_T91 l 0 = l[0] := rdPt l 0 (by omega)
      have e1 : rd_T91 l ((l.length : Int) - 1) = l[l.length - 1] := by
        rw [show (l.length : Int) - 1 = ((l.length - 1 : Nat) : Int) by omega]; exact rdPt l (l.length - 1) (by omega)
      have f0 : (l.map pt).head?.map xOf = some ((l[0]).f0.f0, (l[0]).f0.f1) := by
        rw [List.head?_eq_getElem?]; simp [xOf, pt, show 0 < l.length by omega]
      have f1 : (l.map pt).getLast?.map xOf = some ((l[l.length - 1]).f0.f0, (l[l.length - 1]).f0.f1) := by
        rw [List.getLast?_eq_getElem?]; simp [xOf, pt, show l.length - 1 < l.length by omega]
      simp only [impl_isMap.j0, impl_zero.f, impl_oneRat.f, Option.bind_some, Bool.false_eq_true, if_false]
      rw [w64 (x := (l.length : Int) - 1) (by omega) (by omega), if_pos (show 0 < (l.length : Int) by omega), if_pos (show 0 ≤ (l.length : Int) - 1 by omega), if_pos (show (l.length : Int) - 1 < (l.length : Int) by omega), e0, e1, f0, f1]
      have hx := impl_xsOf_l l (by omega) l.length 0 k [] (by omega) rfl (by omega)
      have hr := impl_isRising_l (l.map (·.f0)) (by simp; omega) (fun x hx => by obtain ⟨p, hp, rfl⟩ := List.mem_map.1 hx; exact hgood p hp) (l.length - 1) 0 k (by simp; omega) (by omega)
      simp only [List.drop_zero, List.nil_append] at hx hr
      have hx' : impl_xsOf.f k l = some (l.map (·.f0)) := hx
      have hr' : impl_isRising.f k (l.map (·.f0)) = some (risB ((l.map (·.f0)).map rt)) := hr
      simp only [hx', hr', Option.bind_some, List.map_map]
      have em : (List.map (rt ∘ fun x => x.f0) l) = List.map (xOf ∘ pt) l := rfl
      rw [em]
      by_cases c0 : (l[0]).f0.f0 = 0 ∧ (l[0]).f0.f1 = 1
      · by_cases c1 : (l[l.length - 1]).f0.f0 = 1 ∧ (l[l.length - 1]).f0.f1 = 1
        · simp [c0.1, c0.2, c1.1, c1.2]
        · rw [if_pos (by simp [c0.1, c0.2]), if_neg (by simp; intro h; exact fun h2 => c1 ⟨h, h2⟩)]
          have : ¬ (some ((l[l.length - 1]).f0.f0, (l[l.length - 1]).f0.f1) = some ((1 : Int), (1 : Int))) := by simp; intro h; exact fun h2 => c1 ⟨h, h2⟩
          simp [this]
      · rw [if_neg (by simp; intro h; exact fun h2 => c0 ⟨h, h2⟩)]
        have : ¬ (some ((l[0]).f0.f0, (l[0]).f0.f1) = some ((0 : Int), (1 : Int))) := by simp; intro h; exact fun h2 => c0 ⟨h, h2⟩
        simp [this]
    · have hb : (l.any fun p => !(ptB (pt p))) = true := by
        rw [← Bool.not_eq_false]; intro e; rw [List.any_eq_false] at e; apply ha; rw [List.all_eq_true]
        intro q hq; obtain ⟨p, hp, rfl⟩ := List.mem_map.1 hq; simpa using e p hp
      rw [hb, Bool.eq_false_iff.2 ha]; simp [impl_isMap.j0]
  · have h' : ¬ (2 ≤ l.length ∧ l.length ≤ 12) := by omega
    rw [decide_eq_false h, decide_eq_false h']; simp [impl_isMap.j0]

/-! gcdS -/
theorem spec_gcd_l (b : Nat) : ∀ (a k : Nat), b < k → spec_raCommon.l0 k (a : Int) (b : Int) = some ((Nat.gcd a b : Nat) : Int) := by
  induction b using Nat.strongRecOn with
  | _ b ih =>
    intro a k hk
    obtain ⟨k, rfl⟩ : ∃ m, k = m + 1 := ⟨k - 1, by omega⟩
    simp only [spec_raCommon.l0]
    by_cases h : b = 0
    · subst h; simp
    · rw [if_pos (by omega), if_neg (by omega), Int.tmod_eq_emod_of_nonneg (by omega), show (a : Int) % (b : Int) = ((a % b : Nat) : Int) by omega, ih (a % b) (Nat.mod_lt _ (by omega)) b k (by have := Nat.mod_lt a (show b > 0 by omega); omega)]
      rw [Nat.gcd_comm a b, Nat.gcd_rec b a, Nat.gcd_comm]
theorem spec_l1Abs_at (a : Int) (h : -9000000000000000000 ≤ a) (h2 : a ≤ 9000000000000000000) : spec_l1Abs.f a = some ((a.natAbs : Nat) : Int) := by
  simp only [spec_l1Abs.f, spec_l1Most.f]
  rw [w64 (by omega) (by omega)]
  by_cases h0 : a > -a
  · rw [if_pos h0, Option.bind_some]; congr 1; omega
  · rw [if_neg h0, Option.bind_some]; congr 1; omega
theorem spec_gcd_at (a b : Nat) (k : Nat) (hk : b < k) : spec_raCommon.f k (a : Int) (b : Int) = some ((Nat.gcd a b : Nat) : Int) := by
  simp only [spec_raCommon.f]; exact spec_gcd_l b a k hk

/-! l1In -/
theorem spec_l1In_eq (a b c : Int) : spec_l1In.f a b c = some (decide (b ≤ a ∧ a ≤ c)) := by
  unfold spec_l1In.f; split <;> simp <;> omega

/-! raGood -/
theorem spec_raGood_at (n d : Int) (k : Nat) (hk : 1000000000 < k) : spec_raGood.f k n d = some (goodB n d) := by
  simp only [spec_raGood.f, spec_l1In_eq, Option.bind_some, goodB]
  by_cases h : 1 ≤ d ∧ d ≤ 1000000000
  · by_cases h2 : -1000000000 ≤ n ∧ n ≤ 1000000000
    · have e : d = ((d.natAbs : Nat) : Int) := by omega
      rw [decide_eq_true h, decide_eq_true h2, spec_l1Abs_at n (by omega) (by omega)]
      simp only [if_true, Option.bind_some]
      rw [show spec_raCommon.f k ((n.natAbs : Nat) : Int) d = some ((Nat.gcd n.natAbs d.natAbs : Nat) : Int) by
        have := spec_gcd_at n.natAbs d.natAbs k (by omega)
        rwa [← e] at this, Option.bind_some]
      congr 1; rw [Bool.eq_iff_iff]; simp [h, h2, Int.gcd]; omega
    · rw [decide_eq_true h, decide_eq_false h2]; simp only [if_true, Bool.false_eq_true, if_false]; congr 1; symm; apply decide_eq_false; omega
  · rw [decide_eq_false h]; simp only [Bool.false_eq_true, if_false]; congr 1; symm; apply decide_eq_false; omega

/-! raUnit -/
theorem spec_raUnit_at (n d : Int) (k : Nat) (hk : 1000000000 < k) : spec_raUnit.f k n d = some (unitB n d) := by
  simp only [spec_raUnit.f, spec_raGood_at n d k hk, spec_l1In_eq, Option.bind_some, unitB]
  cases goodB n d <;> simp

/-! imCoord -/
theorem spec_imCoord_at (n d : Int) (k : Nat) (hk : 1000000000 < k) : spec_imCoord.f k n d = some (coordB n d) := by
  simp only [spec_imCoord.f, spec_raUnit_at n d k hk, Option.bind_some, coordB]
  cases unitB n d <;> simp

/-! eqPointS -/
theorem laws_eqPointS_l (xs : List S91) (hn : xs.length ≤ 4611686018427387904) : ∀ (d i k : Nat), i + d = xs.length → d < k → laws_eqPointS.l0 k xs xs i = some true := by
  intro d
  induction d with
  | zero =>
    intro i k h1 h2
    obtain ⟨k, rfl⟩ : ∃ q, k = q + 1 := ⟨k - 1, by omega⟩
    simp only [laws_eqPointS.l0]; rw [if_neg (by omega)]
  | succ d ih =>
    intro i k h1 h2
    obtain ⟨k, rfl⟩ : ∃ q, k = q + 1 := ⟨k - 1, by omega⟩
    simp only [laws_eqPointS.l0, laws_eqPoint.f, laws_eqRat.f, if_true, Option.bind_some]
    rw [if_pos (by omega), if_pos (by omega), if_pos (by omega), w64 (by omega) (by omega), show (i : Int) + 1 = ((i + 1 : Nat) : Int) by omega, ih (i + 1) k (by omega) (by omega)]
theorem laws_eqPointS_at (xs : List S91) (k : Nat) (hn : xs.length ≤ 4611686018427387904) (hk : xs.length < k) : laws_eqPointS.f k xs xs = some true := by
  simp only [laws_eqPointS.f, if_true]
  exact laws_eqPointS_l xs hn xs.length 0 k (by omega) hk

/-! markPointS -/
/-- Four whole numbers a point, counted on. -/
def mkPts : Nat → Int → List S91
  | 0, _ => []
  | n + 1, m => ⟨⟨m, m + 1⟩, ⟨m + 2, m + 3⟩⟩ :: mkPts n (m + 4)
theorem mkPts_len (n : Nat) : ∀ m, (mkPts n m).length = n := by
  induction n with
  | zero => intro m; rfl
  | succ n ih => intro m; simp [mkPts, ih]
theorem laws_markPointS_l : ∀ (b a : List S91) (k : Nat) (m : Int), 0 ≤ m → m + 4 * b.length ≤ 4611686018427387904 → (a.length : Int) + b.length ≤ 4611686018427387904 → b.length < k →
    laws_markPointS.l0 k (a ++ b) m a.length = some (m + 4 * (b.length : Int), a ++ mkPts b.length m) := by
  intro b
  induction b with
  | nil =>
    intro a k m h0 h1 h2 h3
    obtain ⟨k, rfl⟩ : ∃ q, k = q + 1 := ⟨k - 1, by omega⟩
    simp [laws_markPointS.l0, mkPts]
  | cons x b ih =>
    intro a k m h0 h1 h2 h3
    obtain ⟨k, rfl⟩ : ∃ q, k = q + 1 := ⟨k - 1, by omega⟩
    simp only [List.length_cons] at h1 h2 h3
    have rd0 : ∀ (y : S91), rd_T91 (a ++ y :: b) (a.length : Int) = y := fun y => by rw [rdPt _ _ (by simp)]; simp
    have st0 : ∀ (y z : S91), (a ++ y :: b).set ((a.length : Int)).toNat z = a ++ z :: b := fun y z => by simp [List.set_append]
    simp only [laws_markPointS.l0, Option.bind_some]
    rw [if_pos (by simp; omega), if_pos (by omega)]
    simp only [rd0, st0]
    rw [w64 (x := m + 1) (by omega) (by omega), w64 (x := m + 1 + 1) (by omega) (by omega), w64 (x := m + 1 + 1 + 1) (by omega) (by omega), w64 (x := m + 1 + 1 + 1 + 1) (by omega) (by omega), w64 (by omega) (by omega)]
    have e : a ++ (⟨⟨m, m + 1⟩, ⟨m + 1 + 1, m + 1 + 1 + 1⟩⟩ : S91) :: b = (a ++ [⟨⟨m, m + 1⟩, ⟨m + 1 + 1, m + 1 + 1 + 1⟩⟩]) ++ b := by simp
    rw [e, show (a.length : Int) + 1 = ((a ++ [(⟨⟨m, m + 1⟩, ⟨m + 1 + 1, m + 1 + 1 + 1⟩⟩ : S91)]).length : Int) by simp, ih _ k (m + 1 + 1 + 1 + 1) (by omega) (by omega) (by simp; omega) (by omega)]
    simp only [List.length_cons, mkPts, List.append_assoc, List.cons_append, List.nil_append, show m + 1 + 1 = m + 2 by omega, show m + 2 + 1 = m + 3 by omega, show m + 3 + 1 = m + 4 by omega]
    congr 2; omega
theorem laws_markPointS_at (b : List S91) (k : Nat) (hn : b.length ≤ 1000000000) (hk : b.length < k) : laws_markPointS.f k b 1 = some (1 + 4 * (b.length : Int), mkPts b.length 1) := by
  have := laws_markPointS_l b [] k 1 (by omega) (by omega) (by simp; omega) hk
  simpa [laws_markPointS.f] using this
theorem laws_heldPointS_l : ∀ (n : Nat) (a : List S91) (k : Nat) (m : Int), 0 ≤ m → m + 4 * n ≤ 4611686018427387904 → (a.length : Int) + n ≤ 4611686018427387904 → n < k →
    laws_heldPointS.l0 k (a ++ mkPts n m) m a.length = some (m + 4 * (n : Int)) := by
  intro n
  induction n with
  | zero =>
    intro a k m h0 h1 h2 h3
    obtain ⟨k, rfl⟩ : ∃ q, k = q + 1 := ⟨k - 1, by omega⟩
    simp [laws_heldPointS.l0, mkPts]
  | succ n ih =>
    intro a k m h0 h1 h2 h3
    obtain ⟨k, rfl⟩ : ∃ q, k = q + 1 := ⟨k - 1, by omega⟩
    have rd0 : rd_T91 (a ++ mkPts (n + 1) m) (a.length : Int) = ⟨⟨m, m + 1⟩, ⟨m + 2, m + 3⟩⟩ := by rw [rdPt _ _ (by simp [mkPts])]; simp [mkPts]
    simp only [laws_heldPointS.l0, rd0]
    rw [if_pos (by rw [List.length_append, mkPts_len]; omega), if_pos (by omega), if_pos True.intro, w64 (x := m + 1) (by omega) (by omega), if_pos rfl, w64 (x := m + 1 + 1) (by omega) (by omega), if_pos (by omega), w64 (x := m + 1 + 1 + 1) (by omega) (by omega), if_pos (by omega), w64 (x := m + 1 + 1 + 1 + 1) (by omega) (by omega), w64 (by omega) (by omega)]
    have e : a ++ mkPts (n + 1) m = (a ++ [⟨⟨m, m + 1⟩, ⟨m + 2, m + 3⟩⟩]) ++ mkPts n (m + 4) := by simp [mkPts]
    rw [e, show (a.length : Int) + 1 = ((a ++ [(⟨⟨m, m + 1⟩, ⟨m + 2, m + 3⟩⟩ : S91)]).length : Int) by simp, show m + 1 + 1 + 1 + 1 = m + 4 by omega, ih _ k (m + 4) (by omega) (by omega) (by simp; omega) (by omega)]
    congr 1; omega
theorem laws_heldPointS_at (n k : Nat) (hn : n ≤ 1000000000) (hk : n < k) : laws_heldPointS.f k (mkPts n 1) 1 = some (1 + 4 * (n : Int)) := by
  have := laws_heldPointS_l n [] k 1 (by omega) (by omega) (by simp; omega) hk
  simpa [laws_heldPointS.f] using this

end FnExactTentOf_
open FnExactTentOf_
/-- The tent. -/
def tent (n d : Int) : List S91 := [⟨⟨0, 1⟩, ⟨0, 1⟩⟩, ⟨⟨1, 2⟩, ⟨n, d⟩⟩, ⟨⟨1, 1⟩, ⟨0, 1⟩⟩]
theorem tent_map (n d : Int) : mapB ((tent n d).map pt) = coordB n d := by
  have h1 : coordB 0 1 = true := by decide
  have h2 : coordB 1 2 = true := by decide
  have h3 : coordB 1 1 = true := by decide
  simp [tent, mapB, pt, ptB, xOf, risB, h1, h2, h3]
theorem FnExactTentOf : laws_FnExactTentOf.Pure := by
  intro n d _ _
  refine ⟨2000000000, ?_⟩
  have key : ∃ (l : List S91) (c : Bool), l.length ≤ 3 ∧ ∀ k, 1000000200 < k → spec_TentOf.f k n d = some (l, c) ∧ impl_TentOf.f k n d = some (l, c) := by
    have e1 : impl_tentMap.f n d = some (tent n d) := by simp [impl_tentMap.f, impl_zero.f, impl_oneRat.f, tent]
    have e2 : spec_knTent.f n d = some (tent n d) := by simp [spec_knTent.f, spec_raInt.f, tent]
    by_cases h : coordB n d = true
    · by_cases h0 : n = 0
      · subst h0; exact ⟨[], false, by simp, fun k hk => by simp [spec_TentOf.f, impl_TentOf.f, e1, e2, spec_imCoord_at 0 d k (by omega), impl_isMap_at _ k (show 1000000100 < k by omega), tent_map, h]⟩
      · exact ⟨tent n d, true, by simp [tent], fun k hk => by simp [spec_TentOf.f, impl_TentOf.f, e1, e2, spec_imCoord_at n d k (by omega), impl_isMap_at _ k (show 1000000100 < k by omega), tent_map, h, h0]⟩
    · exact ⟨[], false, by simp, fun k hk => by simp [spec_TentOf.f, impl_TentOf.f, e1, e2, spec_imCoord_at n d k (by omega), impl_isMap_at _ k (show 1000000100 < k by omega), tent_map, h]⟩
  obtain ⟨l, c, hl, hk⟩ := key
  have s := fun k (h : 1000000200 < k) => (hk k h).1
  have i := fun k (h : 1000000200 < k) => (hk k h).2
  have m := fun k (h : 1000000200 < k) => laws_markPointS_at l k (by omega) (by omega)
  have q := fun k (h : 1000000200 < k) => laws_heldPointS_at l.length k (by omega) (by omega)
  have z := fun k (h : 1000000200 < k) => laws_eqPointS_at l k (by omega) (by omega)
  have p : ¬ (1 + 4 * (l.length : Int) < 0) := by omega
  simp only [laws_FnExactTentOf.f, laws_FnExactTentOf.j0, laws_FnExactTentOf.j1, laws_toRat.f, s 2000000000 (by omega), i 2000000000 (by omega), i 1999999999 (by omega), m 1999999999 (by omega), q 1999999999 (by omega), q 1999999998 (by omega), z 2000000000 (by omega), z 1999999999 (by omega), Option.bind_some, p, bne_self_eq_false, if_true, if_false, Bool.false_eq_true]

end Go.Proofs.Ytmpccnagidednaa.Pure
