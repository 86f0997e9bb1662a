/- Plain mathematics, no program in sight: Tail. -/
import Derived.Test.YtmpccnagidednaaMathShark
namespace Go.Proofs.Ytmpccnagidednaa.Math
theorem mem_fl (n : Nat) : ∀ d m (x : Int), x ∈ fl n d m ↔ ∃ q : Nat, x = q ∧ m ≤ q ∧ q < m + d ∧ key n ≤ key q
  | 0, m, x => by simp [fl]; intro q _ h1 h2; omega
  | d + 1, m, x => by
    have ih := mem_fl n d (m + 1) x
    simp only [fl]
    by_cases h : key n ≤ key m
    · rw [if_pos h, List.mem_cons, ih]
      constructor
      · rintro (rfl | ⟨q, rfl, a, b, c⟩)
        · exact ⟨m, rfl, by omega, by omega, h⟩
        · exact ⟨q, rfl, by omega, by omega, c⟩
      · rintro ⟨q, rfl, a, b, c⟩
        by_cases e : q = m
        · exact .inl (by rw [e])
        · exact .inr ⟨q, rfl, by omega, by omega, c⟩
    · rw [if_neg h, ih]
      constructor
      · rintro ⟨q, rfl, a, b, c⟩
        exact ⟨q, rfl, by omega, by omega, c⟩
      · rintro ⟨q, rfl, a, b, c⟩
        have e : q ≠ m := fun e => h (e ▸ c)
        exact ⟨q, rfl, by omega, by omega, c⟩
theorem fl_rise (n : Nat) : ∀ d m, (fl n d m).Pairwise (· < ·)
  | 0, m => List.Pairwise.nil
  | d + 1, m => by
    simp only [fl]
    by_cases h : key n ≤ key m
    · rw [if_pos h, List.pairwise_cons]
      refine ⟨fun x hx => ?_, fl_rise n d (m + 1)⟩
      obtain ⟨q, rfl, a, _, _⟩ := (mem_fl n d (m + 1) x).1 hx
      omega
    · rw [if_neg h]; exact fl_rise n d (m + 1)
theorem rise_ext : ∀ a b : List Int, a.Pairwise (· < ·) → b.Pairwise (· < ·) → (∀ x, x ∈ a ↔ x ∈ b) → a = b
  | [], [], _, _, _ => rfl
  | [], y :: b, _, _, h => absurd ((h y).2 (by simp)) (by simp)
  | x :: a, [], _, _, h => absurd ((h x).1 (by simp)) (by simp)
  | x :: a, y :: b, ha, hb, h => by
    rw [List.pairwise_cons] at ha hb
    have e : x = y := by
      rcases List.mem_cons.1 ((h x).1 (by simp)) with e | e
      · exact e
      · rcases List.mem_cons.1 ((h y).2 (by simp)) with e2 | e2
        · exact e2.symm
        · have := hb.1 x e; have := ha.1 y e2; omega
    subst e
    congr 1
    refine rise_ext a b ha.2 hb.2 fun z => ⟨fun hz => ?_, fun hz => ?_⟩
    · rcases List.mem_cons.1 ((h z).1 (by simp [hz])) with e | e
      · have := ha.1 z hz; omega
      · exact e
    · rcases List.mem_cons.1 ((h z).2 (by simp [hz])) with e | e
      · have := hb.1 z hz; omega
      · exact e
/-- Is each of a list greater than the one before it? -/
def asc : List Nat → Bool
  | a :: b :: t => decide (a < b) && asc (b :: t)
  | _ => true
theorem asc_rise : ∀ l : List Nat, asc l = true → (l.map (fun n : Nat => (n : Int))).Pairwise (· < ·)
  | [], _ => by simp
  | [a], _ => by simp
  | a :: b :: t, h => by
    simp only [asc, Bool.and_eq_true, decide_eq_true_eq] at h
    have ih := asc_rise (b :: t) h.2
    rw [List.map_cons, List.pairwise_cons]
    refine ⟨fun x hx => ?_, ih⟩
    rw [List.map_cons, List.pairwise_cons] at ih
    rw [List.map_cons] at hx
    rcases List.mem_cons.1 hx with rfl | hx
    · omega
    · have := ih.1 x hx; omega
theorem asc_last : ∀ (l : List Nat) (h : l ≠ []), asc l = true → ∀ x ∈ l, x ≤ l.getLast h
  | [a], _, _, x, hx => by simp at hx; simp [hx]
  | a :: b :: t, _, h, x, hx => by
    simp only [asc, Bool.and_eq_true, decide_eq_true_eq] at h
    have ih := asc_last (b :: t) (by simp) h.2
    rw [List.getLast_cons (by simp)]
    rcases List.mem_cons.1 hx with rfl | hx
    · have := ih b (by simp); omega
    · exact ih x hx
/-- A rising list within 1 .. most is all that its members force just if it is what its strongest member forces. -/
theorem tail_eq (l : List Nat) (most r : Nat) (ha : asc l = true) (hb : ∀ x ∈ l, 1 ≤ x ∧ x ≤ most) (hr : r ∈ l) (hm : ∀ y ∈ l, key r ≤ key y) :
    decide (l.map (fun n : Nat => (n : Int)) = fl r most 1) = l.all fun n => (fl n most 1).all fun m => decide (m ∈ l.map fun n : Nat => (n : Int)) := by
  rw [Bool.eq_iff_iff, decide_eq_true_eq, List.all_eq_true]
  constructor
  · intro e n hn
    rw [List.all_eq_true]
    intro m hm2
    rw [decide_eq_true_eq, e, mem_fl]
    obtain ⟨q, rfl, a, b, c⟩ := (mem_fl n most 1 m).1 hm2
    exact ⟨q, rfl, a, b, Nat.le_trans (hm n hn) c⟩
  · intro h
    refine rise_ext _ _ (asc_rise l ha) (fl_rise r most 1) fun x => ⟨fun hx => ?_, fun hx => ?_⟩
    · obtain ⟨q, hq, rfl⟩ := List.mem_map.1 hx
      have := hb q hq
      exact (mem_fl r most 1 _).2 ⟨q, rfl, by omega, by omega, hm q hq⟩
    · have := List.all_eq_true.1 (h r hr) x hx
      simpa using this

end Go.Proofs.Ytmpccnagidednaa.Math
