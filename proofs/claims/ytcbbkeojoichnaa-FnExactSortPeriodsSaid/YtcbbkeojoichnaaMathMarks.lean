/- Plain mathematics, no program in sight: Marks. -/
import Derived.RowKit
namespace Go.Proofs.Ytcbbkeojoichnaa.Math
/-- m, m + 1, .. : n of them. -/
def marks : Nat → Int → List Int
 | 0, _ => []
 | n + 1, m => m :: marks n (m + 1)
theorem marks_len (n : Nat) : ∀ m, (marks n m).length = n := by
 induction n with
 | zero => intro m; rfl
 | succ n ih => intro m; simp [marks, ih]
theorem marks_get (n : Nat) : ∀ (m : Int) (i : Nat), i < n → (marks n m).getD i 0 = m + i := by
 induction n with
 | zero => intro m i h; omega
 | succ n ih =>
  intro m i h
  cases i with
  | zero => simp [marks]
  | succ i => simp only [marks, List.getD_cons_succ]; rw [ih (m + 1) i (by omega)]; omega

end Go.Proofs.Ytcbbkeojoichnaa.Math
