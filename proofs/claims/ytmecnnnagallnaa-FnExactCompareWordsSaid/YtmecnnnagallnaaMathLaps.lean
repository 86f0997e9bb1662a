/- Plain mathematics, no program in sight: Laps. -/
import Derived.RowKit
namespace Go.Proofs.Ytmecnnnagallnaa.Math
/-- A number's sign. -/
def sgn (x : Int) : Int := if x > 0 then 1 else if x < 0 then -1 else 0
theorem sgn_bd (x : Int) : -1 ≤ sgn x ∧ sgn x ≤ 1 := by unfold sgn; repeat' split <;> omega
/-- One more piece, of sign s, behind i pieces. -/
def lapStep (i : Nat) (s : Int) (out : List (List Int)) : List (List Int) :=
  if 0 < out.length ∧ (out.getD (out.length - 1) []).getD 2 0 = s then out.set (out.length - 1) ((out.getD (out.length - 1) []).set 1 ((i : Int) + 1)) else out ++ [[(i : Int), (i : Int) + 1, s]]
def lapsR : Nat → List Int → List (List Int) → List (List Int)
  | _, [], out => out
  | i, s :: t, out => lapsR (i + 1) t (lapStep i s out)
structure LapOK (i : Nat) (out : List (List Int)) : Prop where
  len : out.length ≤ i
  row : ∀ r ∈ out, ∃ a b s : Int, r = [a, b, s] ∧ 0 ≤ a ∧ a < b ∧ b ≤ i ∧ -1 ≤ s ∧ s ≤ 1
  pos : 0 < i → 0 < out.length ∧ (out.getD (out.length - 1) []).getD 1 0 = i
theorem LapOK.get {i : Nat} {out : List (List Int)} (h : LapOK i out) (j : Nat) (hj : j < out.length) : ∃ a b s : Int, out.getD j [] = [a, b, s] ∧ 0 ≤ a ∧ a < b ∧ b ≤ i ∧ -1 ≤ s ∧ s ≤ 1 := by
  rw [List.getD_eq_getElem?_getD, List.getElem?_eq_getElem hj]
  exact h.row _ (List.getElem_mem hj)
theorem lapStep_ok {i : Nat} {s : Int} {out : List (List Int)} (h : LapOK i out) (hs : -1 ≤ s ∧ s ≤ 1) : LapOK (i + 1) (lapStep i s out) := by
  unfold lapStep
  split
  · next hc =>
    obtain ⟨h0, h2⟩ := hc
    obtain ⟨a, b, t, e, b1, b2, b3, b4, b5⟩ := h.get (out.length - 1) (by omega)
    rw [e]
    refine ⟨by rw [List.length_set]; have := h.len; omega, fun r hr => ?_, fun _ => ⟨by rw [List.length_set]; exact h0, ?_⟩⟩
    · rcases List.mem_or_eq_of_mem_set hr with hr | rfl
      · obtain ⟨a, b, t, e, b1, b2, b3, b4, b5⟩ := h.row r hr
        exact ⟨a, b, t, e, b1, b2, by omega, b4, b5⟩
      · exact ⟨a, (i : Int) + 1, t, rfl, b1, by omega, by omega, b4, b5⟩
    · have e2 : ∀ x : List Int, (out.set (out.length - 1) x).getD (out.length - 1) [] = x := fun x => by
        rw [List.getD_eq_getElem?_getD, List.getElem?_set_self (by omega)]; rfl
      rw [List.length_set, e2]
      simp
  · refine ⟨by have := h.len; simp; omega, fun r hr => ?_, fun _ => ⟨by simp, ?_⟩⟩
    · rcases List.mem_append.1 hr with hr | hr
      · obtain ⟨a, b, t, e, b1, b2, b3, b4, b5⟩ := h.row r hr
        exact ⟨a, b, t, e, b1, b2, by omega, b4, b5⟩
      · rw [List.mem_singleton.1 hr]
        exact ⟨i, (i : Int) + 1, s, rfl, by omega, by omega, by omega, hs.1, hs.2⟩
    · have e2 : (out ++ [[(i : Int), (i : Int) + 1, s]]).getD ((out ++ [[(i : Int), (i : Int) + 1, s]]).length - 1) [] = [(i : Int), (i : Int) + 1, s] := by
        rw [List.getD_eq_getElem?_getD, List.length_append]; simp
      rw [e2]
      simp
theorem lapsR_ok : ∀ (ss : List Int) (i : Nat) (out : List (List Int)), LapOK i out → (∀ s ∈ ss, -1 ≤ s ∧ s ≤ 1) → LapOK (i + ss.length) (lapsR i ss out)
  | [], i, out, h, _ => h
  | s :: t, i, out, h, hs => by
    have := lapsR_ok t (i + 1) _ (lapStep_ok h (hs s (by simp))) (fun x hx => hs x (by simp [hx]))
    rw [List.length_cons, show i + (t.length + 1) = i + 1 + t.length by omega]
    exact this
theorem lapOK_nil : LapOK 0 [] := ⟨by simp, by simp, by simp⟩
/-- The laps of a list of slopes' numerators. -/
def lapsOf (l : List Int) : List (List Int) := lapsR 0 (l.map sgn) []
theorem lapsOf_ok (l : List Int) : LapOK l.length (lapsOf l) := by
  have := lapsR_ok (l.map sgn) 0 [] lapOK_nil (fun s hs => by
    obtain ⟨x, _, rfl⟩ := List.mem_map.1 hs
    exact sgn_bd x)
  simpa [lapsOf] using this

end Go.Proofs.Ytmecnnnagallnaa.Math
