/- How structs of whole numbers, and slices of such structs, read as a law's arguments. -/
import Derived.Deep.Slices
import Derived.ChangeSame
import Derived.ChangeArms
import Derived.WideShapes
import Derived.SizedLaws
import Derived.Test.YtmpccnagidednaaWWords
namespace Go.Proofs.YtmpccnagidednaaW.PrintRow
open Go.ChangeShapes Go.WideShapes Go.Deep Go.Proofs.YtmpccnagidednaaW.PrintWords
section
variable {H : Type} {enc : TypeId × Value → H} {P : Program} {w : World} {base : Nat} {spare : Nat → Bool} {held : Bool}
/-- Two whole numbers in a struct. -/
structure Two (P : Program) (t : TypeId) : Prop where
  out : ∃ g0 g1 : Field, P.underlying t = some (.struct #[g0, g1]) ∧ g0.offset = 0 ∧ g1.offset = 1 ∧ P.cellsOf g0.type = 1 ∧ P.cellsOf g1.type = 1 ∧ P.underlying g0.type = some (.int .i64) ∧ P.underlying g1.type = some (.int .i64) ∧ P.cellsOf t = 2
/-- Two such structs in one. -/
structure Four (P : Program) (t : TypeId) : Prop where
  out : ∃ f0 f1 : Field, P.underlying t = some (.struct #[f0, f1]) ∧ f0.offset = 0 ∧ f1.offset = 2 ∧ Two P f0.type ∧ Two P f1.type ∧ P.cellsOf t = 4
theorem Two.cells {t : TypeId} (h : Two P t) : P.cellsOf t = 2 := by obtain ⟨_, _, _, _, _, _, _, _, _, h⟩ := h.out; exact h
theorem Four.cells {t : TypeId} (h : Four P t) : P.cellsOf t = 4 := by obtain ⟨_, _, _, _, _, _, _, h⟩ := h.out; exact h
theorem Two.read {t : TypeId} (h : Two P t) {n : Nat} {cs : List Value} {x : DataW H × List MemPlace} (hx : DataW.trod enc P w base spare held n t cs = some x) :
    ∃ a b : Int, cs = [.int .i64 a, .int .i64 b] ∧ (Lit.int .i64 a).wf = true ∧ (Lit.int .i64 b).wf = true := by
  obtain ⟨g0, g1, hu, o0, o1, c0, c1, i0, i1, hc⟩ := h.out
  obtain ⟨y0, y1, m, _, hl, h0, h1⟩ := trod_struct2 hu hx
  rw [o0, c0] at h0; rw [o1, c1] at h1
  obtain ⟨a, ea, _, wa⟩ := DataW.trod_int i0 h0
  obtain ⟨b, eb, _, wb⟩ := DataW.trod_int i1 h1
  rw [hc] at hl
  match cs, hl with
  | [u, v], _ =>
    simp at ea eb
    exact ⟨a, b, by rw [ea, eb], wa, wb⟩
theorem Four.read {t : TypeId} (h : Four P t) {n : Nat} {cs : List Value} {x : DataW H × List MemPlace} (hx : DataW.trod enc P w base spare held n t cs = some x) :
    ∃ a b c d : Int, cs = [.int .i64 a, .int .i64 b, .int .i64 c, .int .i64 d] ∧ (Lit.int .i64 a).wf = true ∧ (Lit.int .i64 b).wf = true ∧ (Lit.int .i64 c).wf = true ∧ (Lit.int .i64 d).wf = true := by
  obtain ⟨f0, f1, hu, o0, o1, t0, t1, hc⟩ := h.out
  obtain ⟨y0, y1, m, _, hl, h0, h1⟩ := trod_struct2 hu hx
  rw [o0, t0.cells] at h0; rw [o1, t1.cells] at h1
  obtain ⟨a, b, e0, wa, wb⟩ := t0.read h0
  obtain ⟨c, d, e1, wc, wd⟩ := t1.read h1
  rw [hc] at hl
  match cs, hl with
  | [u, v, p, q], _ =>
    simp at e0 e1
    exact ⟨a, b, c, d, by rw [e0.1, e0.2, e1.1, e1.2], wa, wb, wc, wd⟩
theorem Two.open_ {t : TypeId} (h : Two P t) {r : Reach} {b0 : Nat} {v : Value} {d : DataW H} {p : List MemPlace} (hv : Value.okWide P w r b0 t v) (hx : DataW.Trod enc P w base spare held t v d p) :
    ∃ a b : Int, v = .agg #[.int .i64 a, .int .i64 b] ∧ (Lit.int .i64 a).wf = true ∧ (Lit.int .i64 b).wf = true := by
  obtain ⟨g0, g1, hu, _⟩ := h.out
  obtain ⟨cs, rfl, _⟩ := okWide_struct hu hv
  obtain ⟨fuel, hf⟩ := hx
  obtain ⟨a, b, e, wa, wb⟩ := h.read hf
  refine ⟨a, b, ?_, wa, wb⟩
  obtain ⟨l⟩ := cs
  simp [Value.cells] at e
  rw [e]
theorem Four.open_ {t : TypeId} (h : Four P t) {r : Reach} {b0 : Nat} {v : Value} {d : DataW H} {p : List MemPlace} (hv : Value.okWide P w r b0 t v) (hx : DataW.Trod enc P w base spare held t v d p) :
    ∃ a b c e : Int, v = .agg #[.int .i64 a, .int .i64 b, .int .i64 c, .int .i64 e] ∧ (Lit.int .i64 a).wf = true ∧ (Lit.int .i64 b).wf = true ∧ (Lit.int .i64 c).wf = true ∧ (Lit.int .i64 e).wf = true := by
  obtain ⟨g0, g1, hu, _⟩ := h.out
  obtain ⟨cs, rfl, _⟩ := okWide_struct hu hv
  obtain ⟨fuel, hf⟩ := hx
  obtain ⟨a, b, c, e, ee, w1, w2, w3, w4⟩ := h.read hf
  refine ⟨a, b, c, e, ?_, w1, w2, w3, w4⟩
  obtain ⟨l⟩ := cs
  simp [Value.cells] at ee
  rw [ee]
/-- What is known of a slice of elements of sz cells: its list reads, the elements are in order. -/
def IsSl {α : Type} (d : Kd α) (wf : α → Prop) (w : World) (a : Option Addr) (len cap : Nat) (B : Nat) : Prop :=
  ∃ l : List α, len = l.length ∧ Kd.C d w a l.length l ∧ l.length ≤ cap ∧ l.length ≤ maxLen ∧ l.length * B ≤ 140737488351232 ∧ ∀ x ∈ l, wf x
theorem IsSl.of {α : Type} (d : Kd α) (wf : α → Prop) (z0 : α) {t e : TypeId} {a : Option Addr} {len cap B : Nat} {x : DataW H} {p : List MemPlace} {ts : List TypeId} {ds : List (DataW H)} {j : Nat}
    (hu : P.underlying t = some (.slice e)) (hc : P.cellsOf e = d.sz) (hB : P.bytesOf e = B)
    (hread : ∀ (n : Nat) (cs : List Value) (y : DataW H × List MemPlace), DataW.trod enc P w base spare held n e cs = some y → ∃ z : α, d.K w z cs ∧ wf z)
    (hsz : (DataW.weightsEach P ts ds).all (· ≤ reachBytes) = true) (ht : ts[j]? = some t) (hd : ds[j]? = some x)
    (h : DataW.Trod enc P w base spare held t (.slice a len cap) x p) : IsSl d wf w a len cap B := by
  obtain ⟨fuel, hf⟩ := h
  rcases open_slice hu hf with ⟨hcs, _⟩ | ⟨ad, l, c, m, n, D, Pl, hcs, hb, hl, hm, hmm, hx, hi⟩
  · simp [Value.cells] at hcs
    obtain ⟨rfl, rfl, rfl⟩ := hcs
    exact ⟨[], rfl, ⟨rfl, by simp, fun h => by simp at h⟩, by simp, by simp, by simp, by simp⟩
  · simp [Value.cells] at hcs
    obtain ⟨rfl, rfl, rfl⟩ := hcs
    have hlm : len ≤ m := by rw [hmm]; split <;> omega
    have key : ∀ i, i < len → ∃ z : α, wf z ∧ ∃ cs, cs.length = d.sz ∧ d.K w z cs ∧ ∀ k u, cs[k]? = some u → w.cell? (ad.add (i * d.sz + k)) = some u := by
      intro i hil
      obtain ⟨cs, h1, h2⟩ := hi i (by omega)
      obtain ⟨z, hz, hw⟩ := hread n cs _ h2
      obtain ⟨_, h4, h5⟩ := World.cells?_some h1
      refine ⟨z, hw, cs, by rw [h4, hc], hz, fun k u hk => ?_⟩
      have hkl : k < cs.length := (List.getElem?_eq_some_iff.1 hk).1
      have := h5 k (by omega)
      rw [hk, hc, Go.Deep.add_add] at this
      exact this
    obtain ⟨g, hg⟩ : ∃ g : Nat → α, ∀ i, i < len → wf (g i) ∧ ∃ cs, cs.length = d.sz ∧ d.K w (g i) cs ∧ ∀ k u, cs[k]? = some u → w.cell? (ad.add (i * d.sz + k)) = some u := by
      refine ⟨fun i => if h : i < len then Classical.choose (key i h) else z0, fun i hi => ?_⟩
      simp only [dif_pos hi]
      exact Classical.choose_spec (key i hi)
    have hlen : ((List.range len).map g).length = len := by simp
    refine ⟨(List.range len).map g, hlen.symm, ?_, by rw [hlen]; exact hl, by rw [hlen]; omega, ?_, ?_⟩
    · rw [hlen]
      refine ⟨hlen, by unfold maxLen at hm; omega, fun h0 => ⟨ad, rfl, fun k z hk => ?_⟩⟩
      rw [List.getElem?_map] at hk
      obtain ⟨i, hi1, hi2⟩ := Option.map_eq_some_iff.1 hk
      obtain ⟨hkl, hki⟩ := List.getElem?_eq_some_iff.1 hi1
      simp at hkl hki
      subst hki; subst hi2
      obtain ⟨_, cs, h1, h2, h3⟩ := hg k hkl
      exact ⟨cs, h1, h2, h3⟩
    · rw [hlen]
      obtain ⟨hx1, _⟩ := Prod.mk.inj hx
      subst hx1
      have z := sized_slice hsz ht hd hu
      rw [hB] at z
      simp only [List.length_map, List.length_range] at z
      exact Nat.le_trans (Nat.mul_le_mul_right _ (by omega)) z
    · intro z hz
      obtain ⟨i, hi1, rfl⟩ := List.mem_map.1 hz
      exact (hg i (by simpa using hi1)).1
end
end Go.Proofs.YtmpccnagidednaaW.PrintRow
