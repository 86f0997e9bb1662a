/-
  No cell of these rows narrows 'for every input' (looked for: loops, veiled, ifaces, maps, wideKeys, modest, calm, conditions, laid).
  DERIVED. THE GIVEN ROWS OF THIS SEAT. 3 by the template 'for every input the law returns true; each argument reads behind the call as it read before'; 0 by the template 'total and deterministic' (their statements: YtcbbkeojoichnaaTotals.lean).
  GIVEN WITH THE SEED: the statements are not yours to turn. If you find one false, say at which input.
  Laid BY PROGRAM, IN A SANDBOX (cutbox-rows.mjs): the forced cells as the released guide's own fill.sh prints them over the translation f6d7afe359427d58… (all of the seat's roots in one cut). By AI agents, Wed Nov 11 2026. No macro, syntax, notation, axiom, sorry.
-/
import Derived.Test.YtcbbkeojoichnaaChecked
import GoSem.Claim
import GoSem.ClaimJoined
import GoSem.ClaimMapViews
import Derived.JoinedTies
import Derived.KernelRfl
namespace Go.Proofs.Ytcbbkeojoichnaa
/- THE CELL 'sum', in the pinned program and in every row, IS THE sha256 OF THE DUMP (.gsa) THAT YtcbbkeojoichnaaProg.lean LOADS. Nothing in Lean hashes anything: it is a label: what it is worth is what the hold of that sum in a sandbox is worth. -/
noncomputable def Try.pinned : Pinned := { name := "ytcbbkeojoichnaa", sum := "f6d7afe359427d58978d3583fd43c9afc7b5825f546e58728470255d5b439fa5", checked := Try.checked }
namespace Rows
def none {H : Type} : Left H := { results := [], args := [] }

/-- 'laws.FnExactMaximalWords': WHATEVER THE INPUT: true; the input reads as it did. -/
def fnExactMaximalWordsSpec : ChangeSpec := { name := "fnExactMaximalWords", fn := fun _ => fun
  | [d] => { results := [.lit (.bool true)], args := [d] }
  | _ => none }
def fnExactMaximalWordsRow : OpenClaim := { program := "ytcbbkeojoichnaa", sum := "f6d7afe359427d58978d3583fd43c9afc7b5825f546e58728470255d5b439fa5", func := "loop.example/g01003/laws.FnExactMaximalWords", spec := "fnExactMaximalWords", inPlace := ["internal/bytealg.IndexByteString"], unfollowed := true, recurses := true, apart := false }
def FnExactMaximalWordsSaid : Prop := fnExactMaximalWordsRow.holds Try.pinned (OpenSpec.ofChange fnExactMaximalWordsSpec)

/-- ITS FALSE NEIGHBOUR: 'it returns false'. Refute it at one input. -/
def fnExactMaximalWordsWrong : ChangeSpec := { name := "fnExactMaximalWords", fn := fun _ => fun
  | [d] => { results := [.lit (.bool false)], args := [d] }
  | _ => none }
def FnExactMaximalWordsWrongFalsely : Prop := fnExactMaximalWordsRow.holds Try.pinned (OpenSpec.ofChange fnExactMaximalWordsWrong)

/-- 'laws.FnExactSortPeriods': WHATEVER THE INPUT: true; the input reads as it did. -/
def fnExactSortPeriodsSpec : ChangeSpec := { name := "fnExactSortPeriods", fn := fun _ => fun
  | [d] => { results := [.lit (.bool true)], args := [d] }
  | _ => none }
def fnExactSortPeriodsRow : OpenClaim := { program := "ytcbbkeojoichnaa", sum := "f6d7afe359427d58978d3583fd43c9afc7b5825f546e58728470255d5b439fa5", func := "loop.example/g01003/laws.FnExactSortPeriods", spec := "fnExactSortPeriods", unfollowed := true, recurses := true, apart := false }
def FnExactSortPeriodsSaid : Prop := fnExactSortPeriodsRow.holds Try.pinned (OpenSpec.ofChange fnExactSortPeriodsSpec)

/-- ITS FALSE NEIGHBOUR: 'it returns false'. Refute it at one input. -/
def fnExactSortPeriodsWrong : ChangeSpec := { name := "fnExactSortPeriods", fn := fun _ => fun
  | [d] => { results := [.lit (.bool false)], args := [d] }
  | _ => none }
def FnExactSortPeriodsWrongFalsely : Prop := fnExactSortPeriodsRow.holds Try.pinned (OpenSpec.ofChange fnExactSortPeriodsWrong)

/-- 'laws.FnPeriodLists': WHATEVER THE INPUT: true; the input reads as it did. -/
def fnPeriodListsSpec : ChangeSpec := { name := "fnPeriodLists", fn := fun _ => fun
  | [d1, d2] => { results := [.lit (.bool true)], args := [d1, d2] }
  | _ => none }
def fnPeriodListsRow : OpenClaim := { program := "ytcbbkeojoichnaa", sum := "f6d7afe359427d58978d3583fd43c9afc7b5825f546e58728470255d5b439fa5", func := "loop.example/g01003/laws.FnPeriodLists", spec := "fnPeriodLists", unfollowed := true, recurses := true, apart := false }
def FnPeriodListsSaid : Prop := fnPeriodListsRow.holds Try.pinned (OpenSpec.ofChange fnPeriodListsSpec)

/-- ITS FALSE NEIGHBOUR: 'it returns false'. Refute it at one input. -/
def fnPeriodListsWrong : ChangeSpec := { name := "fnPeriodLists", fn := fun _ => fun
  | [d1, d2] => { results := [.lit (.bool false)], args := [d1, d2] }
  | _ => none }
def FnPeriodListsWrongFalsely : Prop := fnPeriodListsRow.holds Try.pinned (OpenSpec.ofChange fnPeriodListsWrong)

/- THE SECOND FORM. 'bulk': how many values and letters a reading holds, each counted each time it is reached (what is shared counts as often as it is met; a slice's spare places count too). A statement '..UptoSaid' is the law's where the arguments, and the package variables that the reading takes, are together of bulk at most 1048576: NARROWER than '..Said'. Prove '..Said' where nothing that the law and all that it calls make is longer than what came in: it says more and counts as full. Else prove '..UptoSaid'. A law counts once. -/
mutual
def uptoBulk {H : Type} : DataW H → Nat
  | .lit (.string bytes) => bytes.length + 1
  | .lit _ => 1
  | .nil => 1
  | .ptr d => uptoBulk d + 1
  | .slice elems spare => uptoBulkAll elems + uptoBulkAll spare + 1
  | .agg parts => uptoBulkAll parts + 1
  | .iface _ d => uptoBulk d + 1
  | .map entries => uptoBulkEntries entries + 1
  | .held _ => 1
def uptoBulkAll {H : Type} : List (DataW H) → Nat
  | [] => 0
  | d :: r => uptoBulk d + uptoBulkAll r
def uptoBulkEntries {H : Type} : List (Lit × DataW H) → Nat
  | [] => 0
  | x :: r => uptoBulkEntry x + uptoBulkEntries r
def uptoBulkEntry {H : Type} : Lit × DataW H → Nat
  | (.string bytes, d) => bytes.length + uptoBulk d + 1
  | (_, d) => uptoBulk d + 1
 end
def uptoSmall : (H : Type) → List (DataW H) → Bool := fun _ ds => decide (uptoBulkAll ds ≤ 1048576)
def OpenSpec.upto (s : _root_.Go.ChangeSpec) : _root_.Go.OpenSpec := { _root_.Go.OpenSpec.ofChange s with cond := some uptoSmall }

/-- 'laws.FnExactMaximalWords', WHERE WHAT IT READS IS OF BULK AT MOST 1048576: true; the input reads as it did. -/
def fnExactMaximalWordsUptoRow : OpenClaim := { program := "ytcbbkeojoichnaa", sum := "f6d7afe359427d58978d3583fd43c9afc7b5825f546e58728470255d5b439fa5", func := "loop.example/g01003/laws.FnExactMaximalWords", spec := "fnExactMaximalWords", inPlace := ["internal/bytealg.IndexByteString"], unfollowed := true, recurses := true, apart := false, narrowed := true }
def FnExactMaximalWordsUptoSaid : Prop := fnExactMaximalWordsUptoRow.holds Try.pinned (OpenSpec.upto fnExactMaximalWordsSpec)

/-- 'laws.FnExactSortPeriods', WHERE WHAT IT READS IS OF BULK AT MOST 1048576: true; the input reads as it did. -/
def fnExactSortPeriodsUptoRow : OpenClaim := { program := "ytcbbkeojoichnaa", sum := "f6d7afe359427d58978d3583fd43c9afc7b5825f546e58728470255d5b439fa5", func := "loop.example/g01003/laws.FnExactSortPeriods", spec := "fnExactSortPeriods", unfollowed := true, recurses := true, apart := false, narrowed := true }
def FnExactSortPeriodsUptoSaid : Prop := fnExactSortPeriodsUptoRow.holds Try.pinned (OpenSpec.upto fnExactSortPeriodsSpec)

/-- 'laws.FnPeriodLists', WHERE WHAT IT READS IS OF BULK AT MOST 1048576: true; the input reads as it did. -/
def fnPeriodListsUptoRow : OpenClaim := { program := "ytcbbkeojoichnaa", sum := "f6d7afe359427d58978d3583fd43c9afc7b5825f546e58728470255d5b439fa5", func := "loop.example/g01003/laws.FnPeriodLists", spec := "fnPeriodLists", unfollowed := true, recurses := true, apart := false, narrowed := true }
def FnPeriodListsUptoSaid : Prop := fnPeriodListsUptoRow.holds Try.pinned (OpenSpec.upto fnPeriodListsSpec)

end Rows
end Go.Proofs.Ytcbbkeojoichnaa
