/-
  No cell of these rows narrows 'for every input' (looked for: loops, veiled, ifaces, maps, wideKeys, modest, calm, conditions, laid).
  DERIVED. THE GIVEN ROWS OF THIS SEAT. 4 by the template 'for every input the law returns true; each argument reads behind the call as it read before'; 0 by the template 'total and deterministic' (their statements: YtannadjfkaghjaaTotals.lean).
  GIVEN WITH THE SEED: the statements are not yours to turn. If you find one false, say at which input.
  Laid BY PROGRAM, IN A SANDBOX (cutbox-rows.mjs): the forced cells as the released guide's own fill.sh prints them over the translation b393e4e2c7ce9d1a… (all of the seat's roots in one cut). By AI agents, Wed Nov 11 2026. No macro, syntax, notation, axiom, sorry.
-/
import Derived.Test.YtannadjfkaghjaaChecked
import GoSem.Claim
import GoSem.ClaimJoined
import GoSem.ClaimMapViews
import Derived.JoinedTies
import Derived.KernelRfl
namespace Go.Proofs.Ytannadjfkaghjaa
/- THE CELL 'sum', in the pinned program and in every row, IS THE sha256 OF THE DUMP (.gsa) THAT YtannadjfkaghjaaProg.lean LOADS. Nothing in Lean hashes anything: it is a label: what it is worth is what the hold of that sum in a sandbox is worth. -/
noncomputable def Try.pinned : Pinned := { name := "ytannadjfkaghjaa", sum := "b393e4e2c7ce9d1afdef5248be2525fe6bebd2fb5c86a617ef1824805478edcd", checked := Try.checked }
namespace Rows
def none {H : Type} : Left H := { results := [], args := [] }

/-- 'laws.FnSharkovsky': WHATEVER THE INPUT: true; the input reads as it did. -/
def fnSharkovskySpec : ChangeSpec := { name := "fnSharkovsky", fn := fun _ => fun
  | [d1, d2] => { results := [.lit (.bool true)], args := [d1, d2] }
  | _ => none }
def fnSharkovskyRow : OpenClaim := { program := "ytannadjfkaghjaa", sum := "b393e4e2c7ce9d1afdef5248be2525fe6bebd2fb5c86a617ef1824805478edcd", func := "loop.example/g01003/laws.FnSharkovsky", spec := "fnSharkovsky", unfollowed := true, recurses := true, apart := false }
def FnSharkovskySaid : Prop := fnSharkovskyRow.holds Try.pinned (OpenSpec.ofChange fnSharkovskySpec)

/-- ITS FALSE NEIGHBOUR: 'it returns false'. Refute it at one input. -/
def fnSharkovskyWrong : ChangeSpec := { name := "fnSharkovsky", fn := fun _ => fun
  | [d1, d2] => { results := [.lit (.bool false)], args := [d1, d2] }
  | _ => none }
def FnSharkovskyWrongFalsely : Prop := fnSharkovskyRow.holds Try.pinned (OpenSpec.ofChange fnSharkovskyWrong)

/-- 'laws.FnExactStrongestPeriod': WHATEVER THE INPUT: true; the input reads as it did. -/
def fnExactStrongestPeriodSpec : ChangeSpec := { name := "fnExactStrongestPeriod", fn := fun _ => fun
  | [d] => { results := [.lit (.bool true)], args := [d] }
  | _ => none }
def fnExactStrongestPeriodRow : OpenClaim := { program := "ytannadjfkaghjaa", sum := "b393e4e2c7ce9d1afdef5248be2525fe6bebd2fb5c86a617ef1824805478edcd", func := "loop.example/g01003/laws.FnExactStrongestPeriod", spec := "fnExactStrongestPeriod", unfollowed := true, recurses := true, apart := false }
def FnExactStrongestPeriodSaid : Prop := fnExactStrongestPeriodRow.holds Try.pinned (OpenSpec.ofChange fnExactStrongestPeriodSpec)

/-- ITS FALSE NEIGHBOUR: 'it returns false'. Refute it at one input. -/
def fnExactStrongestPeriodWrong : ChangeSpec := { name := "fnExactStrongestPeriod", fn := fun _ => fun
  | [d] => { results := [.lit (.bool false)], args := [d] }
  | _ => none }
def FnExactStrongestPeriodWrongFalsely : Prop := fnExactStrongestPeriodRow.holds Try.pinned (OpenSpec.ofChange fnExactStrongestPeriodWrong)

/-- 'laws.FnExactParseWord': WHATEVER THE INPUT: true; the input reads as it did. -/
def fnExactParseWordSpec : ChangeSpec := { name := "fnExactParseWord", fn := fun _ => fun
  | [d] => { results := [.lit (.bool true)], args := [d] }
  | _ => none }
def fnExactParseWordRow : OpenClaim := { program := "ytannadjfkaghjaa", sum := "b393e4e2c7ce9d1afdef5248be2525fe6bebd2fb5c86a617ef1824805478edcd", func := "loop.example/g01003/laws.FnExactParseWord", spec := "fnExactParseWord", apart := false }
def FnExactParseWordSaid : Prop := fnExactParseWordRow.holds Try.pinned (OpenSpec.ofChange fnExactParseWordSpec)

/-- ITS FALSE NEIGHBOUR: 'it returns false'. Refute it at one input. -/
def fnExactParseWordWrong : ChangeSpec := { name := "fnExactParseWord", fn := fun _ => fun
  | [d] => { results := [.lit (.bool false)], args := [d] }
  | _ => none }
def FnExactParseWordWrongFalsely : Prop := fnExactParseWordRow.holds Try.pinned (OpenSpec.ofChange fnExactParseWordWrong)

/-- 'laws.FnExactIsRepelling': WHATEVER THE INPUT: true; the input reads as it did. -/
def fnExactIsRepellingSpec : ChangeSpec := { name := "fnExactIsRepelling", fn := fun _ => fun
  | [d1, d2, d3] => { results := [.lit (.bool true)], args := [d1, d2, d3] }
  | _ => none }
def fnExactIsRepellingRow : OpenClaim := { program := "ytannadjfkaghjaa", sum := "b393e4e2c7ce9d1afdef5248be2525fe6bebd2fb5c86a617ef1824805478edcd", func := "loop.example/g01003/laws.FnExactIsRepelling", spec := "fnExactIsRepelling", unfollowed := true, recurses := true, apart := false }
def FnExactIsRepellingSaid : Prop := fnExactIsRepellingRow.holds Try.pinned (OpenSpec.ofChange fnExactIsRepellingSpec)

/-- ITS FALSE NEIGHBOUR: 'it returns false'. Refute it at one input. -/
def fnExactIsRepellingWrong : ChangeSpec := { name := "fnExactIsRepelling", fn := fun _ => fun
  | [d1, d2, d3] => { results := [.lit (.bool false)], args := [d1, d2, d3] }
  | _ => none }
def FnExactIsRepellingWrongFalsely : Prop := fnExactIsRepellingRow.holds Try.pinned (OpenSpec.ofChange fnExactIsRepellingWrong)

/- THE SECOND FORM. 'bulk': how many values and letters a reading holds, each counted each time it is reached (what is shared counts as often as it is met; a slice's spare places count too). A statement '..UptoSaid' is the law's where the arguments, and the package variables that the reading takes, are together of bulk at most 1048576: NARROWER than '..Said'. Prove '..Said' where nothing that the law and all that it calls make is longer than what came in: it says more and counts as full. Else prove '..UptoSaid'. A law counts once. -/
mutual
def uptoBulk {H : Type} : DataW H → Nat
  | .lit (.string bytes) => bytes.length + 1
  | .lit _ => 1
  | .nil => 1
  | .ptr d => uptoBulk d + 1
  | .slice elems spare => uptoBulkAll elems + uptoBulkAll spare + 1
  | .agg parts => uptoBulkAll parts + 1
  | .iface _ d => uptoBulk d + 1
  | .map entries => uptoBulkEntries entries + 1
  | .held _ => 1
def uptoBulkAll {H : Type} : List (DataW H) → Nat
  | [] => 0
  | d :: r => uptoBulk d + uptoBulkAll r
def uptoBulkEntries {H : Type} : List (Lit × DataW H) → Nat
  | [] => 0
  | x :: r => uptoBulkEntry x + uptoBulkEntries r
def uptoBulkEntry {H : Type} : Lit × DataW H → Nat
  | (.string bytes, d) => bytes.length + uptoBulk d + 1
  | (_, d) => uptoBulk d + 1
 end
def uptoSmall : (H : Type) → List (DataW H) → Bool := fun _ ds => decide (uptoBulkAll ds ≤ 1048576)
def OpenSpec.upto (s : _root_.Go.ChangeSpec) : _root_.Go.OpenSpec := { _root_.Go.OpenSpec.ofChange s with cond := some uptoSmall }

/-- 'laws.FnSharkovsky', WHERE WHAT IT READS IS OF BULK AT MOST 1048576: true; the input reads as it did. -/
def fnSharkovskyUptoRow : OpenClaim := { program := "ytannadjfkaghjaa", sum := "b393e4e2c7ce9d1afdef5248be2525fe6bebd2fb5c86a617ef1824805478edcd", func := "loop.example/g01003/laws.FnSharkovsky", spec := "fnSharkovsky", unfollowed := true, recurses := true, apart := false, narrowed := true }
def FnSharkovskyUptoSaid : Prop := fnSharkovskyUptoRow.holds Try.pinned (OpenSpec.upto fnSharkovskySpec)

/-- 'laws.FnExactStrongestPeriod', WHERE WHAT IT READS IS OF BULK AT MOST 1048576: true; the input reads as it did. -/
def fnExactStrongestPeriodUptoRow : OpenClaim := { program := "ytannadjfkaghjaa", sum := "b393e4e2c7ce9d1afdef5248be2525fe6bebd2fb5c86a617ef1824805478edcd", func := "loop.example/g01003/laws.FnExactStrongestPeriod", spec := "fnExactStrongestPeriod", unfollowed := true, recurses := true, apart := false, narrowed := true }
def FnExactStrongestPeriodUptoSaid : Prop := fnExactStrongestPeriodUptoRow.holds Try.pinned (OpenSpec.upto fnExactStrongestPeriodSpec)

/-- 'laws.FnExactParseWord', WHERE WHAT IT READS IS OF BULK AT MOST 1048576: true; the input reads as it did. -/
def fnExactParseWordUptoRow : OpenClaim := { program := "ytannadjfkaghjaa", sum := "b393e4e2c7ce9d1afdef5248be2525fe6bebd2fb5c86a617ef1824805478edcd", func := "loop.example/g01003/laws.FnExactParseWord", spec := "fnExactParseWord", apart := false, narrowed := true }
def FnExactParseWordUptoSaid : Prop := fnExactParseWordUptoRow.holds Try.pinned (OpenSpec.upto fnExactParseWordSpec)

/-- 'laws.FnExactIsRepelling', WHERE WHAT IT READS IS OF BULK AT MOST 1048576: true; the input reads as it did. -/
def fnExactIsRepellingUptoRow : OpenClaim := { program := "ytannadjfkaghjaa", sum := "b393e4e2c7ce9d1afdef5248be2525fe6bebd2fb5c86a617ef1824805478edcd", func := "loop.example/g01003/laws.FnExactIsRepelling", spec := "fnExactIsRepelling", unfollowed := true, recurses := true, apart := false, narrowed := true }
def FnExactIsRepellingUptoSaid : Prop := fnExactIsRepellingUptoRow.holds Try.pinned (OpenSpec.upto fnExactIsRepellingSpec)

end Rows
end Go.Proofs.Ytannadjfkaghjaa
