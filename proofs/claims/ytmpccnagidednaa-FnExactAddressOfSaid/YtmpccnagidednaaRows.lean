/-
  No cell of these rows narrows 'for every input' (looked for: loops, veiled, ifaces, maps, wideKeys, modest, calm, conditions, laid).
  DERIVED. THE GIVEN ROWS OF THIS SEAT. 9 by the template 'for every input the law returns true; each argument reads behind the call as it read before'; 0 by the template 'total and deterministic' (their statements: YtmpccnagidednaaTotals.lean).
  GIVEN WITH THE SEED: the statements are not yours to turn. If you find one false, say at which input.
  Laid BY PROGRAM, IN A SANDBOX (cutbox-rows.mjs): the forced cells as the released guide's own fill.sh prints them over the translation c80b20e21e38e303… (all of the seat's roots in one cut). By AI agents, Wed Nov 11 2026. No macro, syntax, notation, axiom, sorry.
-/
import Derived.Test.YtmpccnagidednaaChecked
import GoSem.Claim
import GoSem.ClaimJoined
import GoSem.ClaimMapViews
import Derived.JoinedTies
import Derived.KernelRfl
namespace Go.Proofs.Ytmpccnagidednaa
/- THE CELL 'sum', in the pinned program and in every row, IS THE sha256 OF THE DUMP (.gsa) THAT YtmpccnagidednaaProg.lean LOADS. Nothing in Lean hashes anything: it is a label: what it is worth is what the hold of that sum in a sandbox is worth. -/
noncomputable def Try.pinned : Pinned := { name := "ytmpccnagidednaa", sum := "c80b20e21e38e3034ef5275d2ae97095ab16a5546967cac9b86d81c374411fbb", checked := Try.checked }
namespace Rows
def none {H : Type} : Left H := { results := [], args := [] }

/-- 'laws.FnExactStrongestPeriod': WHATEVER THE INPUT: true; the input reads as it did. -/
def fnExactStrongestPeriodSpec : ChangeSpec := { name := "fnExactStrongestPeriod", fn := fun _ => fun
  | [d] => { results := [.lit (.bool true)], args := [d] }
  | _ => none }
def fnExactStrongestPeriodRow : OpenClaim := { program := "ytmpccnagidednaa", sum := "c80b20e21e38e3034ef5275d2ae97095ab16a5546967cac9b86d81c374411fbb", func := "loop.example/g01003/laws.FnExactStrongestPeriod", spec := "fnExactStrongestPeriod", unfollowed := true, recurses := true, apart := false }
def FnExactStrongestPeriodSaid : Prop := fnExactStrongestPeriodRow.holds Try.pinned (OpenSpec.ofChange fnExactStrongestPeriodSpec)

/-- ITS FALSE NEIGHBOUR: 'it returns false'. Refute it at one input. -/
def fnExactStrongestPeriodWrong : ChangeSpec := { name := "fnExactStrongestPeriod", fn := fun _ => fun
  | [d] => { results := [.lit (.bool false)], args := [d] }
  | _ => none }
def FnExactStrongestPeriodWrongFalsely : Prop := fnExactStrongestPeriodRow.holds Try.pinned (OpenSpec.ofChange fnExactStrongestPeriodWrong)

/-- 'laws.FnExactTentOf': WHATEVER THE INPUT: true; the input reads as it did. -/
def fnExactTentOfSpec : ChangeSpec := { name := "fnExactTentOf", fn := fun _ => fun
  | [d] => { results := [.lit (.bool true)], args := [d] }
  | _ => none }
def fnExactTentOfRow : OpenClaim := { program := "ytmpccnagidednaa", sum := "c80b20e21e38e3034ef5275d2ae97095ab16a5546967cac9b86d81c374411fbb", func := "loop.example/g01003/laws.FnExactTentOf", spec := "fnExactTentOf", unfollowed := true, recurses := true, apart := false }
def FnExactTentOfSaid : Prop := fnExactTentOfRow.holds Try.pinned (OpenSpec.ofChange fnExactTentOfSpec)

/-- ITS FALSE NEIGHBOUR: 'it returns false'. Refute it at one input. -/
def fnExactTentOfWrong : ChangeSpec := { name := "fnExactTentOf", fn := fun _ => fun
  | [d] => { results := [.lit (.bool false)], args := [d] }
  | _ => none }
def FnExactTentOfWrongFalsely : Prop := fnExactTentOfRow.holds Try.pinned (OpenSpec.ofChange fnExactTentOfWrong)

/-- 'laws.FnExactAreSeparate': WHATEVER THE INPUT: true; the input reads as it did. -/
def fnExactAreSeparateSpec : ChangeSpec := { name := "fnExactAreSeparate", fn := fun _ => fun
  | [d] => { results := [.lit (.bool true)], args := [d] }
  | _ => none }
def fnExactAreSeparateRow : OpenClaim := { program := "ytmpccnagidednaa", sum := "c80b20e21e38e3034ef5275d2ae97095ab16a5546967cac9b86d81c374411fbb", func := "loop.example/g01003/laws.FnExactAreSeparate", spec := "fnExactAreSeparate", unfollowed := true, recurses := true, apart := false }
def FnExactAreSeparateSaid : Prop := fnExactAreSeparateRow.holds Try.pinned (OpenSpec.ofChange fnExactAreSeparateSpec)

/-- ITS FALSE NEIGHBOUR: 'it returns false'. Refute it at one input. -/
def fnExactAreSeparateWrong : ChangeSpec := { name := "fnExactAreSeparate", fn := fun _ => fun
  | [d] => { results := [.lit (.bool false)], args := [d] }
  | _ => none }
def FnExactAreSeparateWrongFalsely : Prop := fnExactAreSeparateRow.holds Try.pinned (OpenSpec.ofChange fnExactAreSeparateWrong)

/-- 'laws.FnExactIsTail': WHATEVER THE INPUT: true; the input reads as it did. -/
def fnExactIsTailSpec : ChangeSpec := { name := "fnExactIsTail", fn := fun _ => fun
  | [d1, d2] => { results := [.lit (.bool true)], args := [d1, d2] }
  | _ => none }
def fnExactIsTailRow : OpenClaim := { program := "ytmpccnagidednaa", sum := "c80b20e21e38e3034ef5275d2ae97095ab16a5546967cac9b86d81c374411fbb", func := "loop.example/g01003/laws.FnExactIsTail", spec := "fnExactIsTail", unfollowed := true, recurses := true, apart := false }
def FnExactIsTailSaid : Prop := fnExactIsTailRow.holds Try.pinned (OpenSpec.ofChange fnExactIsTailSpec)

/-- ITS FALSE NEIGHBOUR: 'it returns false'. Refute it at one input. -/
def fnExactIsTailWrong : ChangeSpec := { name := "fnExactIsTail", fn := fun _ => fun
  | [d1, d2] => { results := [.lit (.bool false)], args := [d1, d2] }
  | _ => none }
def FnExactIsTailWrongFalsely : Prop := fnExactIsTailRow.holds Try.pinned (OpenSpec.ofChange fnExactIsTailWrong)

/-- 'laws.FnExactIntervalsBetween': WHATEVER THE INPUT: true; the input reads as it did. -/
def fnExactIntervalsBetweenSpec : ChangeSpec := { name := "fnExactIntervalsBetween", fn := fun _ => fun
  | [d] => { results := [.lit (.bool true)], args := [d] }
  | _ => none }
def fnExactIntervalsBetweenRow : OpenClaim := { program := "ytmpccnagidednaa", sum := "c80b20e21e38e3034ef5275d2ae97095ab16a5546967cac9b86d81c374411fbb", func := "loop.example/g01003/laws.FnExactIntervalsBetween", spec := "fnExactIntervalsBetween", unfollowed := true, recurses := true, apart := false }
def FnExactIntervalsBetweenSaid : Prop := fnExactIntervalsBetweenRow.holds Try.pinned (OpenSpec.ofChange fnExactIntervalsBetweenSpec)

/-- ITS FALSE NEIGHBOUR: 'it returns false'. Refute it at one input. -/
def fnExactIntervalsBetweenWrong : ChangeSpec := { name := "fnExactIntervalsBetween", fn := fun _ => fun
  | [d] => { results := [.lit (.bool false)], args := [d] }
  | _ => none }
def FnExactIntervalsBetweenWrongFalsely : Prop := fnExactIntervalsBetweenRow.holds Try.pinned (OpenSpec.ofChange fnExactIntervalsBetweenWrong)

/-- 'laws.FnExactSplitInterval': WHATEVER THE INPUT: true; the input reads as it did. -/
def fnExactSplitIntervalSpec : ChangeSpec := { name := "fnExactSplitInterval", fn := fun _ => fun
  | [d1, d2] => { results := [.lit (.bool true)], args := [d1, d2] }
  | _ => none }
def fnExactSplitIntervalRow : OpenClaim := { program := "ytmpccnagidednaa", sum := "c80b20e21e38e3034ef5275d2ae97095ab16a5546967cac9b86d81c374411fbb", func := "loop.example/g01003/laws.FnExactSplitInterval", spec := "fnExactSplitInterval", unfollowed := true, recurses := true, apart := false }
def FnExactSplitIntervalSaid : Prop := fnExactSplitIntervalRow.holds Try.pinned (OpenSpec.ofChange fnExactSplitIntervalSpec)

/-- ITS FALSE NEIGHBOUR: 'it returns false'. Refute it at one input. -/
def fnExactSplitIntervalWrong : ChangeSpec := { name := "fnExactSplitInterval", fn := fun _ => fun
  | [d1, d2] => { results := [.lit (.bool false)], args := [d1, d2] }
  | _ => none }
def FnExactSplitIntervalWrongFalsely : Prop := fnExactSplitIntervalRow.holds Try.pinned (OpenSpec.ofChange fnExactSplitIntervalWrong)

/-- 'laws.FnExactIsLapMap': WHATEVER THE INPUT: true; the input reads as it did. -/
def fnExactIsLapMapSpec : ChangeSpec := { name := "fnExactIsLapMap", fn := fun _ => fun
  | [d] => { results := [.lit (.bool true)], args := [d] }
  | _ => none }
def fnExactIsLapMapRow : OpenClaim := { program := "ytmpccnagidednaa", sum := "c80b20e21e38e3034ef5275d2ae97095ab16a5546967cac9b86d81c374411fbb", func := "loop.example/g01003/laws.FnExactIsLapMap", spec := "fnExactIsLapMap", unfollowed := true, recurses := true, apart := false }
def FnExactIsLapMapSaid : Prop := fnExactIsLapMapRow.holds Try.pinned (OpenSpec.ofChange fnExactIsLapMapSpec)

/-- ITS FALSE NEIGHBOUR: 'it returns false'. Refute it at one input. -/
def fnExactIsLapMapWrong : ChangeSpec := { name := "fnExactIsLapMap", fn := fun _ => fun
  | [d] => { results := [.lit (.bool false)], args := [d] }
  | _ => none }
def FnExactIsLapMapWrongFalsely : Prop := fnExactIsLapMapRow.holds Try.pinned (OpenSpec.ofChange fnExactIsLapMapWrong)

/-- 'laws.FnExactAddressOf': WHATEVER THE INPUT: true; the input reads as it did. -/
def fnExactAddressOfSpec : ChangeSpec := { name := "fnExactAddressOf", fn := fun _ => fun
  | [d1, d2] => { results := [.lit (.bool true)], args := [d1, d2] }
  | _ => none }
def fnExactAddressOfRow : OpenClaim := { program := "ytmpccnagidednaa", sum := "c80b20e21e38e3034ef5275d2ae97095ab16a5546967cac9b86d81c374411fbb", func := "loop.example/g01003/laws.FnExactAddressOf", spec := "fnExactAddressOf", unfollowed := true, recurses := true, apart := false }
def FnExactAddressOfSaid : Prop := fnExactAddressOfRow.holds Try.pinned (OpenSpec.ofChange fnExactAddressOfSpec)

/-- ITS FALSE NEIGHBOUR: 'it returns false'. Refute it at one input. -/
def fnExactAddressOfWrong : ChangeSpec := { name := "fnExactAddressOf", fn := fun _ => fun
  | [d1, d2] => { results := [.lit (.bool false)], args := [d1, d2] }
  | _ => none }
def FnExactAddressOfWrongFalsely : Prop := fnExactAddressOfRow.holds Try.pinned (OpenSpec.ofChange fnExactAddressOfWrong)

/-- 'laws.FnSharkovsky': WHATEVER THE INPUT: true; the input reads as it did. -/
def fnSharkovskySpec : ChangeSpec := { name := "fnSharkovsky", fn := fun _ => fun
  | [d1, d2] => { results := [.lit (.bool true)], args := [d1, d2] }
  | _ => none }
def fnSharkovskyRow : OpenClaim := { program := "ytmpccnagidednaa", sum := "c80b20e21e38e3034ef5275d2ae97095ab16a5546967cac9b86d81c374411fbb", func := "loop.example/g01003/laws.FnSharkovsky", spec := "fnSharkovsky", unfollowed := true, recurses := true, apart := false }
def FnSharkovskySaid : Prop := fnSharkovskyRow.holds Try.pinned (OpenSpec.ofChange fnSharkovskySpec)

/-- ITS FALSE NEIGHBOUR: 'it returns false'. Refute it at one input. -/
def fnSharkovskyWrong : ChangeSpec := { name := "fnSharkovsky", fn := fun _ => fun
  | [d1, d2] => { results := [.lit (.bool false)], args := [d1, d2] }
  | _ => none }
def FnSharkovskyWrongFalsely : Prop := fnSharkovskyRow.holds Try.pinned (OpenSpec.ofChange fnSharkovskyWrong)

/- THE SECOND FORM. 'bulk': how many values and letters a reading holds, each counted each time it is reached (what is shared counts as often as it is met; a slice's spare places count too). A statement '..UptoSaid' is the law's where the arguments, and the package variables that the reading takes, are together of bulk at most 1048576: NARROWER than '..Said'. Prove '..Said' where nothing that the law and all that it calls make is longer than what came in: it says more and counts as full. Else prove '..UptoSaid'. A law counts once. -/
mutual
def uptoBulk {H : Type} : DataW H → Nat
  | .lit (.string bytes) => bytes.length + 1
  | .lit _ => 1
  | .nil => 1
  | .ptr d => uptoBulk d + 1
  | .slice elems spare => uptoBulkAll elems + uptoBulkAll spare + 1
  | .agg parts => uptoBulkAll parts + 1
  | .iface _ d => uptoBulk d + 1
  | .map entries => uptoBulkEntries entries + 1
  | .held _ => 1
def uptoBulkAll {H : Type} : List (DataW H) → Nat
  | [] => 0
  | d :: r => uptoBulk d + uptoBulkAll r
def uptoBulkEntries {H : Type} : List (Lit × DataW H) → Nat
  | [] => 0
  | x :: r => uptoBulkEntry x + uptoBulkEntries r
def uptoBulkEntry {H : Type} : Lit × DataW H → Nat
  | (.string bytes, d) => bytes.length + uptoBulk d + 1
  | (_, d) => uptoBulk d + 1
 end
def uptoSmall : (H : Type) → List (DataW H) → Bool := fun _ ds => decide (uptoBulkAll ds ≤ 1048576)
def OpenSpec.upto (s : _root_.Go.ChangeSpec) : _root_.Go.OpenSpec := { _root_.Go.OpenSpec.ofChange s with cond := some uptoSmall }

/-- 'laws.FnExactStrongestPeriod', WHERE WHAT IT READS IS OF BULK AT MOST 1048576: true; the input reads as it did. -/
def fnExactStrongestPeriodUptoRow : OpenClaim := { program := "ytmpccnagidednaa", sum := "c80b20e21e38e3034ef5275d2ae97095ab16a5546967cac9b86d81c374411fbb", func := "loop.example/g01003/laws.FnExactStrongestPeriod", spec := "fnExactStrongestPeriod", unfollowed := true, recurses := true, apart := false, narrowed := true }
def FnExactStrongestPeriodUptoSaid : Prop := fnExactStrongestPeriodUptoRow.holds Try.pinned (OpenSpec.upto fnExactStrongestPeriodSpec)

/-- 'laws.FnExactTentOf', WHERE WHAT IT READS IS OF BULK AT MOST 1048576: true; the input reads as it did. -/
def fnExactTentOfUptoRow : OpenClaim := { program := "ytmpccnagidednaa", sum := "c80b20e21e38e3034ef5275d2ae97095ab16a5546967cac9b86d81c374411fbb", func := "loop.example/g01003/laws.FnExactTentOf", spec := "fnExactTentOf", unfollowed := true, recurses := true, apart := false, narrowed := true }
def FnExactTentOfUptoSaid : Prop := fnExactTentOfUptoRow.holds Try.pinned (OpenSpec.upto fnExactTentOfSpec)

/-- 'laws.FnExactAreSeparate', WHERE WHAT IT READS IS OF BULK AT MOST 1048576: true; the input reads as it did. -/
def fnExactAreSeparateUptoRow : OpenClaim := { program := "ytmpccnagidednaa", sum := "c80b20e21e38e3034ef5275d2ae97095ab16a5546967cac9b86d81c374411fbb", func := "loop.example/g01003/laws.FnExactAreSeparate", spec := "fnExactAreSeparate", unfollowed := true, recurses := true, apart := false, narrowed := true }
def FnExactAreSeparateUptoSaid : Prop := fnExactAreSeparateUptoRow.holds Try.pinned (OpenSpec.upto fnExactAreSeparateSpec)

/-- 'laws.FnExactIsTail', WHERE WHAT IT READS IS OF BULK AT MOST 1048576: true; the input reads as it did. -/
def fnExactIsTailUptoRow : OpenClaim := { program := "ytmpccnagidednaa", sum := "c80b20e21e38e3034ef5275d2ae97095ab16a5546967cac9b86d81c374411fbb", func := "loop.example/g01003/laws.FnExactIsTail", spec := "fnExactIsTail", unfollowed := true, recurses := true, apart := false, narrowed := true }
def FnExactIsTailUptoSaid : Prop := fnExactIsTailUptoRow.holds Try.pinned (OpenSpec.upto fnExactIsTailSpec)

/-- 'laws.FnExactIntervalsBetween', WHERE WHAT IT READS IS OF BULK AT MOST 1048576: true; the input reads as it did. -/
def fnExactIntervalsBetweenUptoRow : OpenClaim := { program := "ytmpccnagidednaa", sum := "c80b20e21e38e3034ef5275d2ae97095ab16a5546967cac9b86d81c374411fbb", func := "loop.example/g01003/laws.FnExactIntervalsBetween", spec := "fnExactIntervalsBetween", unfollowed := true, recurses := true, apart := false, narrowed := true }
def FnExactIntervalsBetweenUptoSaid : Prop := fnExactIntervalsBetweenUptoRow.holds Try.pinned (OpenSpec.upto fnExactIntervalsBetweenSpec)

/-- 'laws.FnExactSplitInterval', WHERE WHAT IT READS IS OF BULK AT MOST 1048576: true; the input reads as it did. -/
def fnExactSplitIntervalUptoRow : OpenClaim := { program := "ytmpccnagidednaa", sum := "c80b20e21e38e3034ef5275d2ae97095ab16a5546967cac9b86d81c374411fbb", func := "loop.example/g01003/laws.FnExactSplitInterval", spec := "fnExactSplitInterval", unfollowed := true, recurses := true, apart := false, narrowed := true }
def FnExactSplitIntervalUptoSaid : Prop := fnExactSplitIntervalUptoRow.holds Try.pinned (OpenSpec.upto fnExactSplitIntervalSpec)

/-- 'laws.FnExactIsLapMap', WHERE WHAT IT READS IS OF BULK AT MOST 1048576: true; the input reads as it did. -/
def fnExactIsLapMapUptoRow : OpenClaim := { program := "ytmpccnagidednaa", sum := "c80b20e21e38e3034ef5275d2ae97095ab16a5546967cac9b86d81c374411fbb", func := "loop.example/g01003/laws.FnExactIsLapMap", spec := "fnExactIsLapMap", unfollowed := true, recurses := true, apart := false, narrowed := true }
def FnExactIsLapMapUptoSaid : Prop := fnExactIsLapMapUptoRow.holds Try.pinned (OpenSpec.upto fnExactIsLapMapSpec)

/-- 'laws.FnExactAddressOf', WHERE WHAT IT READS IS OF BULK AT MOST 1048576: true; the input reads as it did. -/
def fnExactAddressOfUptoRow : OpenClaim := { program := "ytmpccnagidednaa", sum := "c80b20e21e38e3034ef5275d2ae97095ab16a5546967cac9b86d81c374411fbb", func := "loop.example/g01003/laws.FnExactAddressOf", spec := "fnExactAddressOf", unfollowed := true, recurses := true, apart := false, narrowed := true }
def FnExactAddressOfUptoSaid : Prop := fnExactAddressOfUptoRow.holds Try.pinned (OpenSpec.upto fnExactAddressOfSpec)

/-- 'laws.FnSharkovsky', WHERE WHAT IT READS IS OF BULK AT MOST 1048576: true; the input reads as it did. -/
def fnSharkovskyUptoRow : OpenClaim := { program := "ytmpccnagidednaa", sum := "c80b20e21e38e3034ef5275d2ae97095ab16a5546967cac9b86d81c374411fbb", func := "loop.example/g01003/laws.FnSharkovsky", spec := "fnSharkovsky", unfollowed := true, recurses := true, apart := false, narrowed := true }
def FnSharkovskyUptoSaid : Prop := fnSharkovskyUptoRow.holds Try.pinned (OpenSpec.upto fnSharkovskySpec)

end Rows
end Go.Proofs.Ytmpccnagidednaa
