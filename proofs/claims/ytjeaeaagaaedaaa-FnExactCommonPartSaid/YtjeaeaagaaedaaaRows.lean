/-
  No cell of these rows narrows 'for every input' (looked for: loops, veiled, ifaces, maps, wideKeys, modest, calm, conditions, laid).
  DERIVED. THE GIVEN ROWS OF THIS SEAT. 12 by the template 'for every input the law returns true; each argument reads behind the call as it read before'; 0 by the template 'total and deterministic' (their statements: YtjeaeaagaaedaaaTotals.lean).
  GIVEN WITH THE SEED: the statements are not yours to turn. If you find one false, say at which input.
  Laid BY PROGRAM, IN A SANDBOX (cutbox-rows.mjs): the forced cells as the released guide's own fill.sh prints them over the translation 3c809cfe595b5b14… (all of the seat's roots in one cut). By AI agents, Wed Nov 11 2026. No macro, syntax, notation, axiom, sorry.
-/
import Derived.Test.YtjeaeaagaaedaaaChecked
import GoSem.Claim
import GoSem.ClaimJoined
import GoSem.ClaimMapViews
import Derived.JoinedTies
import Derived.KernelRfl
namespace Go.Proofs.Ytjeaeaagaaedaaa
/- THE CELL 'sum', in the pinned program and in every row, IS THE sha256 OF THE DUMP (.gsa) THAT YtjeaeaagaaedaaaProg.lean LOADS. Nothing in Lean hashes anything: it is a label: what it is worth is what the hold of that sum in a sandbox is worth. -/
noncomputable def Try.pinned : Pinned := { name := "ytjeaeaagaaedaaa", sum := "3c809cfe595b5b147f619e6c4f7d4a4c324782a1346ca619492bbed5c7fb13d4", checked := Try.checked }
namespace Rows
def none {H : Type} : Left H := { results := [], args := [] }

/-- 'laws.FnExactSplitPeriod': WHATEVER THE INPUT: true; the input reads as it did. -/
def fnExactSplitPeriodSpec : ChangeSpec := { name := "fnExactSplitPeriod", fn := fun _ => fun
  | [d] => { results := [.lit (.bool true)], args := [d] }
  | _ => none }
def fnExactSplitPeriodRow : OpenClaim := { program := "ytjeaeaagaaedaaa", sum := "3c809cfe595b5b147f619e6c4f7d4a4c324782a1346ca619492bbed5c7fb13d4", func := "loop.example/g01003/laws.FnExactSplitPeriod", spec := "fnExactSplitPeriod", apart := false }
def FnExactSplitPeriodSaid : Prop := fnExactSplitPeriodRow.holds Try.pinned (OpenSpec.ofChange fnExactSplitPeriodSpec)

/-- ITS FALSE NEIGHBOUR: 'it returns false'. Refute it at one input. -/
def fnExactSplitPeriodWrong : ChangeSpec := { name := "fnExactSplitPeriod", fn := fun _ => fun
  | [d] => { results := [.lit (.bool false)], args := [d] }
  | _ => none }
def FnExactSplitPeriodWrongFalsely : Prop := fnExactSplitPeriodRow.holds Try.pinned (OpenSpec.ofChange fnExactSplitPeriodWrong)

/-- 'laws.FnExactPeriodKind': WHATEVER THE INPUT: true; the input reads as it did. -/
def fnExactPeriodKindSpec : ChangeSpec := { name := "fnExactPeriodKind", fn := fun _ => fun
  | [d] => { results := [.lit (.bool true)], args := [d] }
  | _ => none }
def fnExactPeriodKindRow : OpenClaim := { program := "ytjeaeaagaaedaaa", sum := "3c809cfe595b5b147f619e6c4f7d4a4c324782a1346ca619492bbed5c7fb13d4", func := "loop.example/g01003/laws.FnExactPeriodKind", spec := "fnExactPeriodKind", apart := false }
def FnExactPeriodKindSaid : Prop := fnExactPeriodKindRow.holds Try.pinned (OpenSpec.ofChange fnExactPeriodKindSpec)

/-- ITS FALSE NEIGHBOUR: 'it returns false'. Refute it at one input. -/
def fnExactPeriodKindWrong : ChangeSpec := { name := "fnExactPeriodKind", fn := fun _ => fun
  | [d] => { results := [.lit (.bool false)], args := [d] }
  | _ => none }
def FnExactPeriodKindWrongFalsely : Prop := fnExactPeriodKindRow.holds Try.pinned (OpenSpec.ofChange fnExactPeriodKindWrong)

/-- 'laws.FnExactNextForced': WHATEVER THE INPUT: true; the input reads as it did. -/
def fnExactNextForcedSpec : ChangeSpec := { name := "fnExactNextForced", fn := fun _ => fun
  | [d] => { results := [.lit (.bool true)], args := [d] }
  | _ => none }
def fnExactNextForcedRow : OpenClaim := { program := "ytjeaeaagaaedaaa", sum := "3c809cfe595b5b147f619e6c4f7d4a4c324782a1346ca619492bbed5c7fb13d4", func := "loop.example/g01003/laws.FnExactNextForced", spec := "fnExactNextForced", apart := false }
def FnExactNextForcedSaid : Prop := fnExactNextForcedRow.holds Try.pinned (OpenSpec.ofChange fnExactNextForcedSpec)

/-- ITS FALSE NEIGHBOUR: 'it returns false'. Refute it at one input. -/
def fnExactNextForcedWrong : ChangeSpec := { name := "fnExactNextForced", fn := fun _ => fun
  | [d] => { results := [.lit (.bool false)], args := [d] }
  | _ => none }
def FnExactNextForcedWrongFalsely : Prop := fnExactNextForcedRow.holds Try.pinned (OpenSpec.ofChange fnExactNextForcedWrong)

/-- 'laws.FnExactParseWord': WHATEVER THE INPUT: true; the input reads as it did. -/
def fnExactParseWordSpec : ChangeSpec := { name := "fnExactParseWord", fn := fun _ => fun
  | [d] => { results := [.lit (.bool true)], args := [d] }
  | _ => none }
def fnExactParseWordRow : OpenClaim := { program := "ytjeaeaagaaedaaa", sum := "3c809cfe595b5b147f619e6c4f7d4a4c324782a1346ca619492bbed5c7fb13d4", func := "loop.example/g01003/laws.FnExactParseWord", spec := "fnExactParseWord", apart := false }
def FnExactParseWordSaid : Prop := fnExactParseWordRow.holds Try.pinned (OpenSpec.ofChange fnExactParseWordSpec)

/-- ITS FALSE NEIGHBOUR: 'it returns false'. Refute it at one input. -/
def fnExactParseWordWrong : ChangeSpec := { name := "fnExactParseWord", fn := fun _ => fun
  | [d] => { results := [.lit (.bool false)], args := [d] }
  | _ => none }
def FnExactParseWordWrongFalsely : Prop := fnExactParseWordRow.holds Try.pinned (OpenSpec.ofChange fnExactParseWordWrong)

/-- 'laws.FnExactWordText': WHATEVER THE INPUT: true; the input reads as it did. -/
def fnExactWordTextSpec : ChangeSpec := { name := "fnExactWordText", fn := fun _ => fun
  | [d] => { results := [.lit (.bool true)], args := [d] }
  | _ => none }
def fnExactWordTextRow : OpenClaim := { program := "ytjeaeaagaaedaaa", sum := "3c809cfe595b5b147f619e6c4f7d4a4c324782a1346ca619492bbed5c7fb13d4", func := "loop.example/g01003/laws.FnExactWordText", spec := "fnExactWordText", unfollowed := true, recurses := true, apart := false }
def FnExactWordTextSaid : Prop := fnExactWordTextRow.holds Try.pinned (OpenSpec.ofChange fnExactWordTextSpec)

/-- ITS FALSE NEIGHBOUR: 'it returns false'. Refute it at one input. -/
def fnExactWordTextWrong : ChangeSpec := { name := "fnExactWordText", fn := fun _ => fun
  | [d] => { results := [.lit (.bool false)], args := [d] }
  | _ => none }
def FnExactWordTextWrongFalsely : Prop := fnExactWordTextRow.holds Try.pinned (OpenSpec.ofChange fnExactWordTextWrong)

/-- 'laws.FnExactIsInterval': WHATEVER THE INPUT: true; the input reads as it did. -/
def fnExactIsIntervalSpec : ChangeSpec := { name := "fnExactIsInterval", fn := fun _ => fun
  | [d] => { results := [.lit (.bool true)], args := [d] }
  | _ => none }
def fnExactIsIntervalRow : OpenClaim := { program := "ytjeaeaagaaedaaa", sum := "3c809cfe595b5b147f619e6c4f7d4a4c324782a1346ca619492bbed5c7fb13d4", func := "loop.example/g01003/laws.FnExactIsInterval", spec := "fnExactIsInterval", unfollowed := true, recurses := true, apart := false }
def FnExactIsIntervalSaid : Prop := fnExactIsIntervalRow.holds Try.pinned (OpenSpec.ofChange fnExactIsIntervalSpec)

/-- ITS FALSE NEIGHBOUR: 'it returns false'. Refute it at one input. -/
def fnExactIsIntervalWrong : ChangeSpec := { name := "fnExactIsInterval", fn := fun _ => fun
  | [d] => { results := [.lit (.bool false)], args := [d] }
  | _ => none }
def FnExactIsIntervalWrongFalsely : Prop := fnExactIsIntervalRow.holds Try.pinned (OpenSpec.ofChange fnExactIsIntervalWrong)

/-- 'laws.FnExactForcesPeriod': WHATEVER THE INPUT: true; the input reads as it did. -/
def fnExactForcesPeriodSpec : ChangeSpec := { name := "fnExactForcesPeriod", fn := fun _ => fun
  | [d1, d2] => { results := [.lit (.bool true)], args := [d1, d2] }
  | _ => none }
def fnExactForcesPeriodRow : OpenClaim := { program := "ytjeaeaagaaedaaa", sum := "3c809cfe595b5b147f619e6c4f7d4a4c324782a1346ca619492bbed5c7fb13d4", func := "loop.example/g01003/laws.FnExactForcesPeriod", spec := "fnExactForcesPeriod", apart := false }
def FnExactForcesPeriodSaid : Prop := fnExactForcesPeriodRow.holds Try.pinned (OpenSpec.ofChange fnExactForcesPeriodSpec)

/-- ITS FALSE NEIGHBOUR: 'it returns false'. Refute it at one input. -/
def fnExactForcesPeriodWrong : ChangeSpec := { name := "fnExactForcesPeriod", fn := fun _ => fun
  | [d1, d2] => { results := [.lit (.bool false)], args := [d1, d2] }
  | _ => none }
def FnExactForcesPeriodWrongFalsely : Prop := fnExactForcesPeriodRow.holds Try.pinned (OpenSpec.ofChange fnExactForcesPeriodWrong)

/-- 'laws.FnExactCommonTail': WHATEVER THE INPUT: true; the input reads as it did. -/
def fnExactCommonTailSpec : ChangeSpec := { name := "fnExactCommonTail", fn := fun _ => fun
  | [d1, d2] => { results := [.lit (.bool true)], args := [d1, d2] }
  | _ => none }
def fnExactCommonTailRow : OpenClaim := { program := "ytjeaeaagaaedaaa", sum := "3c809cfe595b5b147f619e6c4f7d4a4c324782a1346ca619492bbed5c7fb13d4", func := "loop.example/g01003/laws.FnExactCommonTail", spec := "fnExactCommonTail", unfollowed := true, recurses := true, apart := false }
def FnExactCommonTailSaid : Prop := fnExactCommonTailRow.holds Try.pinned (OpenSpec.ofChange fnExactCommonTailSpec)

/-- ITS FALSE NEIGHBOUR: 'it returns false'. Refute it at one input. -/
def fnExactCommonTailWrong : ChangeSpec := { name := "fnExactCommonTail", fn := fun _ => fun
  | [d1, d2] => { results := [.lit (.bool false)], args := [d1, d2] }
  | _ => none }
def FnExactCommonTailWrongFalsely : Prop := fnExactCommonTailRow.holds Try.pinned (OpenSpec.ofChange fnExactCommonTailWrong)

/-- 'laws.FnExactPlaceAmong': WHATEVER THE INPUT: true; the input reads as it did. -/
def fnExactPlaceAmongSpec : ChangeSpec := { name := "fnExactPlaceAmong", fn := fun _ => fun
  | [d1, d2] => { results := [.lit (.bool true)], args := [d1, d2] }
  | _ => none }
def fnExactPlaceAmongRow : OpenClaim := { program := "ytjeaeaagaaedaaa", sum := "3c809cfe595b5b147f619e6c4f7d4a4c324782a1346ca619492bbed5c7fb13d4", func := "loop.example/g01003/laws.FnExactPlaceAmong", spec := "fnExactPlaceAmong", apart := false }
def FnExactPlaceAmongSaid : Prop := fnExactPlaceAmongRow.holds Try.pinned (OpenSpec.ofChange fnExactPlaceAmongSpec)

/-- ITS FALSE NEIGHBOUR: 'it returns false'. Refute it at one input. -/
def fnExactPlaceAmongWrong : ChangeSpec := { name := "fnExactPlaceAmong", fn := fun _ => fun
  | [d1, d2] => { results := [.lit (.bool false)], args := [d1, d2] }
  | _ => none }
def FnExactPlaceAmongWrongFalsely : Prop := fnExactPlaceAmongRow.holds Try.pinned (OpenSpec.ofChange fnExactPlaceAmongWrong)

/-- 'laws.FnExactForcedPeriods': WHATEVER THE INPUT: true; the input reads as it did. -/
def fnExactForcedPeriodsSpec : ChangeSpec := { name := "fnExactForcedPeriods", fn := fun _ => fun
  | [d1, d2] => { results := [.lit (.bool true)], args := [d1, d2] }
  | _ => none }
def fnExactForcedPeriodsRow : OpenClaim := { program := "ytjeaeaagaaedaaa", sum := "3c809cfe595b5b147f619e6c4f7d4a4c324782a1346ca619492bbed5c7fb13d4", func := "loop.example/g01003/laws.FnExactForcedPeriods", spec := "fnExactForcedPeriods", apart := false }
def FnExactForcedPeriodsSaid : Prop := fnExactForcedPeriodsRow.holds Try.pinned (OpenSpec.ofChange fnExactForcedPeriodsSpec)

/-- ITS FALSE NEIGHBOUR: 'it returns false'. Refute it at one input. -/
def fnExactForcedPeriodsWrong : ChangeSpec := { name := "fnExactForcedPeriods", fn := fun _ => fun
  | [d1, d2] => { results := [.lit (.bool false)], args := [d1, d2] }
  | _ => none }
def FnExactForcedPeriodsWrongFalsely : Prop := fnExactForcedPeriodsRow.holds Try.pinned (OpenSpec.ofChange fnExactForcedPeriodsWrong)

/-- 'laws.FnExactCommonPart': WHATEVER THE INPUT: true; the input reads as it did. -/
def fnExactCommonPartSpec : ChangeSpec := { name := "fnExactCommonPart", fn := fun _ => fun
  | [d1, d2] => { results := [.lit (.bool true)], args := [d1, d2] }
  | _ => none }
def fnExactCommonPartRow : OpenClaim := { program := "ytjeaeaagaaedaaa", sum := "3c809cfe595b5b147f619e6c4f7d4a4c324782a1346ca619492bbed5c7fb13d4", func := "loop.example/g01003/laws.FnExactCommonPart", spec := "fnExactCommonPart", unfollowed := true, recurses := true, apart := false }
def FnExactCommonPartSaid : Prop := fnExactCommonPartRow.holds Try.pinned (OpenSpec.ofChange fnExactCommonPartSpec)

/-- ITS FALSE NEIGHBOUR: 'it returns false'. Refute it at one input. -/
def fnExactCommonPartWrong : ChangeSpec := { name := "fnExactCommonPart", fn := fun _ => fun
  | [d1, d2] => { results := [.lit (.bool false)], args := [d1, d2] }
  | _ => none }
def FnExactCommonPartWrongFalsely : Prop := fnExactCommonPartRow.holds Try.pinned (OpenSpec.ofChange fnExactCommonPartWrong)

/-- 'laws.FnExactLengthOf': WHATEVER THE INPUT: true; the input reads as it did. -/
def fnExactLengthOfSpec : ChangeSpec := { name := "fnExactLengthOf", fn := fun _ => fun
  | [d] => { results := [.lit (.bool true)], args := [d] }
  | _ => none }
def fnExactLengthOfRow : OpenClaim := { program := "ytjeaeaagaaedaaa", sum := "3c809cfe595b5b147f619e6c4f7d4a4c324782a1346ca619492bbed5c7fb13d4", func := "loop.example/g01003/laws.FnExactLengthOf", spec := "fnExactLengthOf", unfollowed := true, recurses := true, apart := false }
def FnExactLengthOfSaid : Prop := fnExactLengthOfRow.holds Try.pinned (OpenSpec.ofChange fnExactLengthOfSpec)

/-- ITS FALSE NEIGHBOUR: 'it returns false'. Refute it at one input. -/
def fnExactLengthOfWrong : ChangeSpec := { name := "fnExactLengthOf", fn := fun _ => fun
  | [d] => { results := [.lit (.bool false)], args := [d] }
  | _ => none }
def FnExactLengthOfWrongFalsely : Prop := fnExactLengthOfRow.holds Try.pinned (OpenSpec.ofChange fnExactLengthOfWrong)

/- THE SECOND FORM. 'bulk': how many values and letters a reading holds, each counted each time it is reached (what is shared counts as often as it is met; a slice's spare places count too). A statement '..UptoSaid' is the law's where the arguments, and the package variables that the reading takes, are together of bulk at most 1048576: NARROWER than '..Said'. Prove '..Said' where nothing that the law and all that it calls make is longer than what came in: it says more and counts as full. Else prove '..UptoSaid'. A law counts once. -/
mutual
def uptoBulk {H : Type} : DataW H → Nat
  | .lit (.string bytes) => bytes.length + 1
  | .lit _ => 1
  | .nil => 1
  | .ptr d => uptoBulk d + 1
  | .slice elems spare => uptoBulkAll elems + uptoBulkAll spare + 1
  | .agg parts => uptoBulkAll parts + 1
  | .iface _ d => uptoBulk d + 1
  | .map entries => uptoBulkEntries entries + 1
  | .held _ => 1
def uptoBulkAll {H : Type} : List (DataW H) → Nat
  | [] => 0
  | d :: r => uptoBulk d + uptoBulkAll r
def uptoBulkEntries {H : Type} : List (Lit × DataW H) → Nat
  | [] => 0
  | x :: r => uptoBulkEntry x + uptoBulkEntries r
def uptoBulkEntry {H : Type} : Lit × DataW H → Nat
  | (.string bytes, d) => bytes.length + uptoBulk d + 1
  | (_, d) => uptoBulk d + 1
 end
def uptoSmall : (H : Type) → List (DataW H) → Bool := fun _ ds => decide (uptoBulkAll ds ≤ 1048576)
def OpenSpec.upto (s : _root_.Go.ChangeSpec) : _root_.Go.OpenSpec := { _root_.Go.OpenSpec.ofChange s with cond := some uptoSmall }

/-- 'laws.FnExactSplitPeriod', WHERE WHAT IT READS IS OF BULK AT MOST 1048576: true; the input reads as it did. -/
def fnExactSplitPeriodUptoRow : OpenClaim := { program := "ytjeaeaagaaedaaa", sum := "3c809cfe595b5b147f619e6c4f7d4a4c324782a1346ca619492bbed5c7fb13d4", func := "loop.example/g01003/laws.FnExactSplitPeriod", spec := "fnExactSplitPeriod", apart := false, narrowed := true }
def FnExactSplitPeriodUptoSaid : Prop := fnExactSplitPeriodUptoRow.holds Try.pinned (OpenSpec.upto fnExactSplitPeriodSpec)

/-- 'laws.FnExactPeriodKind', WHERE WHAT IT READS IS OF BULK AT MOST 1048576: true; the input reads as it did. -/
def fnExactPeriodKindUptoRow : OpenClaim := { program := "ytjeaeaagaaedaaa", sum := "3c809cfe595b5b147f619e6c4f7d4a4c324782a1346ca619492bbed5c7fb13d4", func := "loop.example/g01003/laws.FnExactPeriodKind", spec := "fnExactPeriodKind", apart := false, narrowed := true }
def FnExactPeriodKindUptoSaid : Prop := fnExactPeriodKindUptoRow.holds Try.pinned (OpenSpec.upto fnExactPeriodKindSpec)

/-- 'laws.FnExactNextForced', WHERE WHAT IT READS IS OF BULK AT MOST 1048576: true; the input reads as it did. -/
def fnExactNextForcedUptoRow : OpenClaim := { program := "ytjeaeaagaaedaaa", sum := "3c809cfe595b5b147f619e6c4f7d4a4c324782a1346ca619492bbed5c7fb13d4", func := "loop.example/g01003/laws.FnExactNextForced", spec := "fnExactNextForced", apart := false, narrowed := true }
def FnExactNextForcedUptoSaid : Prop := fnExactNextForcedUptoRow.holds Try.pinned (OpenSpec.upto fnExactNextForcedSpec)

/-- 'laws.FnExactParseWord', WHERE WHAT IT READS IS OF BULK AT MOST 1048576: true; the input reads as it did. -/
def fnExactParseWordUptoRow : OpenClaim := { program := "ytjeaeaagaaedaaa", sum := "3c809cfe595b5b147f619e6c4f7d4a4c324782a1346ca619492bbed5c7fb13d4", func := "loop.example/g01003/laws.FnExactParseWord", spec := "fnExactParseWord", apart := false, narrowed := true }
def FnExactParseWordUptoSaid : Prop := fnExactParseWordUptoRow.holds Try.pinned (OpenSpec.upto fnExactParseWordSpec)

/-- 'laws.FnExactWordText', WHERE WHAT IT READS IS OF BULK AT MOST 1048576: true; the input reads as it did. -/
def fnExactWordTextUptoRow : OpenClaim := { program := "ytjeaeaagaaedaaa", sum := "3c809cfe595b5b147f619e6c4f7d4a4c324782a1346ca619492bbed5c7fb13d4", func := "loop.example/g01003/laws.FnExactWordText", spec := "fnExactWordText", unfollowed := true, recurses := true, apart := false, narrowed := true }
def FnExactWordTextUptoSaid : Prop := fnExactWordTextUptoRow.holds Try.pinned (OpenSpec.upto fnExactWordTextSpec)

/-- 'laws.FnExactIsInterval', WHERE WHAT IT READS IS OF BULK AT MOST 1048576: true; the input reads as it did. -/
def fnExactIsIntervalUptoRow : OpenClaim := { program := "ytjeaeaagaaedaaa", sum := "3c809cfe595b5b147f619e6c4f7d4a4c324782a1346ca619492bbed5c7fb13d4", func := "loop.example/g01003/laws.FnExactIsInterval", spec := "fnExactIsInterval", unfollowed := true, recurses := true, apart := false, narrowed := true }
def FnExactIsIntervalUptoSaid : Prop := fnExactIsIntervalUptoRow.holds Try.pinned (OpenSpec.upto fnExactIsIntervalSpec)

/-- 'laws.FnExactForcesPeriod', WHERE WHAT IT READS IS OF BULK AT MOST 1048576: true; the input reads as it did. -/
def fnExactForcesPeriodUptoRow : OpenClaim := { program := "ytjeaeaagaaedaaa", sum := "3c809cfe595b5b147f619e6c4f7d4a4c324782a1346ca619492bbed5c7fb13d4", func := "loop.example/g01003/laws.FnExactForcesPeriod", spec := "fnExactForcesPeriod", apart := false, narrowed := true }
def FnExactForcesPeriodUptoSaid : Prop := fnExactForcesPeriodUptoRow.holds Try.pinned (OpenSpec.upto fnExactForcesPeriodSpec)

/-- 'laws.FnExactCommonTail', WHERE WHAT IT READS IS OF BULK AT MOST 1048576: true; the input reads as it did. -/
def fnExactCommonTailUptoRow : OpenClaim := { program := "ytjeaeaagaaedaaa", sum := "3c809cfe595b5b147f619e6c4f7d4a4c324782a1346ca619492bbed5c7fb13d4", func := "loop.example/g01003/laws.FnExactCommonTail", spec := "fnExactCommonTail", unfollowed := true, recurses := true, apart := false, narrowed := true }
def FnExactCommonTailUptoSaid : Prop := fnExactCommonTailUptoRow.holds Try.pinned (OpenSpec.upto fnExactCommonTailSpec)

/-- 'laws.FnExactPlaceAmong', WHERE WHAT IT READS IS OF BULK AT MOST 1048576: true; the input reads as it did. -/
def fnExactPlaceAmongUptoRow : OpenClaim := { program := "ytjeaeaagaaedaaa", sum := "3c809cfe595b5b147f619e6c4f7d4a4c324782a1346ca619492bbed5c7fb13d4", func := "loop.example/g01003/laws.FnExactPlaceAmong", spec := "fnExactPlaceAmong", apart := false, narrowed := true }
def FnExactPlaceAmongUptoSaid : Prop := fnExactPlaceAmongUptoRow.holds Try.pinned (OpenSpec.upto fnExactPlaceAmongSpec)

/-- 'laws.FnExactForcedPeriods', WHERE WHAT IT READS IS OF BULK AT MOST 1048576: true; the input reads as it did. -/
def fnExactForcedPeriodsUptoRow : OpenClaim := { program := "ytjeaeaagaaedaaa", sum := "3c809cfe595b5b147f619e6c4f7d4a4c324782a1346ca619492bbed5c7fb13d4", func := "loop.example/g01003/laws.FnExactForcedPeriods", spec := "fnExactForcedPeriods", apart := false, narrowed := true }
def FnExactForcedPeriodsUptoSaid : Prop := fnExactForcedPeriodsUptoRow.holds Try.pinned (OpenSpec.upto fnExactForcedPeriodsSpec)

/-- 'laws.FnExactCommonPart', WHERE WHAT IT READS IS OF BULK AT MOST 1048576: true; the input reads as it did. -/
def fnExactCommonPartUptoRow : OpenClaim := { program := "ytjeaeaagaaedaaa", sum := "3c809cfe595b5b147f619e6c4f7d4a4c324782a1346ca619492bbed5c7fb13d4", func := "loop.example/g01003/laws.FnExactCommonPart", spec := "fnExactCommonPart", unfollowed := true, recurses := true, apart := false, narrowed := true }
def FnExactCommonPartUptoSaid : Prop := fnExactCommonPartUptoRow.holds Try.pinned (OpenSpec.upto fnExactCommonPartSpec)

/-- 'laws.FnExactLengthOf', WHERE WHAT IT READS IS OF BULK AT MOST 1048576: true; the input reads as it did. -/
def fnExactLengthOfUptoRow : OpenClaim := { program := "ytjeaeaagaaedaaa", sum := "3c809cfe595b5b147f619e6c4f7d4a4c324782a1346ca619492bbed5c7fb13d4", func := "loop.example/g01003/laws.FnExactLengthOf", spec := "fnExactLengthOf", unfollowed := true, recurses := true, apart := false, narrowed := true }
def FnExactLengthOfUptoSaid : Prop := fnExactLengthOfUptoRow.holds Try.pinned (OpenSpec.upto fnExactLengthOfSpec)

end Rows
end Go.Proofs.Ytjeaeaagaaedaaa
