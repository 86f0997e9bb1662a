/-
  No cell of these rows narrows 'for every input' (looked for: loops, veiled, ifaces, maps, wideKeys, modest, calm, conditions, laid).
  DERIVED. THE GIVEN ROWS OF THIS SEAT. 9 by the template 'for every input the law returns true; each argument reads behind the call as it read before'; 0 by the template 'total and deterministic' (their statements: YtmecnnnagallnaaTotals.lean).
  GIVEN WITH THE SEED: the statements are not yours to turn. If you find one false, say at which input.
  Laid BY PROGRAM, IN A SANDBOX (cutbox-rows.mjs): the forced cells as the released guide's own fill.sh prints them over the translation ab87babe5f824241… (all of the seat's roots in one cut). By AI agents, Wed Nov 11 2026. No macro, syntax, notation, axiom, sorry.
-/
import Derived.Test.YtmecnnnagallnaaChecked
import GoSem.Claim
import GoSem.ClaimJoined
import GoSem.ClaimMapViews
import Derived.JoinedTies
import Derived.KernelRfl
namespace Go.Proofs.Ytmecnnnagallnaa
/- THE CELL 'sum', in the pinned program and in every row, IS THE sha256 OF THE DUMP (.gsa) THAT YtmecnnnagallnaaProg.lean LOADS. Nothing in Lean hashes anything: it is a label: what it is worth is what the hold of that sum in a sandbox is worth. -/
noncomputable def Try.pinned : Pinned := { name := "ytmecnnnagallnaa", sum := "ab87babe5f824241f53c9f594fceaf062cc8fdd3d2dc1ea1792bd41007d89004", checked := Try.checked }
namespace Rows
def none {H : Type} : Left H := { results := [], args := [] }

/-- 'laws.FnExactLeastSlope': WHATEVER THE INPUT: true; the input reads as it did. -/
def fnExactLeastSlopeSpec : ChangeSpec := { name := "fnExactLeastSlope", fn := fun _ => fun
  | [d1, d2] => { results := [.lit (.bool true)], args := [d1, d2] }
  | _ => none }
def fnExactLeastSlopeRow : OpenClaim := { program := "ytmecnnnagallnaa", sum := "ab87babe5f824241f53c9f594fceaf062cc8fdd3d2dc1ea1792bd41007d89004", func := "loop.example/g01003/laws.FnExactLeastSlope", spec := "fnExactLeastSlope", unfollowed := true, recurses := true, apart := false }
def FnExactLeastSlopeSaid : Prop := fnExactLeastSlopeRow.holds Try.pinned (OpenSpec.ofChange fnExactLeastSlopeSpec)

/-- ITS FALSE NEIGHBOUR: 'it returns false'. Refute it at one input. -/
def fnExactLeastSlopeWrong : ChangeSpec := { name := "fnExactLeastSlope", fn := fun _ => fun
  | [d1, d2] => { results := [.lit (.bool false)], args := [d1, d2] }
  | _ => none }
def FnExactLeastSlopeWrongFalsely : Prop := fnExactLeastSlopeRow.holds Try.pinned (OpenSpec.ofChange fnExactLeastSlopeWrong)

/-- 'laws.FnExactLineOfWord': WHATEVER THE INPUT: true; the input reads as it did. -/
def fnExactLineOfWordSpec : ChangeSpec := { name := "fnExactLineOfWord", fn := fun _ => fun
  | [d1, d2] => { results := [.lit (.bool true)], args := [d1, d2] }
  | _ => none }
def fnExactLineOfWordRow : OpenClaim := { program := "ytmecnnnagallnaa", sum := "ab87babe5f824241f53c9f594fceaf062cc8fdd3d2dc1ea1792bd41007d89004", func := "loop.example/g01003/laws.FnExactLineOfWord", spec := "fnExactLineOfWord", unfollowed := true, recurses := true, apart := false }
def FnExactLineOfWordSaid : Prop := fnExactLineOfWordRow.holds Try.pinned (OpenSpec.ofChange fnExactLineOfWordSpec)

/-- ITS FALSE NEIGHBOUR: 'it returns false'. Refute it at one input. -/
def fnExactLineOfWordWrong : ChangeSpec := { name := "fnExactLineOfWord", fn := fun _ => fun
  | [d1, d2] => { results := [.lit (.bool false)], args := [d1, d2] }
  | _ => none }
def FnExactLineOfWordWrongFalsely : Prop := fnExactLineOfWordRow.holds Try.pinned (OpenSpec.ofChange fnExactLineOfWordWrong)

/-- 'laws.FnExactWordMultiplier': WHATEVER THE INPUT: true; the input reads as it did. -/
def fnExactWordMultiplierSpec : ChangeSpec := { name := "fnExactWordMultiplier", fn := fun _ => fun
  | [d1, d2] => { results := [.lit (.bool true)], args := [d1, d2] }
  | _ => none }
def fnExactWordMultiplierRow : OpenClaim := { program := "ytmecnnnagallnaa", sum := "ab87babe5f824241f53c9f594fceaf062cc8fdd3d2dc1ea1792bd41007d89004", func := "loop.example/g01003/laws.FnExactWordMultiplier", spec := "fnExactWordMultiplier", unfollowed := true, recurses := true, apart := false }
def FnExactWordMultiplierSaid : Prop := fnExactWordMultiplierRow.holds Try.pinned (OpenSpec.ofChange fnExactWordMultiplierSpec)

/-- ITS FALSE NEIGHBOUR: 'it returns false'. Refute it at one input. -/
def fnExactWordMultiplierWrong : ChangeSpec := { name := "fnExactWordMultiplier", fn := fun _ => fun
  | [d1, d2] => { results := [.lit (.bool false)], args := [d1, d2] }
  | _ => none }
def FnExactWordMultiplierWrongFalsely : Prop := fnExactWordMultiplierRow.holds Try.pinned (OpenSpec.ofChange fnExactWordMultiplierWrong)

/-- 'laws.FnExactWordSign': WHATEVER THE INPUT: true; the input reads as it did. -/
def fnExactWordSignSpec : ChangeSpec := { name := "fnExactWordSign", fn := fun _ => fun
  | [d1, d2] => { results := [.lit (.bool true)], args := [d1, d2] }
  | _ => none }
def fnExactWordSignRow : OpenClaim := { program := "ytmecnnnagallnaa", sum := "ab87babe5f824241f53c9f594fceaf062cc8fdd3d2dc1ea1792bd41007d89004", func := "loop.example/g01003/laws.FnExactWordSign", spec := "fnExactWordSign", unfollowed := true, recurses := true, apart := false }
def FnExactWordSignSaid : Prop := fnExactWordSignRow.holds Try.pinned (OpenSpec.ofChange fnExactWordSignSpec)

/-- ITS FALSE NEIGHBOUR: 'it returns false'. Refute it at one input. -/
def fnExactWordSignWrong : ChangeSpec := { name := "fnExactWordSign", fn := fun _ => fun
  | [d1, d2] => { results := [.lit (.bool false)], args := [d1, d2] }
  | _ => none }
def FnExactWordSignWrongFalsely : Prop := fnExactWordSignRow.holds Try.pinned (OpenSpec.ofChange fnExactWordSignWrong)

/-- 'laws.FnExactCoversInterval': WHATEVER THE INPUT: true; the input reads as it did. -/
def fnExactCoversIntervalSpec : ChangeSpec := { name := "fnExactCoversInterval", fn := fun _ => fun
  | [d1, d2, d3] => { results := [.lit (.bool true)], args := [d1, d2, d3] }
  | _ => none }
def fnExactCoversIntervalRow : OpenClaim := { program := "ytmecnnnagallnaa", sum := "ab87babe5f824241f53c9f594fceaf062cc8fdd3d2dc1ea1792bd41007d89004", func := "loop.example/g01003/laws.FnExactCoversInterval", spec := "fnExactCoversInterval", unfollowed := true, recurses := true, apart := false }
def FnExactCoversIntervalSaid : Prop := fnExactCoversIntervalRow.holds Try.pinned (OpenSpec.ofChange fnExactCoversIntervalSpec)

/-- ITS FALSE NEIGHBOUR: 'it returns false'. Refute it at one input. -/
def fnExactCoversIntervalWrong : ChangeSpec := { name := "fnExactCoversInterval", fn := fun _ => fun
  | [d1, d2, d3] => { results := [.lit (.bool false)], args := [d1, d2, d3] }
  | _ => none }
def FnExactCoversIntervalWrongFalsely : Prop := fnExactCoversIntervalRow.holds Try.pinned (OpenSpec.ofChange fnExactCoversIntervalWrong)

/-- 'laws.FnExactPiecesOf': WHATEVER THE INPUT: true; the input reads as it did. -/
def fnExactPiecesOfSpec : ChangeSpec := { name := "fnExactPiecesOf", fn := fun _ => fun
  | [d1, d2, d3] => { results := [.lit (.bool true)], args := [d1, d2, d3] }
  | _ => none }
def fnExactPiecesOfRow : OpenClaim := { program := "ytmecnnnagallnaa", sum := "ab87babe5f824241f53c9f594fceaf062cc8fdd3d2dc1ea1792bd41007d89004", func := "loop.example/g01003/laws.FnExactPiecesOf", spec := "fnExactPiecesOf", unfollowed := true, recurses := true, apart := false }
def FnExactPiecesOfSaid : Prop := fnExactPiecesOfRow.holds Try.pinned (OpenSpec.ofChange fnExactPiecesOfSpec)

/-- ITS FALSE NEIGHBOUR: 'it returns false'. Refute it at one input. -/
def fnExactPiecesOfWrong : ChangeSpec := { name := "fnExactPiecesOf", fn := fun _ => fun
  | [d1, d2, d3] => { results := [.lit (.bool false)], args := [d1, d2, d3] }
  | _ => none }
def FnExactPiecesOfWrongFalsely : Prop := fnExactPiecesOfRow.holds Try.pinned (OpenSpec.ofChange fnExactPiecesOfWrong)

/-- 'laws.FnExactCompareWords': WHATEVER THE INPUT: true; the input reads as it did. -/
def fnExactCompareWordsSpec : ChangeSpec := { name := "fnExactCompareWords", fn := fun _ => fun
  | [d1, d2, d3] => { results := [.lit (.bool true)], args := [d1, d2, d3] }
  | _ => none }
def fnExactCompareWordsRow : OpenClaim := { program := "ytmecnnnagallnaa", sum := "ab87babe5f824241f53c9f594fceaf062cc8fdd3d2dc1ea1792bd41007d89004", func := "loop.example/g01003/laws.FnExactCompareWords", spec := "fnExactCompareWords", unfollowed := true, recurses := true, apart := false }
def FnExactCompareWordsSaid : Prop := fnExactCompareWordsRow.holds Try.pinned (OpenSpec.ofChange fnExactCompareWordsSpec)

/-- ITS FALSE NEIGHBOUR: 'it returns false'. Refute it at one input. -/
def fnExactCompareWordsWrong : ChangeSpec := { name := "fnExactCompareWords", fn := fun _ => fun
  | [d1, d2, d3] => { results := [.lit (.bool false)], args := [d1, d2, d3] }
  | _ => none }
def FnExactCompareWordsWrongFalsely : Prop := fnExactCompareWordsRow.holds Try.pinned (OpenSpec.ofChange fnExactCompareWordsWrong)

/-- 'laws.FnExactImageInterval': WHATEVER THE INPUT: true; the input reads as it did. -/
def fnExactImageIntervalSpec : ChangeSpec := { name := "fnExactImageInterval", fn := fun _ => fun
  | [d1, d2] => { results := [.lit (.bool true)], args := [d1, d2] }
  | _ => none }
def fnExactImageIntervalRow : OpenClaim := { program := "ytmecnnnagallnaa", sum := "ab87babe5f824241f53c9f594fceaf062cc8fdd3d2dc1ea1792bd41007d89004", func := "loop.example/g01003/laws.FnExactImageInterval", spec := "fnExactImageInterval", unfollowed := true, recurses := true, apart := false }
def FnExactImageIntervalSaid : Prop := fnExactImageIntervalRow.holds Try.pinned (OpenSpec.ofChange fnExactImageIntervalSpec)

/-- ITS FALSE NEIGHBOUR: 'it returns false'. Refute it at one input. -/
def fnExactImageIntervalWrong : ChangeSpec := { name := "fnExactImageInterval", fn := fun _ => fun
  | [d1, d2] => { results := [.lit (.bool false)], args := [d1, d2] }
  | _ => none }
def FnExactImageIntervalWrongFalsely : Prop := fnExactImageIntervalRow.holds Try.pinned (OpenSpec.ofChange fnExactImageIntervalWrong)

/-- 'laws.FnExactItineraryOf': WHATEVER THE INPUT: true; the input reads as it did. -/
def fnExactItineraryOfSpec : ChangeSpec := { name := "fnExactItineraryOf", fn := fun _ => fun
  | [d1, d2, d3] => { results := [.lit (.bool true)], args := [d1, d2, d3] }
  | _ => none }
def fnExactItineraryOfRow : OpenClaim := { program := "ytmecnnnagallnaa", sum := "ab87babe5f824241f53c9f594fceaf062cc8fdd3d2dc1ea1792bd41007d89004", func := "loop.example/g01003/laws.FnExactItineraryOf", spec := "fnExactItineraryOf", unfollowed := true, recurses := true, apart := false }
def FnExactItineraryOfSaid : Prop := fnExactItineraryOfRow.holds Try.pinned (OpenSpec.ofChange fnExactItineraryOfSpec)

/-- ITS FALSE NEIGHBOUR: 'it returns false'. Refute it at one input. -/
def fnExactItineraryOfWrong : ChangeSpec := { name := "fnExactItineraryOf", fn := fun _ => fun
  | [d1, d2, d3] => { results := [.lit (.bool false)], args := [d1, d2, d3] }
  | _ => none }
def FnExactItineraryOfWrongFalsely : Prop := fnExactItineraryOfRow.holds Try.pinned (OpenSpec.ofChange fnExactItineraryOfWrong)

/- THE SECOND FORM. 'bulk': how many values and letters a reading holds, each counted each time it is reached (what is shared counts as often as it is met; a slice's spare places count too). A statement '..UptoSaid' is the law's where the arguments, and the package variables that the reading takes, are together of bulk at most 1048576: NARROWER than '..Said'. Prove '..Said' where nothing that the law and all that it calls make is longer than what came in: it says more and counts as full. Else prove '..UptoSaid'. A law counts once. -/
mutual
def uptoBulk {H : Type} : DataW H → Nat
  | .lit (.string bytes) => bytes.length + 1
  | .lit _ => 1
  | .nil => 1
  | .ptr d => uptoBulk d + 1
  | .slice elems spare => uptoBulkAll elems + uptoBulkAll spare + 1
  | .agg parts => uptoBulkAll parts + 1
  | .iface _ d => uptoBulk d + 1
  | .map entries => uptoBulkEntries entries + 1
  | .held _ => 1
def uptoBulkAll {H : Type} : List (DataW H) → Nat
  | [] => 0
  | d :: r => uptoBulk d + uptoBulkAll r
def uptoBulkEntries {H : Type} : List (Lit × DataW H) → Nat
  | [] => 0
  | x :: r => uptoBulkEntry x + uptoBulkEntries r
def uptoBulkEntry {H : Type} : Lit × DataW H → Nat
  | (.string bytes, d) => bytes.length + uptoBulk d + 1
  | (_, d) => uptoBulk d + 1
 end
def uptoSmall : (H : Type) → List (DataW H) → Bool := fun _ ds => decide (uptoBulkAll ds ≤ 1048576)
def OpenSpec.upto (s : _root_.Go.ChangeSpec) : _root_.Go.OpenSpec := { _root_.Go.OpenSpec.ofChange s with cond := some uptoSmall }

/-- 'laws.FnExactLeastSlope', WHERE WHAT IT READS IS OF BULK AT MOST 1048576: true; the input reads as it did. -/
def fnExactLeastSlopeUptoRow : OpenClaim := { program := "ytmecnnnagallnaa", sum := "ab87babe5f824241f53c9f594fceaf062cc8fdd3d2dc1ea1792bd41007d89004", func := "loop.example/g01003/laws.FnExactLeastSlope", spec := "fnExactLeastSlope", unfollowed := true, recurses := true, apart := false, narrowed := true }
def FnExactLeastSlopeUptoSaid : Prop := fnExactLeastSlopeUptoRow.holds Try.pinned (OpenSpec.upto fnExactLeastSlopeSpec)

/-- 'laws.FnExactLineOfWord', WHERE WHAT IT READS IS OF BULK AT MOST 1048576: true; the input reads as it did. -/
def fnExactLineOfWordUptoRow : OpenClaim := { program := "ytmecnnnagallnaa", sum := "ab87babe5f824241f53c9f594fceaf062cc8fdd3d2dc1ea1792bd41007d89004", func := "loop.example/g01003/laws.FnExactLineOfWord", spec := "fnExactLineOfWord", unfollowed := true, recurses := true, apart := false, narrowed := true }
def FnExactLineOfWordUptoSaid : Prop := fnExactLineOfWordUptoRow.holds Try.pinned (OpenSpec.upto fnExactLineOfWordSpec)

/-- 'laws.FnExactWordMultiplier', WHERE WHAT IT READS IS OF BULK AT MOST 1048576: true; the input reads as it did. -/
def fnExactWordMultiplierUptoRow : OpenClaim := { program := "ytmecnnnagallnaa", sum := "ab87babe5f824241f53c9f594fceaf062cc8fdd3d2dc1ea1792bd41007d89004", func := "loop.example/g01003/laws.FnExactWordMultiplier", spec := "fnExactWordMultiplier", unfollowed := true, recurses := true, apart := false, narrowed := true }
def FnExactWordMultiplierUptoSaid : Prop := fnExactWordMultiplierUptoRow.holds Try.pinned (OpenSpec.upto fnExactWordMultiplierSpec)

/-- 'laws.FnExactWordSign', WHERE WHAT IT READS IS OF BULK AT MOST 1048576: true; the input reads as it did. -/
def fnExactWordSignUptoRow : OpenClaim := { program := "ytmecnnnagallnaa", sum := "ab87babe5f824241f53c9f594fceaf062cc8fdd3d2dc1ea1792bd41007d89004", func := "loop.example/g01003/laws.FnExactWordSign", spec := "fnExactWordSign", unfollowed := true, recurses := true, apart := false, narrowed := true }
def FnExactWordSignUptoSaid : Prop := fnExactWordSignUptoRow.holds Try.pinned (OpenSpec.upto fnExactWordSignSpec)

/-- 'laws.FnExactCoversInterval', WHERE WHAT IT READS IS OF BULK AT MOST 1048576: true; the input reads as it did. -/
def fnExactCoversIntervalUptoRow : OpenClaim := { program := "ytmecnnnagallnaa", sum := "ab87babe5f824241f53c9f594fceaf062cc8fdd3d2dc1ea1792bd41007d89004", func := "loop.example/g01003/laws.FnExactCoversInterval", spec := "fnExactCoversInterval", unfollowed := true, recurses := true, apart := false, narrowed := true }
def FnExactCoversIntervalUptoSaid : Prop := fnExactCoversIntervalUptoRow.holds Try.pinned (OpenSpec.upto fnExactCoversIntervalSpec)

/-- 'laws.FnExactPiecesOf', WHERE WHAT IT READS IS OF BULK AT MOST 1048576: true; the input reads as it did. -/
def fnExactPiecesOfUptoRow : OpenClaim := { program := "ytmecnnnagallnaa", sum := "ab87babe5f824241f53c9f594fceaf062cc8fdd3d2dc1ea1792bd41007d89004", func := "loop.example/g01003/laws.FnExactPiecesOf", spec := "fnExactPiecesOf", unfollowed := true, recurses := true, apart := false, narrowed := true }
def FnExactPiecesOfUptoSaid : Prop := fnExactPiecesOfUptoRow.holds Try.pinned (OpenSpec.upto fnExactPiecesOfSpec)

/-- 'laws.FnExactCompareWords', WHERE WHAT IT READS IS OF BULK AT MOST 1048576: true; the input reads as it did. -/
def fnExactCompareWordsUptoRow : OpenClaim := { program := "ytmecnnnagallnaa", sum := "ab87babe5f824241f53c9f594fceaf062cc8fdd3d2dc1ea1792bd41007d89004", func := "loop.example/g01003/laws.FnExactCompareWords", spec := "fnExactCompareWords", unfollowed := true, recurses := true, apart := false, narrowed := true }
def FnExactCompareWordsUptoSaid : Prop := fnExactCompareWordsUptoRow.holds Try.pinned (OpenSpec.upto fnExactCompareWordsSpec)

/-- 'laws.FnExactImageInterval', WHERE WHAT IT READS IS OF BULK AT MOST 1048576: true; the input reads as it did. -/
def fnExactImageIntervalUptoRow : OpenClaim := { program := "ytmecnnnagallnaa", sum := "ab87babe5f824241f53c9f594fceaf062cc8fdd3d2dc1ea1792bd41007d89004", func := "loop.example/g01003/laws.FnExactImageInterval", spec := "fnExactImageInterval", unfollowed := true, recurses := true, apart := false, narrowed := true }
def FnExactImageIntervalUptoSaid : Prop := fnExactImageIntervalUptoRow.holds Try.pinned (OpenSpec.upto fnExactImageIntervalSpec)

/-- 'laws.FnExactItineraryOf', WHERE WHAT IT READS IS OF BULK AT MOST 1048576: true; the input reads as it did. -/
def fnExactItineraryOfUptoRow : OpenClaim := { program := "ytmecnnnagallnaa", sum := "ab87babe5f824241f53c9f594fceaf062cc8fdd3d2dc1ea1792bd41007d89004", func := "loop.example/g01003/laws.FnExactItineraryOf", spec := "fnExactItineraryOf", unfollowed := true, recurses := true, apart := false, narrowed := true }
def FnExactItineraryOfUptoSaid : Prop := fnExactItineraryOfUptoRow.holds Try.pinned (OpenSpec.upto fnExactItineraryOfSpec)

end Rows
end Go.Proofs.Ytmecnnnagallnaa
