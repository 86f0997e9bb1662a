-- Written by this session's program wip/pp (the kit's print tool with additions) 35421559b90ae4d0a3588c463048766b98c2df88dd9212a6774a882060cdf62d
import Derived.Test.YtjeaeaagaaedaaaProg
import Derived.Test.YtjeaeaagaaedaaaAid
import Derived.Below
import Derived.Deep.Draws
import Derived.Deep.AppendLies
import Derived.Maps.AppendAt
import Derived.OwnWalk
import Derived.Laws.BytesArg
import Derived.Laws.MakeOwn
import Derived.Laws.OwnMore
import Derived.Deep.OwnRows
import Derived.Tactics
import Derived.Lib.ConvBytes
import Derived.Laws.Slices
import Derived.WalkKit
import Derived.KernelRfl
import Derived.RowKit3
import Derived.Deep.LoopGhost
import Derived.Deep.QuietTactic
import Derived.BigQuiet
import Derived.WideLaws
import Derived.Deep.DeepCutAuto
import Derived.Deep.CutBlock
import Derived.Deep.RegionHeld3
import Derived.Laws.Rows
import Derived.Lib.AppendStr
import Derived.ArgAppend
import Derived.Laws.IdiomCopy
import Derived.OrdersHeld
import Derived.Laws.BitsLemmas
import Derived.RowKit
import Derived.Test.YtjeaeaagaaedaaaWWords
import Derived.Test.YtjeaeaagaaedaaaWLast
import Derived.Test.YtjeaeaagaaedaaaWTab
import Derived.Test.YtjeaeaagaaedaaaWFour
import Derived.Test.YtjeaeaagaaedaaaWQPut
import Derived.Test.YtjeaeaagaaedaaaWApart
import Derived.Test.YtjeaeaagaaedaaaWArr
import Derived.Test.YtjeaeaagaaedaaaWZeros
import Derived.Test.YtjeaeaagaaedaaaWFoot
import Derived.Test.YtjeaeaagaaedaaaWKept
import Derived.Test.YtjeaeaagaaedaaaWShare
import Derived.Test.YtjeaeaagaaedaaaWN
import Derived.Test.YtjeaeaagaaedaaaWFootNe
import Derived.Test.YtjeaeaagaaedaaaWAt
import Derived.Test.YtjeaeaagaaedaaaWEqStruct
import Derived.Test.YtjeaeaagaaedaaaWRepsOne
import Derived.Test.YtjeaeaagaaedaaaWInv
import Derived.Test.YtjeaeaagaaedaaaWInvWords
import Derived.Test.YtjeaeaagaaedaaaWGuard
import Derived.Test.YtjeaeaagaaedaaaWNEv
import Derived.Test.YtjeaeaagaaedaaaWMore
namespace Go.Proofs.Ytjeaeaagaaedaaa.PFnExactWordText
open Go.RowKit Go.Proofs.YtjeaeaagaaedaaaW.PrintWords Go.Proofs.YtjeaeaagaaedaaaW.PrintLast Go.Proofs.YtjeaeaagaaedaaaW.PrintMore
attribute [local go_sem] max2_int min2_int max_two min_two max_three min_three max_four min_four   -- for this text's walks alone
set_option linter.unusedVariables false
set_option linter.unusedSimpArgs false



def errW : Option Int → Value
  | none => .nilIface
  | some c => .iface 0 (.int .i64 c)
theorem errW_none : errW none = .nilIface := rfl
theorem errW_some (c : Int) : errW (some c) = .iface 0 (.int .i64 c) := rfl

theorem info3 : (Try.prog.info? 3).map (fun i => (i.zero, i.size, i.bytes)) = some (some (.int .i64 0), 1, 8) := by kernel_rfl
theorem info5 : (Try.prog.info? 5).map (fun i => (i.zero, i.size, i.bytes)) = some (some (.int .u8 0), 1, 1) := by kernel_rfl
-- the values' own types

end Go.Proofs.Ytjeaeaagaaedaaa.PFnExactWordText
