/- slices.SortFunc and slices.Compact at []int, by the shelf's contracts, laid at this program. -/
import Derived.Test.YtcbbkeojoichnaaProg
import Derived.Shelf.SlSortCmp.Whole1
import Derived.Shelf.SlicesG.CompactI
import Derived.Shelf.SlGeneric
import Derived.Shelf.Lay
import Derived.Ground.SlsfProg
import Derived.Ground.SlgnProg
import Derived.Lib.OwnBridge
import Derived.Sort.OwnSortedInts
import Derived.Sort.LotA
namespace Go.Proofs
open Go.Shelf
shelf_lay_g SlLaysF.n6 Slsf 6 at Try 45 as Ytcbbkeojoichnaa.sortL
shelf_lay_g SlLaysN.n43 Slgn 43 at Try 47 as Ytcbbkeojoichnaa.compL
end Go.Proofs
