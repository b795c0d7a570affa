/- The library functions that the program calls lie at this program: the shelf's layings, in plain words. -/
import Derived.Test.YtfpmfaelodfecaaProg
import Derived.Shelf.SlSortCmp.NoneTotal
namespace Go.Proofs
open Go.Shelf Go.RowKit
end Go.Proofs
