import Derived.Test.YteddmcaljongeaaVWords
import Derived.Laws.StructEq
namespace Go.Proofs.YteddmcaljongeaaW.PrintWords
open Go.RowKit
end Go.Proofs.YteddmcaljongeaaW.PrintWords
