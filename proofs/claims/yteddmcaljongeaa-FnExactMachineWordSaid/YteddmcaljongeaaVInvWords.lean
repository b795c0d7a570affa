import Derived.Test.YteddmcaljongeaaVInv
import Derived.Test.YteddmcaljongeaaVFootNe
namespace Go.Proofs.YteddmcaljongeaaW.PrintWords
open Go.RowKit
end Go.Proofs.YteddmcaljongeaaW.PrintWords
namespace Go.Proofs.YteddmcaljongeaaW.PrintLast
end Go.Proofs.YteddmcaljongeaaW.PrintLast
