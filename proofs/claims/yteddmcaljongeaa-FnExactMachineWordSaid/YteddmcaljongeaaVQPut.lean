import Derived.Test.YteddmcaljongeaaVWords
import Derived.Test.YteddmcaljongeaaVLast
namespace Go.Proofs.YteddmcaljongeaaW.PrintWords
open Go.RowKit
namespace Kd
end Kd
end Go.Proofs.YteddmcaljongeaaW.PrintWords
