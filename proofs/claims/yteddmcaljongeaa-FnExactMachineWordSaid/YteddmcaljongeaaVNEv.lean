import Derived.Test.YteddmcaljongeaaVN
namespace Go.Proofs.YteddmcaljongeaaW.PrintWords
open Go.RowKit
namespace Kd
end Kd
end Go.Proofs.YteddmcaljongeaaW.PrintWords
