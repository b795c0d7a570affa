import Derived.Test.YteddmcaljongeaaVTab
namespace Go.Proofs.YteddmcaljongeaaW.PrintLast
end Go.Proofs.YteddmcaljongeaaW.PrintLast
