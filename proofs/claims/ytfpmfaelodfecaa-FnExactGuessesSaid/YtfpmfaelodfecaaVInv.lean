import Derived.Test.YtfpmfaelodfecaaVTab
namespace Go.Proofs.YtfpmfaelodfecaaW.PrintLast
end Go.Proofs.YtfpmfaelodfecaaW.PrintLast
