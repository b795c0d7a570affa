import Derived.Test.YtfpmfaelodfecaaVInv
import Derived.Test.YtfpmfaelodfecaaVFootNe
namespace Go.Proofs.YtfpmfaelodfecaaW.PrintWords
open Go.RowKit
end Go.Proofs.YtfpmfaelodfecaaW.PrintWords
namespace Go.Proofs.YtfpmfaelodfecaaW.PrintLast
end Go.Proofs.YtfpmfaelodfecaaW.PrintLast
