import Derived.Test.YtfpmfaelodfecaaVWords
import Derived.Laws.StructEq
namespace Go.Proofs.YtfpmfaelodfecaaW.PrintWords
open Go.RowKit
end Go.Proofs.YtfpmfaelodfecaaW.PrintWords
