import Derived.Test.YtfpmfaelodfecaaVFootNe
namespace Go.Proofs.YtfpmfaelodfecaaW.PrintWords
open Go.RowKit
namespace Kd
end Kd
end Go.Proofs.YtfpmfaelodfecaaW.PrintWords
