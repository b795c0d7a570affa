import Derived.Test.YtfpmfaelodfecaaVWords
import Derived.Test.YtfpmfaelodfecaaVLast
namespace Go.Proofs.YtfpmfaelodfecaaW.PrintWords
open Go.RowKit
namespace Kd
end Kd
end Go.Proofs.YtfpmfaelodfecaaW.PrintWords
