import Derived.Test.YtfpmfaelodfecaaVApart
import Derived.Test.YtfpmfaelodfecaaVArr
namespace Go.Proofs.YtfpmfaelodfecaaW.PrintWords
open Go.RowKit
namespace Kd
end Kd
end Go.Proofs.YtfpmfaelodfecaaW.PrintWords
