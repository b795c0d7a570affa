import Derived.Test.YtedfcehhgbeibaaVWords
import Derived.Test.YtedfcehhgbeibaaVLast
namespace Go.Proofs.YtedfcehhgbeibaaW.PrintWords
open Go.RowKit
namespace Kd
end Kd
end Go.Proofs.YtedfcehhgbeibaaW.PrintWords
