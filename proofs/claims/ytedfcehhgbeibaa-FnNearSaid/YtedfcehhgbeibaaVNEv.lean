import Derived.Test.YtedfcehhgbeibaaVN
namespace Go.Proofs.YtedfcehhgbeibaaW.PrintWords
open Go.RowKit
namespace Kd
end Kd
end Go.Proofs.YtedfcehhgbeibaaW.PrintWords
