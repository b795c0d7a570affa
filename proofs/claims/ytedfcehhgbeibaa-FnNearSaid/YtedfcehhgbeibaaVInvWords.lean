import Derived.Test.YtedfcehhgbeibaaVInv
import Derived.Test.YtedfcehhgbeibaaVFootNe
namespace Go.Proofs.YtedfcehhgbeibaaW.PrintWords
open Go.RowKit
end Go.Proofs.YtedfcehhgbeibaaW.PrintWords
namespace Go.Proofs.YtedfcehhgbeibaaW.PrintLast
end Go.Proofs.YtedfcehhgbeibaaW.PrintLast
