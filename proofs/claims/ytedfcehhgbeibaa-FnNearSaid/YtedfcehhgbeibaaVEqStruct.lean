import Derived.Test.YtedfcehhgbeibaaVWords
import Derived.Laws.StructEq
namespace Go.Proofs.YtedfcehhgbeibaaW.PrintWords
open Go.RowKit
end Go.Proofs.YtedfcehhgbeibaaW.PrintWords
