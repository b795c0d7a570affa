import Derived.Test.YtedfcehhgbeibaaVWords
namespace Go.Proofs.YtedfcehhgbeibaaW.PrintWords
open Go.RowKit
end Go.Proofs.YtedfcehhgbeibaaW.PrintWords
