import Derived.Test.YtedfcehhgbeibaaVTab
namespace Go.Proofs.YtedfcehhgbeibaaW.PrintLast
end Go.Proofs.YtedfcehhgbeibaaW.PrintLast
