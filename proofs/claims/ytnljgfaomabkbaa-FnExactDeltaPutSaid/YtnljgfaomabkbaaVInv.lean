import Derived.Test.YtnljgfaomabkbaaVTab
namespace Go.Proofs.YtnljgfaomabkbaaW.PrintLast
end Go.Proofs.YtnljgfaomabkbaaW.PrintLast
