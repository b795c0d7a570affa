import Derived.Test.YtnljgfaomabkbaaVInv
import Derived.Test.YtnljgfaomabkbaaVFootNe
namespace Go.Proofs.YtnljgfaomabkbaaW.PrintWords
open Go.RowKit
end Go.Proofs.YtnljgfaomabkbaaW.PrintWords
namespace Go.Proofs.YtnljgfaomabkbaaW.PrintLast
end Go.Proofs.YtnljgfaomabkbaaW.PrintLast
