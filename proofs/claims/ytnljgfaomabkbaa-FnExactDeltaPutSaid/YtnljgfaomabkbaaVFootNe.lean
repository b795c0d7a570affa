import Derived.Test.YtnljgfaomabkbaaVN
namespace Go.Proofs.YtnljgfaomabkbaaW.PrintWords
open Go.RowKit
namespace Kd
end Kd
end Go.Proofs.YtnljgfaomabkbaaW.PrintWords
