import Derived.Test.YtfpmfaelodfecaaVWords
namespace Go.Proofs.YtfpmfaelodfecaaW.PrintWords
open Go.RowKit
end Go.Proofs.YtfpmfaelodfecaaW.PrintWords
