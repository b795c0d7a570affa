import Derived.Test.YtpljfjbhlboffaaVTab
namespace Go.Proofs.YtpljfjbhlboffaaW.PrintLast
def up (b : Nat → Bool) (i : Nat) : Nat → Bool := fun j => if j = i then true else b j
end Go.Proofs.YtpljfjbhlboffaaW.PrintLast
