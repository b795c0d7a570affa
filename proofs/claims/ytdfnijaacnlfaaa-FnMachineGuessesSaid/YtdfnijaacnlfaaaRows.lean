/-
  No cell of these rows narrows 'for every input' (looked for: loops, veiled, ifaces, maps, wideKeys, modest, calm, conditions, laid).
  DERIVED. THE GIVEN ROWS OF THIS SEAT. 3 by the template 'for every input the law returns true; each argument reads behind the call as it read before'; 0 by the template 'total and deterministic' (their statements: YtdfnijaacnlfaaaTotals.lean).
  GIVEN WITH THE SEED: the statements are not yours to turn. If you find one false, say at which input.
  Laid BY PROGRAM, IN A SANDBOX (cutbox-rows.mjs): the forced cells as the released guide's own fill.sh prints them over the translation 0e9e5a4c4d62c000… (all of the seat's roots in one cut). By AI agents, Wed Nov 11 2026. No macro, syntax, notation, axiom, sorry.
-/
import Derived.Test.YtdfnijaacnlfaaaChecked
import GoSem.Claim
import GoSem.ClaimJoined
import GoSem.ClaimMapViews
import Derived.JoinedTies
import Derived.KernelRfl
namespace Go.Proofs.Ytdfnijaacnlfaaa
/- THE CELL 'sum', in the pinned program and in every row, IS THE sha256 OF THE DUMP (.gsa) THAT YtdfnijaacnlfaaaProg.lean LOADS. Nothing in Lean hashes anything: it is a label: what it is worth is what the hold of that sum in a sandbox is worth. -/
noncomputable def Try.pinned : Pinned := { name := "ytdfnijaacnlfaaa", sum := "0e9e5a4c4d62c000e6157147a56e6793f54ca7c2d1de58a3e70ef70f13957e1d", checked := Try.checked }
namespace Rows
def none {H : Type} : Left H := { results := [], args := [] }

/-- 'laws.FnExactDeltaOf': WHATEVER THE INPUT: true; the input reads as it did. -/
def fnExactDeltaOfSpec : ChangeSpec := { name := "fnExactDeltaOf", fn := fun _ => fun
  | [d1, d2] => { results := [.lit (.bool true)], args := [d1, d2] }
  | _ => none }
def fnExactDeltaOfRow : OpenClaim := { program := "ytdfnijaacnlfaaa", sum := "0e9e5a4c4d62c000e6157147a56e6793f54ca7c2d1de58a3e70ef70f13957e1d", func := "loop.example/medlar/laws.FnExactDeltaOf", spec := "fnExactDeltaOf", unfollowed := true, recurses := true, apart := false }
def FnExactDeltaOfSaid : Prop := fnExactDeltaOfRow.holds Try.pinned (OpenSpec.ofChange fnExactDeltaOfSpec)

/-- ITS FALSE NEIGHBOUR: 'it returns false'. Refute it at one input. -/
def fnExactDeltaOfWrong : ChangeSpec := { name := "fnExactDeltaOf", fn := fun _ => fun
  | [d1, d2] => { results := [.lit (.bool false)], args := [d1, d2] }
  | _ => none }
def FnExactDeltaOfWrongFalsely : Prop := fnExactDeltaOfRow.holds Try.pinned (OpenSpec.ofChange fnExactDeltaOfWrong)

/-- 'laws.FnDeltaOf': WHATEVER THE INPUT: true; the input reads as it did. -/
def fnDeltaOfSpec : ChangeSpec := { name := "fnDeltaOf", fn := fun _ => fun
  | [d] => { results := [.lit (.bool true)], args := [d] }
  | _ => none }
def fnDeltaOfRow : OpenClaim := { program := "ytdfnijaacnlfaaa", sum := "0e9e5a4c4d62c000e6157147a56e6793f54ca7c2d1de58a3e70ef70f13957e1d", func := "loop.example/medlar/laws.FnDeltaOf", spec := "fnDeltaOf", unfollowed := true, recurses := true, apart := false }
def FnDeltaOfSaid : Prop := fnDeltaOfRow.holds Try.pinned (OpenSpec.ofChange fnDeltaOfSpec)

/-- ITS FALSE NEIGHBOUR: 'it returns false'. Refute it at one input. -/
def fnDeltaOfWrong : ChangeSpec := { name := "fnDeltaOf", fn := fun _ => fun
  | [d] => { results := [.lit (.bool false)], args := [d] }
  | _ => none }
def FnDeltaOfWrongFalsely : Prop := fnDeltaOfRow.holds Try.pinned (OpenSpec.ofChange fnDeltaOfWrong)

/-- 'laws.FnMachineGuesses': WHATEVER THE INPUT: true; the input reads as it did. -/
def fnMachineGuessesSpec : ChangeSpec := { name := "fnMachineGuesses", fn := fun _ => fun
  | [d] => { results := [.lit (.bool true)], args := [d] }
  | _ => none }
def fnMachineGuessesRow : OpenClaim := { program := "ytdfnijaacnlfaaa", sum := "0e9e5a4c4d62c000e6157147a56e6793f54ca7c2d1de58a3e70ef70f13957e1d", func := "loop.example/medlar/laws.FnMachineGuesses", spec := "fnMachineGuesses", unfollowed := true, recurses := true, apart := false }
def FnMachineGuessesSaid : Prop := fnMachineGuessesRow.holds Try.pinned (OpenSpec.ofChange fnMachineGuessesSpec)

/-- ITS FALSE NEIGHBOUR: 'it returns false'. Refute it at one input. -/
def fnMachineGuessesWrong : ChangeSpec := { name := "fnMachineGuesses", fn := fun _ => fun
  | [d] => { results := [.lit (.bool false)], args := [d] }
  | _ => none }
def FnMachineGuessesWrongFalsely : Prop := fnMachineGuessesRow.holds Try.pinned (OpenSpec.ofChange fnMachineGuessesWrong)

/- THE SECOND FORM. 'bulk': how many values and letters a reading holds, each counted each time it is reached (what is shared counts as often as it is met; a slice's spare places count too). A statement '..UptoSaid' is the law's where the arguments, and the package variables that the reading takes, are together of bulk at most 1048576: NARROWER than '..Said'. Prove '..Said' where nothing that the law and all that it calls make is longer than what came in: it says more and counts as full. Else prove '..UptoSaid'. A law counts once. -/
mutual
def uptoBulk {H : Type} : DataW H → Nat
  | .lit (.string bytes) => bytes.length + 1
  | .lit _ => 1
  | .nil => 1
  | .ptr d => uptoBulk d + 1
  | .slice elems spare => uptoBulkAll elems + uptoBulkAll spare + 1
  | .agg parts => uptoBulkAll parts + 1
  | .iface _ d => uptoBulk d + 1
  | .map entries => uptoBulkEntries entries + 1
  | .held _ => 1
def uptoBulkAll {H : Type} : List (DataW H) → Nat
  | [] => 0
  | d :: r => uptoBulk d + uptoBulkAll r
def uptoBulkEntries {H : Type} : List (Lit × DataW H) → Nat
  | [] => 0
  | x :: r => uptoBulkEntry x + uptoBulkEntries r
def uptoBulkEntry {H : Type} : Lit × DataW H → Nat
  | (.string bytes, d) => bytes.length + uptoBulk d + 1
  | (_, d) => uptoBulk d + 1
 end
def uptoSmall : (H : Type) → List (DataW H) → Bool := fun _ ds => decide (uptoBulkAll ds ≤ 1048576)
def OpenSpec.upto (s : _root_.Go.ChangeSpec) : _root_.Go.OpenSpec := { _root_.Go.OpenSpec.ofChange s with cond := some uptoSmall }

/-- 'laws.FnExactDeltaOf', WHERE WHAT IT READS IS OF BULK AT MOST 1048576: true; the input reads as it did. -/
def fnExactDeltaOfUptoRow : OpenClaim := { program := "ytdfnijaacnlfaaa", sum := "0e9e5a4c4d62c000e6157147a56e6793f54ca7c2d1de58a3e70ef70f13957e1d", func := "loop.example/medlar/laws.FnExactDeltaOf", spec := "fnExactDeltaOf", unfollowed := true, recurses := true, apart := false, narrowed := true }
def FnExactDeltaOfUptoSaid : Prop := fnExactDeltaOfUptoRow.holds Try.pinned (OpenSpec.upto fnExactDeltaOfSpec)

/-- 'laws.FnDeltaOf', WHERE WHAT IT READS IS OF BULK AT MOST 1048576: true; the input reads as it did. -/
def fnDeltaOfUptoRow : OpenClaim := { program := "ytdfnijaacnlfaaa", sum := "0e9e5a4c4d62c000e6157147a56e6793f54ca7c2d1de58a3e70ef70f13957e1d", func := "loop.example/medlar/laws.FnDeltaOf", spec := "fnDeltaOf", unfollowed := true, recurses := true, apart := false, narrowed := true }
def FnDeltaOfUptoSaid : Prop := fnDeltaOfUptoRow.holds Try.pinned (OpenSpec.upto fnDeltaOfSpec)

/-- 'laws.FnMachineGuesses', WHERE WHAT IT READS IS OF BULK AT MOST 1048576: true; the input reads as it did. -/
def fnMachineGuessesUptoRow : OpenClaim := { program := "ytdfnijaacnlfaaa", sum := "0e9e5a4c4d62c000e6157147a56e6793f54ca7c2d1de58a3e70ef70f13957e1d", func := "loop.example/medlar/laws.FnMachineGuesses", spec := "fnMachineGuesses", unfollowed := true, recurses := true, apart := false, narrowed := true }
def FnMachineGuessesUptoSaid : Prop := fnMachineGuessesUptoRow.holds Try.pinned (OpenSpec.upto fnMachineGuessesSpec)

end Rows
end Go.Proofs.Ytdfnijaacnlfaaa
