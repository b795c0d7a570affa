/-
  No cell of these rows narrows 'for every input' (looked for: loops, veiled, ifaces, maps, wideKeys, modest, calm, conditions, laid).
  DERIVED. THE GIVEN ROWS OF THIS SEAT. 8 by the template 'for every input the law returns true; each argument reads behind the call as it read before'; 0 by the template 'total and deterministic' (their statements: YtfpmfaelodfecaaTotals.lean).
  GIVEN WITH THE SEED: the statements are not yours to turn. If you find one false, say at which input.
  Laid BY PROGRAM, IN A SANDBOX (cutbox-rows.mjs): the forced cells as the released guide's own fill.sh prints them over the translation a5074bdfc0152e18… (all of the seat's roots in one cut). By AI agents, Wed Nov 11 2026. No macro, syntax, notation, axiom, sorry.
-/
import Derived.Test.YtfpmfaelodfecaaChecked
import GoSem.Claim
import GoSem.ClaimJoined
import GoSem.ClaimMapViews
import Derived.JoinedTies
import Derived.KernelRfl
namespace Go.Proofs.Ytfpmfaelodfecaa
/- THE CELL 'sum', in the pinned program and in every row, IS THE sha256 OF THE DUMP (.gsa) THAT YtfpmfaelodfecaaProg.lean LOADS. Nothing in Lean hashes anything: it is a label: what it is worth is what the hold of that sum in a sandbox is worth. -/
noncomputable def Try.pinned : Pinned := { name := "ytfpmfaelodfecaa", sum := "a5074bdfc0152e181b0acea5ea931156477651a1b8ffeff3e88551ff6ab38243", checked := Try.checked }
namespace Rows
def none {H : Type} : Left H := { results := [], args := [] }

/-- 'laws.FnExactGuesses': WHATEVER THE INPUT: true; the input reads as it did. -/
def fnExactGuessesSpec : ChangeSpec := { name := "fnExactGuesses", fn := fun _ => fun
  | [d1, d2, d3] => { results := [.lit (.bool true)], args := [d1, d2, d3] }
  | _ => none }
def fnExactGuessesRow : OpenClaim := { program := "ytfpmfaelodfecaa", sum := "a5074bdfc0152e181b0acea5ea931156477651a1b8ffeff3e88551ff6ab38243", func := "loop.example/medlar/laws.FnExactGuesses", spec := "fnExactGuesses", unfollowed := true, recurses := true, apart := false }
def FnExactGuessesSaid : Prop := fnExactGuessesRow.holds Try.pinned (OpenSpec.ofChange fnExactGuessesSpec)

/-- ITS FALSE NEIGHBOUR: 'it returns false'. Refute it at one input. -/
def fnExactGuessesWrong : ChangeSpec := { name := "fnExactGuesses", fn := fun _ => fun
  | [d1, d2, d3] => { results := [.lit (.bool false)], args := [d1, d2, d3] }
  | _ => none }
def FnExactGuessesWrongFalsely : Prop := fnExactGuessesRow.holds Try.pinned (OpenSpec.ofChange fnExactGuessesWrong)

/-- 'laws.FnGuesses': WHATEVER THE INPUT: true; the input reads as it did. -/
def fnGuessesSpec : ChangeSpec := { name := "fnGuesses", fn := fun _ => fun
  | [d] => { results := [.lit (.bool true)], args := [d] }
  | _ => none }
def fnGuessesRow : OpenClaim := { program := "ytfpmfaelodfecaa", sum := "a5074bdfc0152e181b0acea5ea931156477651a1b8ffeff3e88551ff6ab38243", func := "loop.example/medlar/laws.FnGuesses", spec := "fnGuesses", unfollowed := true, recurses := true, apart := false }
def FnGuessesSaid : Prop := fnGuessesRow.holds Try.pinned (OpenSpec.ofChange fnGuessesSpec)

/-- ITS FALSE NEIGHBOUR: 'it returns false'. Refute it at one input. -/
def fnGuessesWrong : ChangeSpec := { name := "fnGuesses", fn := fun _ => fun
  | [d] => { results := [.lit (.bool false)], args := [d] }
  | _ => none }
def FnGuessesWrongFalsely : Prop := fnGuessesRow.holds Try.pinned (OpenSpec.ofChange fnGuessesWrong)

/-- 'laws.FnExactMachineGuesses': WHATEVER THE INPUT: true; the input reads as it did. -/
def fnExactMachineGuessesSpec : ChangeSpec := { name := "fnExactMachineGuesses", fn := fun _ => fun
  | [d1, d2] => { results := [.lit (.bool true)], args := [d1, d2] }
  | _ => none }
def fnExactMachineGuessesRow : OpenClaim := { program := "ytfpmfaelodfecaa", sum := "a5074bdfc0152e181b0acea5ea931156477651a1b8ffeff3e88551ff6ab38243", func := "loop.example/medlar/laws.FnExactMachineGuesses", spec := "fnExactMachineGuesses", unfollowed := true, recurses := true, apart := false }
def FnExactMachineGuessesSaid : Prop := fnExactMachineGuessesRow.holds Try.pinned (OpenSpec.ofChange fnExactMachineGuessesSpec)

/-- ITS FALSE NEIGHBOUR: 'it returns false'. Refute it at one input. -/
def fnExactMachineGuessesWrong : ChangeSpec := { name := "fnExactMachineGuesses", fn := fun _ => fun
  | [d1, d2] => { results := [.lit (.bool false)], args := [d1, d2] }
  | _ => none }
def FnExactMachineGuessesWrongFalsely : Prop := fnExactMachineGuessesRow.holds Try.pinned (OpenSpec.ofChange fnExactMachineGuessesWrong)

/-- 'laws.FnMachineGuesses': WHATEVER THE INPUT: true; the input reads as it did. -/
def fnMachineGuessesSpec : ChangeSpec := { name := "fnMachineGuesses", fn := fun _ => fun
  | [d] => { results := [.lit (.bool true)], args := [d] }
  | _ => none }
def fnMachineGuessesRow : OpenClaim := { program := "ytfpmfaelodfecaa", sum := "a5074bdfc0152e181b0acea5ea931156477651a1b8ffeff3e88551ff6ab38243", func := "loop.example/medlar/laws.FnMachineGuesses", spec := "fnMachineGuesses", unfollowed := true, recurses := true, apart := false }
def FnMachineGuessesSaid : Prop := fnMachineGuessesRow.holds Try.pinned (OpenSpec.ofChange fnMachineGuessesSpec)

/-- ITS FALSE NEIGHBOUR: 'it returns false'. Refute it at one input. -/
def fnMachineGuessesWrong : ChangeSpec := { name := "fnMachineGuesses", fn := fun _ => fun
  | [d] => { results := [.lit (.bool false)], args := [d] }
  | _ => none }
def FnMachineGuessesWrongFalsely : Prop := fnMachineGuessesRow.holds Try.pinned (OpenSpec.ofChange fnMachineGuessesWrong)

/-- 'laws.FnMachineWord': WHATEVER THE INPUT: true; the input reads as it did. -/
def fnMachineWordSpec : ChangeSpec := { name := "fnMachineWord", fn := fun _ => fun
  | [d] => { results := [.lit (.bool true)], args := [d] }
  | _ => none }
def fnMachineWordRow : OpenClaim := { program := "ytfpmfaelodfecaa", sum := "a5074bdfc0152e181b0acea5ea931156477651a1b8ffeff3e88551ff6ab38243", func := "loop.example/medlar/laws.FnMachineWord", spec := "fnMachineWord", apart := false }
def FnMachineWordSaid : Prop := fnMachineWordRow.holds Try.pinned (OpenSpec.ofChange fnMachineWordSpec)

/-- ITS FALSE NEIGHBOUR: 'it returns false'. Refute it at one input. -/
def fnMachineWordWrong : ChangeSpec := { name := "fnMachineWord", fn := fun _ => fun
  | [d] => { results := [.lit (.bool false)], args := [d] }
  | _ => none }
def FnMachineWordWrongFalsely : Prop := fnMachineWordRow.holds Try.pinned (OpenSpec.ofChange fnMachineWordWrong)

/-- 'laws.FnMachineKnows': WHATEVER THE INPUT: true; the input reads as it did. -/
def fnMachineKnowsSpec : ChangeSpec := { name := "fnMachineKnows", fn := fun _ => fun
  | [d] => { results := [.lit (.bool true)], args := [d] }
  | _ => none }
def fnMachineKnowsRow : OpenClaim := { program := "ytfpmfaelodfecaa", sum := "a5074bdfc0152e181b0acea5ea931156477651a1b8ffeff3e88551ff6ab38243", func := "loop.example/medlar/laws.FnMachineKnows", spec := "fnMachineKnows", apart := false }
def FnMachineKnowsSaid : Prop := fnMachineKnowsRow.holds Try.pinned (OpenSpec.ofChange fnMachineKnowsSpec)

/-- ITS FALSE NEIGHBOUR: 'it returns false'. Refute it at one input. -/
def fnMachineKnowsWrong : ChangeSpec := { name := "fnMachineKnows", fn := fun _ => fun
  | [d] => { results := [.lit (.bool false)], args := [d] }
  | _ => none }
def FnMachineKnowsWrongFalsely : Prop := fnMachineKnowsRow.holds Try.pinned (OpenSpec.ofChange fnMachineKnowsWrong)

/-- 'laws.FnMachineRank': WHATEVER THE INPUT: true; the input reads as it did. -/
def fnMachineRankSpec : ChangeSpec := { name := "fnMachineRank", fn := fun _ => fun
  | [d] => { results := [.lit (.bool true)], args := [d] }
  | _ => none }
def fnMachineRankRow : OpenClaim := { program := "ytfpmfaelodfecaa", sum := "a5074bdfc0152e181b0acea5ea931156477651a1b8ffeff3e88551ff6ab38243", func := "loop.example/medlar/laws.FnMachineRank", spec := "fnMachineRank", apart := false }
def FnMachineRankSaid : Prop := fnMachineRankRow.holds Try.pinned (OpenSpec.ofChange fnMachineRankSpec)

/-- ITS FALSE NEIGHBOUR: 'it returns false'. Refute it at one input. -/
def fnMachineRankWrong : ChangeSpec := { name := "fnMachineRank", fn := fun _ => fun
  | [d] => { results := [.lit (.bool false)], args := [d] }
  | _ => none }
def FnMachineRankWrongFalsely : Prop := fnMachineRankRow.holds Try.pinned (OpenSpec.ofChange fnMachineRankWrong)

/-- 'laws.FnExactDeltaOf': WHATEVER THE INPUT: true; the input reads as it did. -/
def fnExactDeltaOfSpec : ChangeSpec := { name := "fnExactDeltaOf", fn := fun _ => fun
  | [d1, d2] => { results := [.lit (.bool true)], args := [d1, d2] }
  | _ => none }
def fnExactDeltaOfRow : OpenClaim := { program := "ytfpmfaelodfecaa", sum := "a5074bdfc0152e181b0acea5ea931156477651a1b8ffeff3e88551ff6ab38243", func := "loop.example/medlar/laws.FnExactDeltaOf", spec := "fnExactDeltaOf", unfollowed := true, recurses := true, apart := false }
def FnExactDeltaOfSaid : Prop := fnExactDeltaOfRow.holds Try.pinned (OpenSpec.ofChange fnExactDeltaOfSpec)

/-- ITS FALSE NEIGHBOUR: 'it returns false'. Refute it at one input. -/
def fnExactDeltaOfWrong : ChangeSpec := { name := "fnExactDeltaOf", fn := fun _ => fun
  | [d1, d2] => { results := [.lit (.bool false)], args := [d1, d2] }
  | _ => none }
def FnExactDeltaOfWrongFalsely : Prop := fnExactDeltaOfRow.holds Try.pinned (OpenSpec.ofChange fnExactDeltaOfWrong)

/- THE SECOND FORM. 'bulk': how many values and letters a reading holds, each counted each time it is reached (what is shared counts as often as it is met; a slice's spare places count too). A statement '..UptoSaid' is the law's where the arguments, and the package variables that the reading takes, are together of bulk at most 1048576: NARROWER than '..Said'. Prove '..Said' where nothing that the law and all that it calls make is longer than what came in: it says more and counts as full. Else prove '..UptoSaid'. A law counts once. -/
mutual
def uptoBulk {H : Type} : DataW H → Nat
  | .lit (.string bytes) => bytes.length + 1
  | .lit _ => 1
  | .nil => 1
  | .ptr d => uptoBulk d + 1
  | .slice elems spare => uptoBulkAll elems + uptoBulkAll spare + 1
  | .agg parts => uptoBulkAll parts + 1
  | .iface _ d => uptoBulk d + 1
  | .map entries => uptoBulkEntries entries + 1
  | .held _ => 1
def uptoBulkAll {H : Type} : List (DataW H) → Nat
  | [] => 0
  | d :: r => uptoBulk d + uptoBulkAll r
def uptoBulkEntries {H : Type} : List (Lit × DataW H) → Nat
  | [] => 0
  | x :: r => uptoBulkEntry x + uptoBulkEntries r
def uptoBulkEntry {H : Type} : Lit × DataW H → Nat
  | (.string bytes, d) => bytes.length + uptoBulk d + 1
  | (_, d) => uptoBulk d + 1
 end
def uptoSmall : (H : Type) → List (DataW H) → Bool := fun _ ds => decide (uptoBulkAll ds ≤ 1048576)
def OpenSpec.upto (s : _root_.Go.ChangeSpec) : _root_.Go.OpenSpec := { _root_.Go.OpenSpec.ofChange s with cond := some uptoSmall }

/-- 'laws.FnExactGuesses', WHERE WHAT IT READS IS OF BULK AT MOST 1048576: true; the input reads as it did. -/
def fnExactGuessesUptoRow : OpenClaim := { program := "ytfpmfaelodfecaa", sum := "a5074bdfc0152e181b0acea5ea931156477651a1b8ffeff3e88551ff6ab38243", func := "loop.example/medlar/laws.FnExactGuesses", spec := "fnExactGuesses", unfollowed := true, recurses := true, apart := false, narrowed := true }
def FnExactGuessesUptoSaid : Prop := fnExactGuessesUptoRow.holds Try.pinned (OpenSpec.upto fnExactGuessesSpec)

/-- 'laws.FnGuesses', WHERE WHAT IT READS IS OF BULK AT MOST 1048576: true; the input reads as it did. -/
def fnGuessesUptoRow : OpenClaim := { program := "ytfpmfaelodfecaa", sum := "a5074bdfc0152e181b0acea5ea931156477651a1b8ffeff3e88551ff6ab38243", func := "loop.example/medlar/laws.FnGuesses", spec := "fnGuesses", unfollowed := true, recurses := true, apart := false, narrowed := true }
def FnGuessesUptoSaid : Prop := fnGuessesUptoRow.holds Try.pinned (OpenSpec.upto fnGuessesSpec)

/-- 'laws.FnExactMachineGuesses', WHERE WHAT IT READS IS OF BULK AT MOST 1048576: true; the input reads as it did. -/
def fnExactMachineGuessesUptoRow : OpenClaim := { program := "ytfpmfaelodfecaa", sum := "a5074bdfc0152e181b0acea5ea931156477651a1b8ffeff3e88551ff6ab38243", func := "loop.example/medlar/laws.FnExactMachineGuesses", spec := "fnExactMachineGuesses", unfollowed := true, recurses := true, apart := false, narrowed := true }
def FnExactMachineGuessesUptoSaid : Prop := fnExactMachineGuessesUptoRow.holds Try.pinned (OpenSpec.upto fnExactMachineGuessesSpec)

/-- 'laws.FnMachineGuesses', WHERE WHAT IT READS IS OF BULK AT MOST 1048576: true; the input reads as it did. -/
def fnMachineGuessesUptoRow : OpenClaim := { program := "ytfpmfaelodfecaa", sum := "a5074bdfc0152e181b0acea5ea931156477651a1b8ffeff3e88551ff6ab38243", func := "loop.example/medlar/laws.FnMachineGuesses", spec := "fnMachineGuesses", unfollowed := true, recurses := true, apart := false, narrowed := true }
def FnMachineGuessesUptoSaid : Prop := fnMachineGuessesUptoRow.holds Try.pinned (OpenSpec.upto fnMachineGuessesSpec)

/-- 'laws.FnMachineWord', WHERE WHAT IT READS IS OF BULK AT MOST 1048576: true; the input reads as it did. -/
def fnMachineWordUptoRow : OpenClaim := { program := "ytfpmfaelodfecaa", sum := "a5074bdfc0152e181b0acea5ea931156477651a1b8ffeff3e88551ff6ab38243", func := "loop.example/medlar/laws.FnMachineWord", spec := "fnMachineWord", apart := false, narrowed := true }
def FnMachineWordUptoSaid : Prop := fnMachineWordUptoRow.holds Try.pinned (OpenSpec.upto fnMachineWordSpec)

/-- 'laws.FnMachineKnows', WHERE WHAT IT READS IS OF BULK AT MOST 1048576: true; the input reads as it did. -/
def fnMachineKnowsUptoRow : OpenClaim := { program := "ytfpmfaelodfecaa", sum := "a5074bdfc0152e181b0acea5ea931156477651a1b8ffeff3e88551ff6ab38243", func := "loop.example/medlar/laws.FnMachineKnows", spec := "fnMachineKnows", apart := false, narrowed := true }
def FnMachineKnowsUptoSaid : Prop := fnMachineKnowsUptoRow.holds Try.pinned (OpenSpec.upto fnMachineKnowsSpec)

/-- 'laws.FnMachineRank', WHERE WHAT IT READS IS OF BULK AT MOST 1048576: true; the input reads as it did. -/
def fnMachineRankUptoRow : OpenClaim := { program := "ytfpmfaelodfecaa", sum := "a5074bdfc0152e181b0acea5ea931156477651a1b8ffeff3e88551ff6ab38243", func := "loop.example/medlar/laws.FnMachineRank", spec := "fnMachineRank", apart := false, narrowed := true }
def FnMachineRankUptoSaid : Prop := fnMachineRankUptoRow.holds Try.pinned (OpenSpec.upto fnMachineRankSpec)

/-- 'laws.FnExactDeltaOf', WHERE WHAT IT READS IS OF BULK AT MOST 1048576: true; the input reads as it did. -/
def fnExactDeltaOfUptoRow : OpenClaim := { program := "ytfpmfaelodfecaa", sum := "a5074bdfc0152e181b0acea5ea931156477651a1b8ffeff3e88551ff6ab38243", func := "loop.example/medlar/laws.FnExactDeltaOf", spec := "fnExactDeltaOf", unfollowed := true, recurses := true, apart := false, narrowed := true }
def FnExactDeltaOfUptoSaid : Prop := fnExactDeltaOfUptoRow.holds Try.pinned (OpenSpec.upto fnExactDeltaOfSpec)

end Rows
end Go.Proofs.Ytfpmfaelodfecaa
