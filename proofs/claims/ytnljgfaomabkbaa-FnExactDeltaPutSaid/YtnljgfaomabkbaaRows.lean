/-
  No cell of these rows narrows 'for every input' (looked for: loops, veiled, ifaces, maps, wideKeys, modest, calm, conditions, laid).
  DERIVED. THE GIVEN ROWS OF THIS SEAT. 10 by the template 'for every input the law returns true; each argument reads behind the call as it read before'; 0 by the template 'total and deterministic' (their statements: YtnljgfaomabkbaaTotals.lean).
  GIVEN WITH THE SEED: the statements are not yours to turn. If you find one false, say at which input.
  Laid BY PROGRAM, IN A SANDBOX (cutbox-rows.mjs): the forced cells as the released guide's own fill.sh prints them over the translation 8b883e9119498065… (all of the seat's roots in one cut). By AI agents, Wed Nov 11 2026. No macro, syntax, notation, axiom, sorry.
-/
import Derived.Test.YtnljgfaomabkbaaChecked
import GoSem.Claim
import GoSem.ClaimJoined
import GoSem.ClaimMapViews
import Derived.JoinedTies
import Derived.KernelRfl
namespace Go.Proofs.Ytnljgfaomabkbaa
/- THE CELL 'sum', in the pinned program and in every row, IS THE sha256 OF THE DUMP (.gsa) THAT YtnljgfaomabkbaaProg.lean LOADS. Nothing in Lean hashes anything: it is a label: what it is worth is what the hold of that sum in a sandbox is worth. -/
noncomputable def Try.pinned : Pinned := { name := "ytnljgfaomabkbaa", sum := "8b883e9119498065b48bd95a4fa80c533bdec9603816113dd093503d120cacda", checked := Try.checked }
namespace Rows
def none {H : Type} : Left H := { results := [], args := [] }

/-- 'laws.FnExactMachineRank': WHATEVER THE INPUT: true; the input reads as it did. -/
def fnExactMachineRankSpec : ChangeSpec := { name := "fnExactMachineRank", fn := fun _ => fun
  | [d1, d2] => { results := [.lit (.bool true)], args := [d1, d2] }
  | _ => none }
def fnExactMachineRankRow : OpenClaim := { program := "ytnljgfaomabkbaa", sum := "8b883e9119498065b48bd95a4fa80c533bdec9603816113dd093503d120cacda", func := "loop.example/medlar/laws.FnExactMachineRank", spec := "fnExactMachineRank", apart := false }
def FnExactMachineRankSaid : Prop := fnExactMachineRankRow.holds Try.pinned (OpenSpec.ofChange fnExactMachineRankSpec)

/-- ITS FALSE NEIGHBOUR: 'it returns false'. Refute it at one input. -/
def fnExactMachineRankWrong : ChangeSpec := { name := "fnExactMachineRank", fn := fun _ => fun
  | [d1, d2] => { results := [.lit (.bool false)], args := [d1, d2] }
  | _ => none }
def FnExactMachineRankWrongFalsely : Prop := fnExactMachineRankRow.holds Try.pinned (OpenSpec.ofChange fnExactMachineRankWrong)

/-- 'laws.FnExactBookOk': WHATEVER THE INPUT: true; the input reads as it did. -/
def fnExactBookOkSpec : ChangeSpec := { name := "fnExactBookOk", fn := fun _ => fun
  | [d] => { results := [.lit (.bool true)], args := [d] }
  | _ => none }
def fnExactBookOkRow : OpenClaim := { program := "ytnljgfaomabkbaa", sum := "8b883e9119498065b48bd95a4fa80c533bdec9603816113dd093503d120cacda", func := "loop.example/medlar/laws.FnExactBookOk", spec := "fnExactBookOk", apart := false }
def FnExactBookOkSaid : Prop := fnExactBookOkRow.holds Try.pinned (OpenSpec.ofChange fnExactBookOkSpec)

/-- ITS FALSE NEIGHBOUR: 'it returns false'. Refute it at one input. -/
def fnExactBookOkWrong : ChangeSpec := { name := "fnExactBookOk", fn := fun _ => fun
  | [d] => { results := [.lit (.bool false)], args := [d] }
  | _ => none }
def FnExactBookOkWrongFalsely : Prop := fnExactBookOkRow.holds Try.pinned (OpenSpec.ofChange fnExactBookOkWrong)

/-- 'laws.FnExactBookPut': WHATEVER THE INPUT: true; the input reads as it did. -/
def fnExactBookPutSpec : ChangeSpec := { name := "fnExactBookPut", fn := fun _ => fun
  | [d] => { results := [.lit (.bool true)], args := [d] }
  | _ => none }
def fnExactBookPutRow : OpenClaim := { program := "ytnljgfaomabkbaa", sum := "8b883e9119498065b48bd95a4fa80c533bdec9603816113dd093503d120cacda", func := "loop.example/medlar/laws.FnExactBookPut", spec := "fnExactBookPut", inPlace := ["internal/abi.NoEscape", "internal/bytealg.MakeNoZero"], apart := false }
def FnExactBookPutSaid : Prop := fnExactBookPutRow.holds Try.pinned (OpenSpec.ofChange fnExactBookPutSpec)

/-- ITS FALSE NEIGHBOUR: 'it returns false'. Refute it at one input. -/
def fnExactBookPutWrong : ChangeSpec := { name := "fnExactBookPut", fn := fun _ => fun
  | [d] => { results := [.lit (.bool false)], args := [d] }
  | _ => none }
def FnExactBookPutWrongFalsely : Prop := fnExactBookPutRow.holds Try.pinned (OpenSpec.ofChange fnExactBookPutWrong)

/-- 'laws.FnMachineWord': WHATEVER THE INPUT: true; the input reads as it did. -/
def fnMachineWordSpec : ChangeSpec := { name := "fnMachineWord", fn := fun _ => fun
  | [d] => { results := [.lit (.bool true)], args := [d] }
  | _ => none }
def fnMachineWordRow : OpenClaim := { program := "ytnljgfaomabkbaa", sum := "8b883e9119498065b48bd95a4fa80c533bdec9603816113dd093503d120cacda", func := "loop.example/medlar/laws.FnMachineWord", spec := "fnMachineWord", apart := false }
def FnMachineWordSaid : Prop := fnMachineWordRow.holds Try.pinned (OpenSpec.ofChange fnMachineWordSpec)

/-- ITS FALSE NEIGHBOUR: 'it returns false'. Refute it at one input. -/
def fnMachineWordWrong : ChangeSpec := { name := "fnMachineWord", fn := fun _ => fun
  | [d] => { results := [.lit (.bool false)], args := [d] }
  | _ => none }
def FnMachineWordWrongFalsely : Prop := fnMachineWordRow.holds Try.pinned (OpenSpec.ofChange fnMachineWordWrong)

/-- 'laws.FnMachineKnows': WHATEVER THE INPUT: true; the input reads as it did. -/
def fnMachineKnowsSpec : ChangeSpec := { name := "fnMachineKnows", fn := fun _ => fun
  | [d] => { results := [.lit (.bool true)], args := [d] }
  | _ => none }
def fnMachineKnowsRow : OpenClaim := { program := "ytnljgfaomabkbaa", sum := "8b883e9119498065b48bd95a4fa80c533bdec9603816113dd093503d120cacda", func := "loop.example/medlar/laws.FnMachineKnows", spec := "fnMachineKnows", apart := false }
def FnMachineKnowsSaid : Prop := fnMachineKnowsRow.holds Try.pinned (OpenSpec.ofChange fnMachineKnowsSpec)

/-- ITS FALSE NEIGHBOUR: 'it returns false'. Refute it at one input. -/
def fnMachineKnowsWrong : ChangeSpec := { name := "fnMachineKnows", fn := fun _ => fun
  | [d] => { results := [.lit (.bool false)], args := [d] }
  | _ => none }
def FnMachineKnowsWrongFalsely : Prop := fnMachineKnowsRow.holds Try.pinned (OpenSpec.ofChange fnMachineKnowsWrong)

/-- 'laws.FnMachineRank': WHATEVER THE INPUT: true; the input reads as it did. -/
def fnMachineRankSpec : ChangeSpec := { name := "fnMachineRank", fn := fun _ => fun
  | [d] => { results := [.lit (.bool true)], args := [d] }
  | _ => none }
def fnMachineRankRow : OpenClaim := { program := "ytnljgfaomabkbaa", sum := "8b883e9119498065b48bd95a4fa80c533bdec9603816113dd093503d120cacda", func := "loop.example/medlar/laws.FnMachineRank", spec := "fnMachineRank", apart := false }
def FnMachineRankSaid : Prop := fnMachineRankRow.holds Try.pinned (OpenSpec.ofChange fnMachineRankSpec)

/-- ITS FALSE NEIGHBOUR: 'it returns false'. Refute it at one input. -/
def fnMachineRankWrong : ChangeSpec := { name := "fnMachineRank", fn := fun _ => fun
  | [d] => { results := [.lit (.bool false)], args := [d] }
  | _ => none }
def FnMachineRankWrongFalsely : Prop := fnMachineRankRow.holds Try.pinned (OpenSpec.ofChange fnMachineRankWrong)

/-- 'laws.FnExactDeltaOk': WHATEVER THE INPUT: true; the input reads as it did. -/
def fnExactDeltaOkSpec : ChangeSpec := { name := "fnExactDeltaOk", fn := fun _ => fun
  | [d] => { results := [.lit (.bool true)], args := [d] }
  | _ => none }
def fnExactDeltaOkRow : OpenClaim := { program := "ytnljgfaomabkbaa", sum := "8b883e9119498065b48bd95a4fa80c533bdec9603816113dd093503d120cacda", func := "loop.example/medlar/laws.FnExactDeltaOk", spec := "fnExactDeltaOk", unfollowed := true, recurses := true, apart := false }
def FnExactDeltaOkSaid : Prop := fnExactDeltaOkRow.holds Try.pinned (OpenSpec.ofChange fnExactDeltaOkSpec)

/-- ITS FALSE NEIGHBOUR: 'it returns false'. Refute it at one input. -/
def fnExactDeltaOkWrong : ChangeSpec := { name := "fnExactDeltaOk", fn := fun _ => fun
  | [d] => { results := [.lit (.bool false)], args := [d] }
  | _ => none }
def FnExactDeltaOkWrongFalsely : Prop := fnExactDeltaOkRow.holds Try.pinned (OpenSpec.ofChange fnExactDeltaOkWrong)

/-- 'laws.FnExactDeltaPut': WHATEVER THE INPUT: true; the input reads as it did. -/
def fnExactDeltaPutSpec : ChangeSpec := { name := "fnExactDeltaPut", fn := fun _ => fun
  | [d] => { results := [.lit (.bool true)], args := [d] }
  | _ => none }
def fnExactDeltaPutRow : OpenClaim := { program := "ytnljgfaomabkbaa", sum := "8b883e9119498065b48bd95a4fa80c533bdec9603816113dd093503d120cacda", func := "loop.example/medlar/laws.FnExactDeltaPut", spec := "fnExactDeltaPut", inPlace := ["internal/abi.NoEscape", "internal/bytealg.MakeNoZero"], unfollowed := true, recurses := true, apart := false }
def FnExactDeltaPutSaid : Prop := fnExactDeltaPutRow.holds Try.pinned (OpenSpec.ofChange fnExactDeltaPutSpec)

/-- ITS FALSE NEIGHBOUR: 'it returns false'. Refute it at one input. -/
def fnExactDeltaPutWrong : ChangeSpec := { name := "fnExactDeltaPut", fn := fun _ => fun
  | [d] => { results := [.lit (.bool false)], args := [d] }
  | _ => none }
def FnExactDeltaPutWrongFalsely : Prop := fnExactDeltaPutRow.holds Try.pinned (OpenSpec.ofChange fnExactDeltaPutWrong)

/-- 'laws.FnExactDeltaOf': WHATEVER THE INPUT: true; the input reads as it did. -/
def fnExactDeltaOfSpec : ChangeSpec := { name := "fnExactDeltaOf", fn := fun _ => fun
  | [d1, d2] => { results := [.lit (.bool true)], args := [d1, d2] }
  | _ => none }
def fnExactDeltaOfRow : OpenClaim := { program := "ytnljgfaomabkbaa", sum := "8b883e9119498065b48bd95a4fa80c533bdec9603816113dd093503d120cacda", func := "loop.example/medlar/laws.FnExactDeltaOf", spec := "fnExactDeltaOf", unfollowed := true, recurses := true, apart := false }
def FnExactDeltaOfSaid : Prop := fnExactDeltaOfRow.holds Try.pinned (OpenSpec.ofChange fnExactDeltaOfSpec)

/-- ITS FALSE NEIGHBOUR: 'it returns false'. Refute it at one input. -/
def fnExactDeltaOfWrong : ChangeSpec := { name := "fnExactDeltaOf", fn := fun _ => fun
  | [d1, d2] => { results := [.lit (.bool false)], args := [d1, d2] }
  | _ => none }
def FnExactDeltaOfWrongFalsely : Prop := fnExactDeltaOfRow.holds Try.pinned (OpenSpec.ofChange fnExactDeltaOfWrong)

/-- 'laws.FnDeltaOf': WHATEVER THE INPUT: true; the input reads as it did. -/
def fnDeltaOfSpec : ChangeSpec := { name := "fnDeltaOf", fn := fun _ => fun
  | [d] => { results := [.lit (.bool true)], args := [d] }
  | _ => none }
def fnDeltaOfRow : OpenClaim := { program := "ytnljgfaomabkbaa", sum := "8b883e9119498065b48bd95a4fa80c533bdec9603816113dd093503d120cacda", func := "loop.example/medlar/laws.FnDeltaOf", spec := "fnDeltaOf", unfollowed := true, recurses := true, apart := false }
def FnDeltaOfSaid : Prop := fnDeltaOfRow.holds Try.pinned (OpenSpec.ofChange fnDeltaOfSpec)

/-- ITS FALSE NEIGHBOUR: 'it returns false'. Refute it at one input. -/
def fnDeltaOfWrong : ChangeSpec := { name := "fnDeltaOf", fn := fun _ => fun
  | [d] => { results := [.lit (.bool false)], args := [d] }
  | _ => none }
def FnDeltaOfWrongFalsely : Prop := fnDeltaOfRow.holds Try.pinned (OpenSpec.ofChange fnDeltaOfWrong)

/- THE SECOND FORM. 'bulk': how many values and letters a reading holds, each counted each time it is reached (what is shared counts as often as it is met; a slice's spare places count too). A statement '..UptoSaid' is the law's where the arguments, and the package variables that the reading takes, are together of bulk at most 1048576: NARROWER than '..Said'. Prove '..Said' where nothing that the law and all that it calls make is longer than what came in: it says more and counts as full. Else prove '..UptoSaid'. A law counts once. -/
mutual
def uptoBulk {H : Type} : DataW H → Nat
  | .lit (.string bytes) => bytes.length + 1
  | .lit _ => 1
  | .nil => 1
  | .ptr d => uptoBulk d + 1
  | .slice elems spare => uptoBulkAll elems + uptoBulkAll spare + 1
  | .agg parts => uptoBulkAll parts + 1
  | .iface _ d => uptoBulk d + 1
  | .map entries => uptoBulkEntries entries + 1
  | .held _ => 1
def uptoBulkAll {H : Type} : List (DataW H) → Nat
  | [] => 0
  | d :: r => uptoBulk d + uptoBulkAll r
def uptoBulkEntries {H : Type} : List (Lit × DataW H) → Nat
  | [] => 0
  | x :: r => uptoBulkEntry x + uptoBulkEntries r
def uptoBulkEntry {H : Type} : Lit × DataW H → Nat
  | (.string bytes, d) => bytes.length + uptoBulk d + 1
  | (_, d) => uptoBulk d + 1
 end
def uptoSmall : (H : Type) → List (DataW H) → Bool := fun _ ds => decide (uptoBulkAll ds ≤ 1048576)
def OpenSpec.upto (s : _root_.Go.ChangeSpec) : _root_.Go.OpenSpec := { _root_.Go.OpenSpec.ofChange s with cond := some uptoSmall }

/-- 'laws.FnExactMachineRank', WHERE WHAT IT READS IS OF BULK AT MOST 1048576: true; the input reads as it did. -/
def fnExactMachineRankUptoRow : OpenClaim := { program := "ytnljgfaomabkbaa", sum := "8b883e9119498065b48bd95a4fa80c533bdec9603816113dd093503d120cacda", func := "loop.example/medlar/laws.FnExactMachineRank", spec := "fnExactMachineRank", apart := false, narrowed := true }
def FnExactMachineRankUptoSaid : Prop := fnExactMachineRankUptoRow.holds Try.pinned (OpenSpec.upto fnExactMachineRankSpec)

/-- 'laws.FnExactBookOk', WHERE WHAT IT READS IS OF BULK AT MOST 1048576: true; the input reads as it did. -/
def fnExactBookOkUptoRow : OpenClaim := { program := "ytnljgfaomabkbaa", sum := "8b883e9119498065b48bd95a4fa80c533bdec9603816113dd093503d120cacda", func := "loop.example/medlar/laws.FnExactBookOk", spec := "fnExactBookOk", apart := false, narrowed := true }
def FnExactBookOkUptoSaid : Prop := fnExactBookOkUptoRow.holds Try.pinned (OpenSpec.upto fnExactBookOkSpec)

/-- 'laws.FnExactBookPut', WHERE WHAT IT READS IS OF BULK AT MOST 1048576: true; the input reads as it did. -/
def fnExactBookPutUptoRow : OpenClaim := { program := "ytnljgfaomabkbaa", sum := "8b883e9119498065b48bd95a4fa80c533bdec9603816113dd093503d120cacda", func := "loop.example/medlar/laws.FnExactBookPut", spec := "fnExactBookPut", inPlace := ["internal/abi.NoEscape", "internal/bytealg.MakeNoZero"], apart := false, narrowed := true }
def FnExactBookPutUptoSaid : Prop := fnExactBookPutUptoRow.holds Try.pinned (OpenSpec.upto fnExactBookPutSpec)

/-- 'laws.FnMachineWord', WHERE WHAT IT READS IS OF BULK AT MOST 1048576: true; the input reads as it did. -/
def fnMachineWordUptoRow : OpenClaim := { program := "ytnljgfaomabkbaa", sum := "8b883e9119498065b48bd95a4fa80c533bdec9603816113dd093503d120cacda", func := "loop.example/medlar/laws.FnMachineWord", spec := "fnMachineWord", apart := false, narrowed := true }
def FnMachineWordUptoSaid : Prop := fnMachineWordUptoRow.holds Try.pinned (OpenSpec.upto fnMachineWordSpec)

/-- 'laws.FnMachineKnows', WHERE WHAT IT READS IS OF BULK AT MOST 1048576: true; the input reads as it did. -/
def fnMachineKnowsUptoRow : OpenClaim := { program := "ytnljgfaomabkbaa", sum := "8b883e9119498065b48bd95a4fa80c533bdec9603816113dd093503d120cacda", func := "loop.example/medlar/laws.FnMachineKnows", spec := "fnMachineKnows", apart := false, narrowed := true }
def FnMachineKnowsUptoSaid : Prop := fnMachineKnowsUptoRow.holds Try.pinned (OpenSpec.upto fnMachineKnowsSpec)

/-- 'laws.FnMachineRank', WHERE WHAT IT READS IS OF BULK AT MOST 1048576: true; the input reads as it did. -/
def fnMachineRankUptoRow : OpenClaim := { program := "ytnljgfaomabkbaa", sum := "8b883e9119498065b48bd95a4fa80c533bdec9603816113dd093503d120cacda", func := "loop.example/medlar/laws.FnMachineRank", spec := "fnMachineRank", apart := false, narrowed := true }
def FnMachineRankUptoSaid : Prop := fnMachineRankUptoRow.holds Try.pinned (OpenSpec.upto fnMachineRankSpec)

/-- 'laws.FnExactDeltaOk', WHERE WHAT IT READS IS OF BULK AT MOST 1048576: true; the input reads as it did. -/
def fnExactDeltaOkUptoRow : OpenClaim := { program := "ytnljgfaomabkbaa", sum := "8b883e9119498065b48bd95a4fa80c533bdec9603816113dd093503d120cacda", func := "loop.example/medlar/laws.FnExactDeltaOk", spec := "fnExactDeltaOk", unfollowed := true, recurses := true, apart := false, narrowed := true }
def FnExactDeltaOkUptoSaid : Prop := fnExactDeltaOkUptoRow.holds Try.pinned (OpenSpec.upto fnExactDeltaOkSpec)

/-- 'laws.FnExactDeltaPut', WHERE WHAT IT READS IS OF BULK AT MOST 1048576: true; the input reads as it did. -/
def fnExactDeltaPutUptoRow : OpenClaim := { program := "ytnljgfaomabkbaa", sum := "8b883e9119498065b48bd95a4fa80c533bdec9603816113dd093503d120cacda", func := "loop.example/medlar/laws.FnExactDeltaPut", spec := "fnExactDeltaPut", inPlace := ["internal/abi.NoEscape", "internal/bytealg.MakeNoZero"], unfollowed := true, recurses := true, apart := false, narrowed := true }
def FnExactDeltaPutUptoSaid : Prop := fnExactDeltaPutUptoRow.holds Try.pinned (OpenSpec.upto fnExactDeltaPutSpec)

/-- 'laws.FnExactDeltaOf', WHERE WHAT IT READS IS OF BULK AT MOST 1048576: true; the input reads as it did. -/
def fnExactDeltaOfUptoRow : OpenClaim := { program := "ytnljgfaomabkbaa", sum := "8b883e9119498065b48bd95a4fa80c533bdec9603816113dd093503d120cacda", func := "loop.example/medlar/laws.FnExactDeltaOf", spec := "fnExactDeltaOf", unfollowed := true, recurses := true, apart := false, narrowed := true }
def FnExactDeltaOfUptoSaid : Prop := fnExactDeltaOfUptoRow.holds Try.pinned (OpenSpec.upto fnExactDeltaOfSpec)

/-- 'laws.FnDeltaOf', WHERE WHAT IT READS IS OF BULK AT MOST 1048576: true; the input reads as it did. -/
def fnDeltaOfUptoRow : OpenClaim := { program := "ytnljgfaomabkbaa", sum := "8b883e9119498065b48bd95a4fa80c533bdec9603816113dd093503d120cacda", func := "loop.example/medlar/laws.FnDeltaOf", spec := "fnDeltaOf", unfollowed := true, recurses := true, apart := false, narrowed := true }
def FnDeltaOfUptoSaid : Prop := fnDeltaOfUptoRow.holds Try.pinned (OpenSpec.upto fnDeltaOfSpec)

end Rows
end Go.Proofs.Ytnljgfaomabkbaa
