/-
  No cell of these rows narrows 'for every input' (looked for: loops, veiled, ifaces, maps, wideKeys, modest, calm, conditions, laid).
  DERIVED. THE GIVEN ROWS OF THIS SEAT. 12 by the template 'for every input the law returns true; each argument reads behind the call as it read before'; 0 by the template 'total and deterministic' (their statements: YteddmcaljongeaaTotals.lean).
  GIVEN WITH THE SEED: the statements are not yours to turn. If you find one false, say at which input.
  Laid BY PROGRAM, IN A SANDBOX (cutbox-rows.mjs): the forced cells as the released guide's own fill.sh prints them over the translation 0bb23f42a043e661… (all of the seat's roots in one cut). By AI agents, Wed Nov 11 2026. No macro, syntax, notation, axiom, sorry.
-/
import Derived.Test.YteddmcaljongeaaChecked
import GoSem.Claim
import GoSem.ClaimJoined
import GoSem.ClaimMapViews
import Derived.JoinedTies
import Derived.KernelRfl
namespace Go.Proofs.Yteddmcaljongeaa
/- THE CELL 'sum', in the pinned program and in every row, IS THE sha256 OF THE DUMP (.gsa) THAT YteddmcaljongeaaProg.lean LOADS. Nothing in Lean hashes anything: it is a label: what it is worth is what the hold of that sum in a sandbox is worth. -/
noncomputable def Try.pinned : Pinned := { name := "yteddmcaljongeaa", sum := "0bb23f42a043e6617534a6abcc4b97bc26e1121f195db85fceb00ac000f6e9b0", checked := Try.checked }
namespace Rows
def none {H : Type} : Left H := { results := [], args := [] }

/-- 'laws.FnExactAffixOk': WHATEVER THE INPUT: true; the input reads as it did. -/
def fnExactAffixOkSpec : ChangeSpec := { name := "fnExactAffixOk", fn := fun _ => fun
  | [d] => { results := [.lit (.bool true)], args := [d] }
  | _ => none }
def fnExactAffixOkRow : OpenClaim := { program := "yteddmcaljongeaa", sum := "0bb23f42a043e6617534a6abcc4b97bc26e1121f195db85fceb00ac000f6e9b0", func := "loop.example/medlar/laws.FnExactAffixOk", spec := "fnExactAffixOk", apart := false }
def FnExactAffixOkSaid : Prop := fnExactAffixOkRow.holds Try.pinned (OpenSpec.ofChange fnExactAffixOkSpec)

/-- ITS FALSE NEIGHBOUR: 'it returns false'. Refute it at one input. -/
def fnExactAffixOkWrong : ChangeSpec := { name := "fnExactAffixOk", fn := fun _ => fun
  | [d] => { results := [.lit (.bool false)], args := [d] }
  | _ => none }
def FnExactAffixOkWrongFalsely : Prop := fnExactAffixOkRow.holds Try.pinned (OpenSpec.ofChange fnExactAffixOkWrong)

/-- 'laws.FnBeginning': WHATEVER THE INPUT: true; the input reads as it did. -/
def fnBeginningSpec : ChangeSpec := { name := "fnBeginning", fn := fun _ => fun
  | [d] => { results := [.lit (.bool true)], args := [d] }
  | _ => none }
def fnBeginningRow : OpenClaim := { program := "yteddmcaljongeaa", sum := "0bb23f42a043e6617534a6abcc4b97bc26e1121f195db85fceb00ac000f6e9b0", func := "loop.example/medlar/laws.FnBeginning", spec := "fnBeginning", apart := false }
def FnBeginningSaid : Prop := fnBeginningRow.holds Try.pinned (OpenSpec.ofChange fnBeginningSpec)

/-- ITS FALSE NEIGHBOUR: 'it returns false'. Refute it at one input. -/
def fnBeginningWrong : ChangeSpec := { name := "fnBeginning", fn := fun _ => fun
  | [d] => { results := [.lit (.bool false)], args := [d] }
  | _ => none }
def FnBeginningWrongFalsely : Prop := fnBeginningRow.holds Try.pinned (OpenSpec.ofChange fnBeginningWrong)

/-- 'laws.FnExactAffixDo': WHATEVER THE INPUT: true; the input reads as it did. -/
def fnExactAffixDoSpec : ChangeSpec := { name := "fnExactAffixDo", fn := fun _ => fun
  | [d1, d2] => { results := [.lit (.bool true)], args := [d1, d2] }
  | _ => none }
def fnExactAffixDoRow : OpenClaim := { program := "yteddmcaljongeaa", sum := "0bb23f42a043e6617534a6abcc4b97bc26e1121f195db85fceb00ac000f6e9b0", func := "loop.example/medlar/laws.FnExactAffixDo", spec := "fnExactAffixDo", apart := false }
def FnExactAffixDoSaid : Prop := fnExactAffixDoRow.holds Try.pinned (OpenSpec.ofChange fnExactAffixDoSpec)

/-- ITS FALSE NEIGHBOUR: 'it returns false'. Refute it at one input. -/
def fnExactAffixDoWrong : ChangeSpec := { name := "fnExactAffixDo", fn := fun _ => fun
  | [d1, d2] => { results := [.lit (.bool false)], args := [d1, d2] }
  | _ => none }
def FnExactAffixDoWrongFalsely : Prop := fnExactAffixDoRow.holds Try.pinned (OpenSpec.ofChange fnExactAffixDoWrong)

/-- 'laws.FnExactMachineOk': WHATEVER THE INPUT: true; the input reads as it did. -/
def fnExactMachineOkSpec : ChangeSpec := { name := "fnExactMachineOk", fn := fun _ => fun
  | [d] => { results := [.lit (.bool true)], args := [d] }
  | _ => none }
def fnExactMachineOkRow : OpenClaim := { program := "yteddmcaljongeaa", sum := "0bb23f42a043e6617534a6abcc4b97bc26e1121f195db85fceb00ac000f6e9b0", func := "loop.example/medlar/laws.FnExactMachineOk", spec := "fnExactMachineOk", apart := false }
def FnExactMachineOkSaid : Prop := fnExactMachineOkRow.holds Try.pinned (OpenSpec.ofChange fnExactMachineOkSpec)

/-- ITS FALSE NEIGHBOUR: 'it returns false'. Refute it at one input. -/
def fnExactMachineOkWrong : ChangeSpec := { name := "fnExactMachineOk", fn := fun _ => fun
  | [d] => { results := [.lit (.bool false)], args := [d] }
  | _ => none }
def FnExactMachineOkWrongFalsely : Prop := fnExactMachineOkRow.holds Try.pinned (OpenSpec.ofChange fnExactMachineOkWrong)

/-- 'laws.FnFar': WHATEVER THE INPUT: true; the input reads as it did. -/
def fnFarSpec : ChangeSpec := { name := "fnFar", fn := fun _ => fun
  | [d] => { results := [.lit (.bool true)], args := [d] }
  | _ => none }
def fnFarRow : OpenClaim := { program := "yteddmcaljongeaa", sum := "0bb23f42a043e6617534a6abcc4b97bc26e1121f195db85fceb00ac000f6e9b0", func := "loop.example/medlar/laws.FnFar", spec := "fnFar", apart := false }
def FnFarSaid : Prop := fnFarRow.holds Try.pinned (OpenSpec.ofChange fnFarSpec)

/-- ITS FALSE NEIGHBOUR: 'it returns false'. Refute it at one input. -/
def fnFarWrong : ChangeSpec := { name := "fnFar", fn := fun _ => fun
  | [d] => { results := [.lit (.bool false)], args := [d] }
  | _ => none }
def FnFarWrongFalsely : Prop := fnFarRow.holds Try.pinned (OpenSpec.ofChange fnFarWrong)

/-- 'laws.FnWithin': WHATEVER THE INPUT: true; the input reads as it did. -/
def fnWithinSpec : ChangeSpec := { name := "fnWithin", fn := fun _ => fun
  | [d] => { results := [.lit (.bool true)], args := [d] }
  | _ => none }
def fnWithinRow : OpenClaim := { program := "yteddmcaljongeaa", sum := "0bb23f42a043e6617534a6abcc4b97bc26e1121f195db85fceb00ac000f6e9b0", func := "loop.example/medlar/laws.FnWithin", spec := "fnWithin", apart := false }
def FnWithinSaid : Prop := fnWithinRow.holds Try.pinned (OpenSpec.ofChange fnWithinSpec)

/-- ITS FALSE NEIGHBOUR: 'it returns false'. Refute it at one input. -/
def fnWithinWrong : ChangeSpec := { name := "fnWithin", fn := fun _ => fun
  | [d] => { results := [.lit (.bool false)], args := [d] }
  | _ => none }
def FnWithinWrongFalsely : Prop := fnWithinRow.holds Try.pinned (OpenSpec.ofChange fnWithinWrong)

/-- 'laws.FnExactAffixBack': WHATEVER THE INPUT: true; the input reads as it did. -/
def fnExactAffixBackSpec : ChangeSpec := { name := "fnExactAffixBack", fn := fun _ => fun
  | [d1, d2] => { results := [.lit (.bool true)], args := [d1, d2] }
  | _ => none }
def fnExactAffixBackRow : OpenClaim := { program := "yteddmcaljongeaa", sum := "0bb23f42a043e6617534a6abcc4b97bc26e1121f195db85fceb00ac000f6e9b0", func := "loop.example/medlar/laws.FnExactAffixBack", spec := "fnExactAffixBack", apart := false }
def FnExactAffixBackSaid : Prop := fnExactAffixBackRow.holds Try.pinned (OpenSpec.ofChange fnExactAffixBackSpec)

/-- ITS FALSE NEIGHBOUR: 'it returns false'. Refute it at one input. -/
def fnExactAffixBackWrong : ChangeSpec := { name := "fnExactAffixBack", fn := fun _ => fun
  | [d1, d2] => { results := [.lit (.bool false)], args := [d1, d2] }
  | _ => none }
def FnExactAffixBackWrongFalsely : Prop := fnExactAffixBackRow.holds Try.pinned (OpenSpec.ofChange fnExactAffixBackWrong)

/-- 'laws.FnExactMachineCount': WHATEVER THE INPUT: true; the input reads as it did. -/
def fnExactMachineCountSpec : ChangeSpec := { name := "fnExactMachineCount", fn := fun _ => fun
  | [d] => { results := [.lit (.bool true)], args := [d] }
  | _ => none }
def fnExactMachineCountRow : OpenClaim := { program := "yteddmcaljongeaa", sum := "0bb23f42a043e6617534a6abcc4b97bc26e1121f195db85fceb00ac000f6e9b0", func := "loop.example/medlar/laws.FnExactMachineCount", spec := "fnExactMachineCount", apart := false }
def FnExactMachineCountSaid : Prop := fnExactMachineCountRow.holds Try.pinned (OpenSpec.ofChange fnExactMachineCountSpec)

/-- ITS FALSE NEIGHBOUR: 'it returns false'. Refute it at one input. -/
def fnExactMachineCountWrong : ChangeSpec := { name := "fnExactMachineCount", fn := fun _ => fun
  | [d] => { results := [.lit (.bool false)], args := [d] }
  | _ => none }
def FnExactMachineCountWrongFalsely : Prop := fnExactMachineCountRow.holds Try.pinned (OpenSpec.ofChange fnExactMachineCountWrong)

/-- 'laws.FnExactMachineKnows': WHATEVER THE INPUT: true; the input reads as it did. -/
def fnExactMachineKnowsSpec : ChangeSpec := { name := "fnExactMachineKnows", fn := fun _ => fun
  | [d1, d2] => { results := [.lit (.bool true)], args := [d1, d2] }
  | _ => none }
def fnExactMachineKnowsRow : OpenClaim := { program := "yteddmcaljongeaa", sum := "0bb23f42a043e6617534a6abcc4b97bc26e1121f195db85fceb00ac000f6e9b0", func := "loop.example/medlar/laws.FnExactMachineKnows", spec := "fnExactMachineKnows", apart := false }
def FnExactMachineKnowsSaid : Prop := fnExactMachineKnowsRow.holds Try.pinned (OpenSpec.ofChange fnExactMachineKnowsSpec)

/-- ITS FALSE NEIGHBOUR: 'it returns false'. Refute it at one input. -/
def fnExactMachineKnowsWrong : ChangeSpec := { name := "fnExactMachineKnows", fn := fun _ => fun
  | [d1, d2] => { results := [.lit (.bool false)], args := [d1, d2] }
  | _ => none }
def FnExactMachineKnowsWrongFalsely : Prop := fnExactMachineKnowsRow.holds Try.pinned (OpenSpec.ofChange fnExactMachineKnowsWrong)

/-- 'laws.FnAffixDo': WHATEVER THE INPUT: true; the input reads as it did. -/
def fnAffixDoSpec : ChangeSpec := { name := "fnAffixDo", fn := fun _ => fun
  | [d] => { results := [.lit (.bool true)], args := [d] }
  | _ => none }
def fnAffixDoRow : OpenClaim := { program := "yteddmcaljongeaa", sum := "0bb23f42a043e6617534a6abcc4b97bc26e1121f195db85fceb00ac000f6e9b0", func := "loop.example/medlar/laws.FnAffixDo", spec := "fnAffixDo", apart := false }
def FnAffixDoSaid : Prop := fnAffixDoRow.holds Try.pinned (OpenSpec.ofChange fnAffixDoSpec)

/-- ITS FALSE NEIGHBOUR: 'it returns false'. Refute it at one input. -/
def fnAffixDoWrong : ChangeSpec := { name := "fnAffixDo", fn := fun _ => fun
  | [d] => { results := [.lit (.bool false)], args := [d] }
  | _ => none }
def FnAffixDoWrongFalsely : Prop := fnAffixDoRow.holds Try.pinned (OpenSpec.ofChange fnAffixDoWrong)

/-- 'laws.FnExactMachineWord': WHATEVER THE INPUT: true; the input reads as it did. -/
def fnExactMachineWordSpec : ChangeSpec := { name := "fnExactMachineWord", fn := fun _ => fun
  | [d1, d2] => { results := [.lit (.bool true)], args := [d1, d2] }
  | _ => none }
def fnExactMachineWordRow : OpenClaim := { program := "yteddmcaljongeaa", sum := "0bb23f42a043e6617534a6abcc4b97bc26e1121f195db85fceb00ac000f6e9b0", func := "loop.example/medlar/laws.FnExactMachineWord", spec := "fnExactMachineWord", apart := false }
def FnExactMachineWordSaid : Prop := fnExactMachineWordRow.holds Try.pinned (OpenSpec.ofChange fnExactMachineWordSpec)

/-- ITS FALSE NEIGHBOUR: 'it returns false'. Refute it at one input. -/
def fnExactMachineWordWrong : ChangeSpec := { name := "fnExactMachineWord", fn := fun _ => fun
  | [d1, d2] => { results := [.lit (.bool false)], args := [d1, d2] }
  | _ => none }
def FnExactMachineWordWrongFalsely : Prop := fnExactMachineWordRow.holds Try.pinned (OpenSpec.ofChange fnExactMachineWordWrong)

/-- 'laws.FnAffixBack': WHATEVER THE INPUT: true; the input reads as it did. -/
def fnAffixBackSpec : ChangeSpec := { name := "fnAffixBack", fn := fun _ => fun
  | [d] => { results := [.lit (.bool true)], args := [d] }
  | _ => none }
def fnAffixBackRow : OpenClaim := { program := "yteddmcaljongeaa", sum := "0bb23f42a043e6617534a6abcc4b97bc26e1121f195db85fceb00ac000f6e9b0", func := "loop.example/medlar/laws.FnAffixBack", spec := "fnAffixBack", apart := false }
def FnAffixBackSaid : Prop := fnAffixBackRow.holds Try.pinned (OpenSpec.ofChange fnAffixBackSpec)

/-- ITS FALSE NEIGHBOUR: 'it returns false'. Refute it at one input. -/
def fnAffixBackWrong : ChangeSpec := { name := "fnAffixBack", fn := fun _ => fun
  | [d] => { results := [.lit (.bool false)], args := [d] }
  | _ => none }
def FnAffixBackWrongFalsely : Prop := fnAffixBackRow.holds Try.pinned (OpenSpec.ofChange fnAffixBackWrong)

/- THE SECOND FORM. 'bulk': how many values and letters a reading holds, each counted each time it is reached (what is shared counts as often as it is met; a slice's spare places count too). A statement '..UptoSaid' is the law's where the arguments, and the package variables that the reading takes, are together of bulk at most 1048576: NARROWER than '..Said'. Prove '..Said' where nothing that the law and all that it calls make is longer than what came in: it says more and counts as full. Else prove '..UptoSaid'. A law counts once. -/
mutual
def uptoBulk {H : Type} : DataW H → Nat
  | .lit (.string bytes) => bytes.length + 1
  | .lit _ => 1
  | .nil => 1
  | .ptr d => uptoBulk d + 1
  | .slice elems spare => uptoBulkAll elems + uptoBulkAll spare + 1
  | .agg parts => uptoBulkAll parts + 1
  | .iface _ d => uptoBulk d + 1
  | .map entries => uptoBulkEntries entries + 1
  | .held _ => 1
def uptoBulkAll {H : Type} : List (DataW H) → Nat
  | [] => 0
  | d :: r => uptoBulk d + uptoBulkAll r
def uptoBulkEntries {H : Type} : List (Lit × DataW H) → Nat
  | [] => 0
  | x :: r => uptoBulkEntry x + uptoBulkEntries r
def uptoBulkEntry {H : Type} : Lit × DataW H → Nat
  | (.string bytes, d) => bytes.length + uptoBulk d + 1
  | (_, d) => uptoBulk d + 1
 end
def uptoSmall : (H : Type) → List (DataW H) → Bool := fun _ ds => decide (uptoBulkAll ds ≤ 1048576)
def OpenSpec.upto (s : _root_.Go.ChangeSpec) : _root_.Go.OpenSpec := { _root_.Go.OpenSpec.ofChange s with cond := some uptoSmall }

/-- 'laws.FnExactAffixOk', WHERE WHAT IT READS IS OF BULK AT MOST 1048576: true; the input reads as it did. -/
def fnExactAffixOkUptoRow : OpenClaim := { program := "yteddmcaljongeaa", sum := "0bb23f42a043e6617534a6abcc4b97bc26e1121f195db85fceb00ac000f6e9b0", func := "loop.example/medlar/laws.FnExactAffixOk", spec := "fnExactAffixOk", apart := false, narrowed := true }
def FnExactAffixOkUptoSaid : Prop := fnExactAffixOkUptoRow.holds Try.pinned (OpenSpec.upto fnExactAffixOkSpec)

/-- 'laws.FnBeginning', WHERE WHAT IT READS IS OF BULK AT MOST 1048576: true; the input reads as it did. -/
def fnBeginningUptoRow : OpenClaim := { program := "yteddmcaljongeaa", sum := "0bb23f42a043e6617534a6abcc4b97bc26e1121f195db85fceb00ac000f6e9b0", func := "loop.example/medlar/laws.FnBeginning", spec := "fnBeginning", apart := false, narrowed := true }
def FnBeginningUptoSaid : Prop := fnBeginningUptoRow.holds Try.pinned (OpenSpec.upto fnBeginningSpec)

/-- 'laws.FnExactAffixDo', WHERE WHAT IT READS IS OF BULK AT MOST 1048576: true; the input reads as it did. -/
def fnExactAffixDoUptoRow : OpenClaim := { program := "yteddmcaljongeaa", sum := "0bb23f42a043e6617534a6abcc4b97bc26e1121f195db85fceb00ac000f6e9b0", func := "loop.example/medlar/laws.FnExactAffixDo", spec := "fnExactAffixDo", apart := false, narrowed := true }
def FnExactAffixDoUptoSaid : Prop := fnExactAffixDoUptoRow.holds Try.pinned (OpenSpec.upto fnExactAffixDoSpec)

/-- 'laws.FnExactMachineOk', WHERE WHAT IT READS IS OF BULK AT MOST 1048576: true; the input reads as it did. -/
def fnExactMachineOkUptoRow : OpenClaim := { program := "yteddmcaljongeaa", sum := "0bb23f42a043e6617534a6abcc4b97bc26e1121f195db85fceb00ac000f6e9b0", func := "loop.example/medlar/laws.FnExactMachineOk", spec := "fnExactMachineOk", apart := false, narrowed := true }
def FnExactMachineOkUptoSaid : Prop := fnExactMachineOkUptoRow.holds Try.pinned (OpenSpec.upto fnExactMachineOkSpec)

/-- 'laws.FnFar', WHERE WHAT IT READS IS OF BULK AT MOST 1048576: true; the input reads as it did. -/
def fnFarUptoRow : OpenClaim := { program := "yteddmcaljongeaa", sum := "0bb23f42a043e6617534a6abcc4b97bc26e1121f195db85fceb00ac000f6e9b0", func := "loop.example/medlar/laws.FnFar", spec := "fnFar", apart := false, narrowed := true }
def FnFarUptoSaid : Prop := fnFarUptoRow.holds Try.pinned (OpenSpec.upto fnFarSpec)

/-- 'laws.FnWithin', WHERE WHAT IT READS IS OF BULK AT MOST 1048576: true; the input reads as it did. -/
def fnWithinUptoRow : OpenClaim := { program := "yteddmcaljongeaa", sum := "0bb23f42a043e6617534a6abcc4b97bc26e1121f195db85fceb00ac000f6e9b0", func := "loop.example/medlar/laws.FnWithin", spec := "fnWithin", apart := false, narrowed := true }
def FnWithinUptoSaid : Prop := fnWithinUptoRow.holds Try.pinned (OpenSpec.upto fnWithinSpec)

/-- 'laws.FnExactAffixBack', WHERE WHAT IT READS IS OF BULK AT MOST 1048576: true; the input reads as it did. -/
def fnExactAffixBackUptoRow : OpenClaim := { program := "yteddmcaljongeaa", sum := "0bb23f42a043e6617534a6abcc4b97bc26e1121f195db85fceb00ac000f6e9b0", func := "loop.example/medlar/laws.FnExactAffixBack", spec := "fnExactAffixBack", apart := false, narrowed := true }
def FnExactAffixBackUptoSaid : Prop := fnExactAffixBackUptoRow.holds Try.pinned (OpenSpec.upto fnExactAffixBackSpec)

/-- 'laws.FnExactMachineCount', WHERE WHAT IT READS IS OF BULK AT MOST 1048576: true; the input reads as it did. -/
def fnExactMachineCountUptoRow : OpenClaim := { program := "yteddmcaljongeaa", sum := "0bb23f42a043e6617534a6abcc4b97bc26e1121f195db85fceb00ac000f6e9b0", func := "loop.example/medlar/laws.FnExactMachineCount", spec := "fnExactMachineCount", apart := false, narrowed := true }
def FnExactMachineCountUptoSaid : Prop := fnExactMachineCountUptoRow.holds Try.pinned (OpenSpec.upto fnExactMachineCountSpec)

/-- 'laws.FnExactMachineKnows', WHERE WHAT IT READS IS OF BULK AT MOST 1048576: true; the input reads as it did. -/
def fnExactMachineKnowsUptoRow : OpenClaim := { program := "yteddmcaljongeaa", sum := "0bb23f42a043e6617534a6abcc4b97bc26e1121f195db85fceb00ac000f6e9b0", func := "loop.example/medlar/laws.FnExactMachineKnows", spec := "fnExactMachineKnows", apart := false, narrowed := true }
def FnExactMachineKnowsUptoSaid : Prop := fnExactMachineKnowsUptoRow.holds Try.pinned (OpenSpec.upto fnExactMachineKnowsSpec)

/-- 'laws.FnAffixDo', WHERE WHAT IT READS IS OF BULK AT MOST 1048576: true; the input reads as it did. -/
def fnAffixDoUptoRow : OpenClaim := { program := "yteddmcaljongeaa", sum := "0bb23f42a043e6617534a6abcc4b97bc26e1121f195db85fceb00ac000f6e9b0", func := "loop.example/medlar/laws.FnAffixDo", spec := "fnAffixDo", apart := false, narrowed := true }
def FnAffixDoUptoSaid : Prop := fnAffixDoUptoRow.holds Try.pinned (OpenSpec.upto fnAffixDoSpec)

/-- 'laws.FnExactMachineWord', WHERE WHAT IT READS IS OF BULK AT MOST 1048576: true; the input reads as it did. -/
def fnExactMachineWordUptoRow : OpenClaim := { program := "yteddmcaljongeaa", sum := "0bb23f42a043e6617534a6abcc4b97bc26e1121f195db85fceb00ac000f6e9b0", func := "loop.example/medlar/laws.FnExactMachineWord", spec := "fnExactMachineWord", apart := false, narrowed := true }
def FnExactMachineWordUptoSaid : Prop := fnExactMachineWordUptoRow.holds Try.pinned (OpenSpec.upto fnExactMachineWordSpec)

/-- 'laws.FnAffixBack', WHERE WHAT IT READS IS OF BULK AT MOST 1048576: true; the input reads as it did. -/
def fnAffixBackUptoRow : OpenClaim := { program := "yteddmcaljongeaa", sum := "0bb23f42a043e6617534a6abcc4b97bc26e1121f195db85fceb00ac000f6e9b0", func := "loop.example/medlar/laws.FnAffixBack", spec := "fnAffixBack", apart := false, narrowed := true }
def FnAffixBackUptoSaid : Prop := fnAffixBackUptoRow.holds Try.pinned (OpenSpec.upto fnAffixBackSpec)

end Rows
end Go.Proofs.Yteddmcaljongeaa
