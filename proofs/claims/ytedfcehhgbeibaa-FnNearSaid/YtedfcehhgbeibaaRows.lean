/-
  No cell of these rows narrows 'for every input' (looked for: loops, veiled, ifaces, maps, wideKeys, modest, calm, conditions, laid).
  DERIVED. THE GIVEN ROWS OF THIS SEAT. 12 by the template 'for every input the law returns true; each argument reads behind the call as it read before'; 0 by the template 'total and deterministic' (their statements: YtedfcehhgbeibaaTotals.lean).
  GIVEN WITH THE SEED: the statements are not yours to turn. If you find one false, say at which input.
  Laid BY PROGRAM, IN A SANDBOX (cutbox-rows.mjs): the forced cells as the released guide's own fill.sh prints them over the translation 1bf1e097c3b118c8… (all of the seat's roots in one cut). By AI agents, Wed Nov 11 2026. No macro, syntax, notation, axiom, sorry.
-/
import Derived.Test.YtedfcehhgbeibaaChecked
import GoSem.Claim
import GoSem.ClaimJoined
import GoSem.ClaimMapViews
import Derived.JoinedTies
import Derived.KernelRfl
namespace Go.Proofs.Ytedfcehhgbeibaa
/- THE CELL 'sum', in the pinned program and in every row, IS THE sha256 OF THE DUMP (.gsa) THAT YtedfcehhgbeibaaProg.lean LOADS. Nothing in Lean hashes anything: it is a label: what it is worth is what the hold of that sum in a sandbox is worth. -/
noncomputable def Try.pinned : Pinned := { name := "ytedfcehhgbeibaa", sum := "1bf1e097c3b118c8ef92e01dd514fc599137d8879d22539c93d049d373808fb6", checked := Try.checked }
namespace Rows
def none {H : Type} : Left H := { results := [], args := [] }

/-- 'laws.FnExactForms': WHATEVER THE INPUT: true; the input reads as it did. -/
def fnExactFormsSpec : ChangeSpec := { name := "fnExactForms", fn := fun _ => fun
  | [d1, d2] => { results := [.lit (.bool true)], args := [d1, d2] }
  | _ => none }
def fnExactFormsRow : OpenClaim := { program := "ytedfcehhgbeibaa", sum := "1bf1e097c3b118c8ef92e01dd514fc599137d8879d22539c93d049d373808fb6", func := "loop.example/medlar/laws.FnExactForms", spec := "fnExactForms", inPlace := ["internal/bytealg.IndexByteString", "internal/bytealg.IndexString"], recurses := true, named := ["internal/bytealg.MaxLen"], apart := false }
def FnExactFormsSaid : Prop := fnExactFormsRow.holds Try.pinned (OpenSpec.ofChange fnExactFormsSpec)

/-- ITS FALSE NEIGHBOUR: 'it returns false'. Refute it at one input. -/
def fnExactFormsWrong : ChangeSpec := { name := "fnExactForms", fn := fun _ => fun
  | [d1, d2] => { results := [.lit (.bool false)], args := [d1, d2] }
  | _ => none }
def FnExactFormsWrongFalsely : Prop := fnExactFormsRow.holds Try.pinned (OpenSpec.ofChange fnExactFormsWrong)

/-- 'laws.FnForms': WHATEVER THE INPUT: true; the input reads as it did. -/
def fnFormsSpec : ChangeSpec := { name := "fnForms", fn := fun _ => fun
  | [d] => { results := [.lit (.bool true)], args := [d] }
  | _ => none }
def fnFormsRow : OpenClaim := { program := "ytedfcehhgbeibaa", sum := "1bf1e097c3b118c8ef92e01dd514fc599137d8879d22539c93d049d373808fb6", func := "loop.example/medlar/laws.FnForms", spec := "fnForms", inPlace := ["internal/bytealg.IndexByteString", "internal/bytealg.IndexString"], recurses := true, named := ["internal/bytealg.MaxLen"], apart := false }
def FnFormsSaid : Prop := fnFormsRow.holds Try.pinned (OpenSpec.ofChange fnFormsSpec)

/-- ITS FALSE NEIGHBOUR: 'it returns false'. Refute it at one input. -/
def fnFormsWrong : ChangeSpec := { name := "fnForms", fn := fun _ => fun
  | [d] => { results := [.lit (.bool false)], args := [d] }
  | _ => none }
def FnFormsWrongFalsely : Prop := fnFormsRow.holds Try.pinned (OpenSpec.ofChange fnFormsWrong)

/-- 'laws.FnExactBookWords': WHATEVER THE INPUT: true; the input reads as it did. -/
def fnExactBookWordsSpec : ChangeSpec := { name := "fnExactBookWords", fn := fun _ => fun
  | [d] => { results := [.lit (.bool true)], args := [d] }
  | _ => none }
def fnExactBookWordsRow : OpenClaim := { program := "ytedfcehhgbeibaa", sum := "1bf1e097c3b118c8ef92e01dd514fc599137d8879d22539c93d049d373808fb6", func := "loop.example/medlar/laws.FnExactBookWords", spec := "fnExactBookWords", inPlace := ["internal/bytealg.IndexByteString", "internal/bytealg.IndexString"], recurses := true, named := ["internal/bytealg.MaxLen"], apart := false }
def FnExactBookWordsSaid : Prop := fnExactBookWordsRow.holds Try.pinned (OpenSpec.ofChange fnExactBookWordsSpec)

/-- ITS FALSE NEIGHBOUR: 'it returns false'. Refute it at one input. -/
def fnExactBookWordsWrong : ChangeSpec := { name := "fnExactBookWords", fn := fun _ => fun
  | [d] => { results := [.lit (.bool false)], args := [d] }
  | _ => none }
def FnExactBookWordsWrongFalsely : Prop := fnExactBookWordsRow.holds Try.pinned (OpenSpec.ofChange fnExactBookWordsWrong)

/-- 'laws.FnBookWords': WHATEVER THE INPUT: true; the input reads as it did. -/
def fnBookWordsSpec : ChangeSpec := { name := "fnBookWords", fn := fun _ => fun
  | [d] => { results := [.lit (.bool true)], args := [d] }
  | _ => none }
def fnBookWordsRow : OpenClaim := { program := "ytedfcehhgbeibaa", sum := "1bf1e097c3b118c8ef92e01dd514fc599137d8879d22539c93d049d373808fb6", func := "loop.example/medlar/laws.FnBookWords", spec := "fnBookWords", inPlace := ["internal/bytealg.IndexByteString", "internal/bytealg.IndexString"], recurses := true, named := ["internal/bytealg.MaxLen"], apart := false }
def FnBookWordsSaid : Prop := fnBookWordsRow.holds Try.pinned (OpenSpec.ofChange fnBookWordsSpec)

/-- ITS FALSE NEIGHBOUR: 'it returns false'. Refute it at one input. -/
def fnBookWordsWrong : ChangeSpec := { name := "fnBookWords", fn := fun _ => fun
  | [d] => { results := [.lit (.bool false)], args := [d] }
  | _ => none }
def FnBookWordsWrongFalsely : Prop := fnBookWordsRow.holds Try.pinned (OpenSpec.ofChange fnBookWordsWrong)

/-- 'laws.FnExactBookKnows': WHATEVER THE INPUT: true; the input reads as it did. -/
def fnExactBookKnowsSpec : ChangeSpec := { name := "fnExactBookKnows", fn := fun _ => fun
  | [d1, d2] => { results := [.lit (.bool true)], args := [d1, d2] }
  | _ => none }
def fnExactBookKnowsRow : OpenClaim := { program := "ytedfcehhgbeibaa", sum := "1bf1e097c3b118c8ef92e01dd514fc599137d8879d22539c93d049d373808fb6", func := "loop.example/medlar/laws.FnExactBookKnows", spec := "fnExactBookKnows", inPlace := ["internal/bytealg.IndexByteString", "internal/bytealg.IndexString"], recurses := true, named := ["internal/bytealg.MaxLen"], apart := false }
def FnExactBookKnowsSaid : Prop := fnExactBookKnowsRow.holds Try.pinned (OpenSpec.ofChange fnExactBookKnowsSpec)

/-- ITS FALSE NEIGHBOUR: 'it returns false'. Refute it at one input. -/
def fnExactBookKnowsWrong : ChangeSpec := { name := "fnExactBookKnows", fn := fun _ => fun
  | [d1, d2] => { results := [.lit (.bool false)], args := [d1, d2] }
  | _ => none }
def FnExactBookKnowsWrongFalsely : Prop := fnExactBookKnowsRow.holds Try.pinned (OpenSpec.ofChange fnExactBookKnowsWrong)

/-- 'laws.FnBookKnows': WHATEVER THE INPUT: true; the input reads as it did. -/
def fnBookKnowsSpec : ChangeSpec := { name := "fnBookKnows", fn := fun _ => fun
  | [d] => { results := [.lit (.bool true)], args := [d] }
  | _ => none }
def fnBookKnowsRow : OpenClaim := { program := "ytedfcehhgbeibaa", sum := "1bf1e097c3b118c8ef92e01dd514fc599137d8879d22539c93d049d373808fb6", func := "loop.example/medlar/laws.FnBookKnows", spec := "fnBookKnows", inPlace := ["internal/bytealg.IndexByteString", "internal/bytealg.IndexString"], recurses := true, named := ["internal/bytealg.MaxLen"], apart := false }
def FnBookKnowsSaid : Prop := fnBookKnowsRow.holds Try.pinned (OpenSpec.ofChange fnBookKnowsSpec)

/-- ITS FALSE NEIGHBOUR: 'it returns false'. Refute it at one input. -/
def fnBookKnowsWrong : ChangeSpec := { name := "fnBookKnows", fn := fun _ => fun
  | [d] => { results := [.lit (.bool false)], args := [d] }
  | _ => none }
def FnBookKnowsWrongFalsely : Prop := fnBookKnowsRow.holds Try.pinned (OpenSpec.ofChange fnBookKnowsWrong)

/-- 'laws.FnExactBookStems': WHATEVER THE INPUT: true; the input reads as it did. -/
def fnExactBookStemsSpec : ChangeSpec := { name := "fnExactBookStems", fn := fun _ => fun
  | [d1, d2] => { results := [.lit (.bool true)], args := [d1, d2] }
  | _ => none }
def fnExactBookStemsRow : OpenClaim := { program := "ytedfcehhgbeibaa", sum := "1bf1e097c3b118c8ef92e01dd514fc599137d8879d22539c93d049d373808fb6", func := "loop.example/medlar/laws.FnExactBookStems", spec := "fnExactBookStems", inPlace := ["internal/bytealg.IndexByteString", "internal/bytealg.IndexString"], recurses := true, named := ["internal/bytealg.MaxLen"], apart := false }
def FnExactBookStemsSaid : Prop := fnExactBookStemsRow.holds Try.pinned (OpenSpec.ofChange fnExactBookStemsSpec)

/-- ITS FALSE NEIGHBOUR: 'it returns false'. Refute it at one input. -/
def fnExactBookStemsWrong : ChangeSpec := { name := "fnExactBookStems", fn := fun _ => fun
  | [d1, d2] => { results := [.lit (.bool false)], args := [d1, d2] }
  | _ => none }
def FnExactBookStemsWrongFalsely : Prop := fnExactBookStemsRow.holds Try.pinned (OpenSpec.ofChange fnExactBookStemsWrong)

/-- 'laws.FnBookStems': WHATEVER THE INPUT: true; the input reads as it did. -/
def fnBookStemsSpec : ChangeSpec := { name := "fnBookStems", fn := fun _ => fun
  | [d] => { results := [.lit (.bool true)], args := [d] }
  | _ => none }
def fnBookStemsRow : OpenClaim := { program := "ytedfcehhgbeibaa", sum := "1bf1e097c3b118c8ef92e01dd514fc599137d8879d22539c93d049d373808fb6", func := "loop.example/medlar/laws.FnBookStems", spec := "fnBookStems", inPlace := ["internal/bytealg.IndexByteString", "internal/bytealg.IndexString"], recurses := true, named := ["internal/bytealg.MaxLen"], apart := false }
def FnBookStemsSaid : Prop := fnBookStemsRow.holds Try.pinned (OpenSpec.ofChange fnBookStemsSpec)

/-- ITS FALSE NEIGHBOUR: 'it returns false'. Refute it at one input. -/
def fnBookStemsWrong : ChangeSpec := { name := "fnBookStems", fn := fun _ => fun
  | [d] => { results := [.lit (.bool false)], args := [d] }
  | _ => none }
def FnBookStemsWrongFalsely : Prop := fnBookStemsRow.holds Try.pinned (OpenSpec.ofChange fnBookStemsWrong)

/-- 'laws.FnBookMore': WHATEVER THE INPUT: true; the input reads as it did. -/
def fnBookMoreSpec : ChangeSpec := { name := "fnBookMore", fn := fun _ => fun
  | [d1, d2] => { results := [.lit (.bool true)], args := [d1, d2] }
  | _ => none }
def fnBookMoreRow : OpenClaim := { program := "ytedfcehhgbeibaa", sum := "1bf1e097c3b118c8ef92e01dd514fc599137d8879d22539c93d049d373808fb6", func := "loop.example/medlar/laws.FnBookMore", spec := "fnBookMore", inPlace := ["internal/bytealg.IndexByteString", "internal/bytealg.IndexString"], recurses := true, named := ["internal/bytealg.MaxLen"], apart := false }
def FnBookMoreSaid : Prop := fnBookMoreRow.holds Try.pinned (OpenSpec.ofChange fnBookMoreSpec)

/-- ITS FALSE NEIGHBOUR: 'it returns false'. Refute it at one input. -/
def fnBookMoreWrong : ChangeSpec := { name := "fnBookMore", fn := fun _ => fun
  | [d1, d2] => { results := [.lit (.bool false)], args := [d1, d2] }
  | _ => none }
def FnBookMoreWrongFalsely : Prop := fnBookMoreRow.holds Try.pinned (OpenSpec.ofChange fnBookMoreWrong)

/-- 'laws.FnExactNear': WHATEVER THE INPUT: true; the input reads as it did. -/
def fnExactNearSpec : ChangeSpec := { name := "fnExactNear", fn := fun _ => fun
  | [d] => { results := [.lit (.bool true)], args := [d] }
  | _ => none }
def fnExactNearRow : OpenClaim := { program := "ytedfcehhgbeibaa", sum := "1bf1e097c3b118c8ef92e01dd514fc599137d8879d22539c93d049d373808fb6", func := "loop.example/medlar/laws.FnExactNear", spec := "fnExactNear", unfollowed := true, recurses := true, apart := false }
def FnExactNearSaid : Prop := fnExactNearRow.holds Try.pinned (OpenSpec.ofChange fnExactNearSpec)

/-- ITS FALSE NEIGHBOUR: 'it returns false'. Refute it at one input. -/
def fnExactNearWrong : ChangeSpec := { name := "fnExactNear", fn := fun _ => fun
  | [d] => { results := [.lit (.bool false)], args := [d] }
  | _ => none }
def FnExactNearWrongFalsely : Prop := fnExactNearRow.holds Try.pinned (OpenSpec.ofChange fnExactNearWrong)

/-- 'laws.FnNear': WHATEVER THE INPUT: true; the input reads as it did. -/
def fnNearSpec : ChangeSpec := { name := "fnNear", fn := fun _ => fun
  | [d] => { results := [.lit (.bool true)], args := [d] }
  | _ => none }
def fnNearRow : OpenClaim := { program := "ytedfcehhgbeibaa", sum := "1bf1e097c3b118c8ef92e01dd514fc599137d8879d22539c93d049d373808fb6", func := "loop.example/medlar/laws.FnNear", spec := "fnNear", unfollowed := true, recurses := true, apart := false }
def FnNearSaid : Prop := fnNearRow.holds Try.pinned (OpenSpec.ofChange fnNearSpec)

/-- ITS FALSE NEIGHBOUR: 'it returns false'. Refute it at one input. -/
def fnNearWrong : ChangeSpec := { name := "fnNear", fn := fun _ => fun
  | [d] => { results := [.lit (.bool false)], args := [d] }
  | _ => none }
def FnNearWrongFalsely : Prop := fnNearRow.holds Try.pinned (OpenSpec.ofChange fnNearWrong)

/-- 'laws.FnNearBoth': WHATEVER THE INPUT: true; the input reads as it did. -/
def fnNearBothSpec : ChangeSpec := { name := "fnNearBoth", fn := fun _ => fun
  | [d] => { results := [.lit (.bool true)], args := [d] }
  | _ => none }
def fnNearBothRow : OpenClaim := { program := "ytedfcehhgbeibaa", sum := "1bf1e097c3b118c8ef92e01dd514fc599137d8879d22539c93d049d373808fb6", func := "loop.example/medlar/laws.FnNearBoth", spec := "fnNearBoth", unfollowed := true, recurses := true, apart := false }
def FnNearBothSaid : Prop := fnNearBothRow.holds Try.pinned (OpenSpec.ofChange fnNearBothSpec)

/-- ITS FALSE NEIGHBOUR: 'it returns false'. Refute it at one input. -/
def fnNearBothWrong : ChangeSpec := { name := "fnNearBoth", fn := fun _ => fun
  | [d] => { results := [.lit (.bool false)], args := [d] }
  | _ => none }
def FnNearBothWrongFalsely : Prop := fnNearBothRow.holds Try.pinned (OpenSpec.ofChange fnNearBothWrong)

/- THE SECOND FORM. 'bulk': how many values and letters a reading holds, each counted each time it is reached (what is shared counts as often as it is met; a slice's spare places count too). A statement '..UptoSaid' is the law's where the arguments, and the package variables that the reading takes, are together of bulk at most 1048576: NARROWER than '..Said'. Prove '..Said' where nothing that the law and all that it calls make is longer than what came in: it says more and counts as full. Else prove '..UptoSaid'. A law counts once. -/
mutual
def uptoBulk {H : Type} : DataW H → Nat
  | .lit (.string bytes) => bytes.length + 1
  | .lit _ => 1
  | .nil => 1
  | .ptr d => uptoBulk d + 1
  | .slice elems spare => uptoBulkAll elems + uptoBulkAll spare + 1
  | .agg parts => uptoBulkAll parts + 1
  | .iface _ d => uptoBulk d + 1
  | .map entries => uptoBulkEntries entries + 1
  | .held _ => 1
def uptoBulkAll {H : Type} : List (DataW H) → Nat
  | [] => 0
  | d :: r => uptoBulk d + uptoBulkAll r
def uptoBulkEntries {H : Type} : List (Lit × DataW H) → Nat
  | [] => 0
  | x :: r => uptoBulkEntry x + uptoBulkEntries r
def uptoBulkEntry {H : Type} : Lit × DataW H → Nat
  | (.string bytes, d) => bytes.length + uptoBulk d + 1
  | (_, d) => uptoBulk d + 1
 end
def uptoSmall : (H : Type) → List (DataW H) → Bool := fun _ ds => decide (uptoBulkAll ds ≤ 1048576)
def OpenSpec.upto (s : _root_.Go.ChangeSpec) : _root_.Go.OpenSpec := { _root_.Go.OpenSpec.ofChange s with cond := some uptoSmall }

/-- 'laws.FnExactForms', WHERE WHAT IT READS IS OF BULK AT MOST 1048576: true; the input reads as it did. -/
def fnExactFormsUptoRow : OpenClaim := { program := "ytedfcehhgbeibaa", sum := "1bf1e097c3b118c8ef92e01dd514fc599137d8879d22539c93d049d373808fb6", func := "loop.example/medlar/laws.FnExactForms", spec := "fnExactForms", inPlace := ["internal/bytealg.IndexByteString", "internal/bytealg.IndexString"], recurses := true, named := ["internal/bytealg.MaxLen"], apart := false, narrowed := true }
def FnExactFormsUptoSaid : Prop := fnExactFormsUptoRow.holds Try.pinned (OpenSpec.upto fnExactFormsSpec)

/-- 'laws.FnForms', WHERE WHAT IT READS IS OF BULK AT MOST 1048576: true; the input reads as it did. -/
def fnFormsUptoRow : OpenClaim := { program := "ytedfcehhgbeibaa", sum := "1bf1e097c3b118c8ef92e01dd514fc599137d8879d22539c93d049d373808fb6", func := "loop.example/medlar/laws.FnForms", spec := "fnForms", inPlace := ["internal/bytealg.IndexByteString", "internal/bytealg.IndexString"], recurses := true, named := ["internal/bytealg.MaxLen"], apart := false, narrowed := true }
def FnFormsUptoSaid : Prop := fnFormsUptoRow.holds Try.pinned (OpenSpec.upto fnFormsSpec)

/-- 'laws.FnExactBookWords', WHERE WHAT IT READS IS OF BULK AT MOST 1048576: true; the input reads as it did. -/
def fnExactBookWordsUptoRow : OpenClaim := { program := "ytedfcehhgbeibaa", sum := "1bf1e097c3b118c8ef92e01dd514fc599137d8879d22539c93d049d373808fb6", func := "loop.example/medlar/laws.FnExactBookWords", spec := "fnExactBookWords", inPlace := ["internal/bytealg.IndexByteString", "internal/bytealg.IndexString"], recurses := true, named := ["internal/bytealg.MaxLen"], apart := false, narrowed := true }
def FnExactBookWordsUptoSaid : Prop := fnExactBookWordsUptoRow.holds Try.pinned (OpenSpec.upto fnExactBookWordsSpec)

/-- 'laws.FnBookWords', WHERE WHAT IT READS IS OF BULK AT MOST 1048576: true; the input reads as it did. -/
def fnBookWordsUptoRow : OpenClaim := { program := "ytedfcehhgbeibaa", sum := "1bf1e097c3b118c8ef92e01dd514fc599137d8879d22539c93d049d373808fb6", func := "loop.example/medlar/laws.FnBookWords", spec := "fnBookWords", inPlace := ["internal/bytealg.IndexByteString", "internal/bytealg.IndexString"], recurses := true, named := ["internal/bytealg.MaxLen"], apart := false, narrowed := true }
def FnBookWordsUptoSaid : Prop := fnBookWordsUptoRow.holds Try.pinned (OpenSpec.upto fnBookWordsSpec)

/-- 'laws.FnExactBookKnows', WHERE WHAT IT READS IS OF BULK AT MOST 1048576: true; the input reads as it did. -/
def fnExactBookKnowsUptoRow : OpenClaim := { program := "ytedfcehhgbeibaa", sum := "1bf1e097c3b118c8ef92e01dd514fc599137d8879d22539c93d049d373808fb6", func := "loop.example/medlar/laws.FnExactBookKnows", spec := "fnExactBookKnows", inPlace := ["internal/bytealg.IndexByteString", "internal/bytealg.IndexString"], recurses := true, named := ["internal/bytealg.MaxLen"], apart := false, narrowed := true }
def FnExactBookKnowsUptoSaid : Prop := fnExactBookKnowsUptoRow.holds Try.pinned (OpenSpec.upto fnExactBookKnowsSpec)

/-- 'laws.FnBookKnows', WHERE WHAT IT READS IS OF BULK AT MOST 1048576: true; the input reads as it did. -/
def fnBookKnowsUptoRow : OpenClaim := { program := "ytedfcehhgbeibaa", sum := "1bf1e097c3b118c8ef92e01dd514fc599137d8879d22539c93d049d373808fb6", func := "loop.example/medlar/laws.FnBookKnows", spec := "fnBookKnows", inPlace := ["internal/bytealg.IndexByteString", "internal/bytealg.IndexString"], recurses := true, named := ["internal/bytealg.MaxLen"], apart := false, narrowed := true }
def FnBookKnowsUptoSaid : Prop := fnBookKnowsUptoRow.holds Try.pinned (OpenSpec.upto fnBookKnowsSpec)

/-- 'laws.FnExactBookStems', WHERE WHAT IT READS IS OF BULK AT MOST 1048576: true; the input reads as it did. -/
def fnExactBookStemsUptoRow : OpenClaim := { program := "ytedfcehhgbeibaa", sum := "1bf1e097c3b118c8ef92e01dd514fc599137d8879d22539c93d049d373808fb6", func := "loop.example/medlar/laws.FnExactBookStems", spec := "fnExactBookStems", inPlace := ["internal/bytealg.IndexByteString", "internal/bytealg.IndexString"], recurses := true, named := ["internal/bytealg.MaxLen"], apart := false, narrowed := true }
def FnExactBookStemsUptoSaid : Prop := fnExactBookStemsUptoRow.holds Try.pinned (OpenSpec.upto fnExactBookStemsSpec)

/-- 'laws.FnBookStems', WHERE WHAT IT READS IS OF BULK AT MOST 1048576: true; the input reads as it did. -/
def fnBookStemsUptoRow : OpenClaim := { program := "ytedfcehhgbeibaa", sum := "1bf1e097c3b118c8ef92e01dd514fc599137d8879d22539c93d049d373808fb6", func := "loop.example/medlar/laws.FnBookStems", spec := "fnBookStems", inPlace := ["internal/bytealg.IndexByteString", "internal/bytealg.IndexString"], recurses := true, named := ["internal/bytealg.MaxLen"], apart := false, narrowed := true }
def FnBookStemsUptoSaid : Prop := fnBookStemsUptoRow.holds Try.pinned (OpenSpec.upto fnBookStemsSpec)

/-- 'laws.FnBookMore', WHERE WHAT IT READS IS OF BULK AT MOST 1048576: true; the input reads as it did. -/
def fnBookMoreUptoRow : OpenClaim := { program := "ytedfcehhgbeibaa", sum := "1bf1e097c3b118c8ef92e01dd514fc599137d8879d22539c93d049d373808fb6", func := "loop.example/medlar/laws.FnBookMore", spec := "fnBookMore", inPlace := ["internal/bytealg.IndexByteString", "internal/bytealg.IndexString"], recurses := true, named := ["internal/bytealg.MaxLen"], apart := false, narrowed := true }
def FnBookMoreUptoSaid : Prop := fnBookMoreUptoRow.holds Try.pinned (OpenSpec.upto fnBookMoreSpec)

/-- 'laws.FnExactNear', WHERE WHAT IT READS IS OF BULK AT MOST 1048576: true; the input reads as it did. -/
def fnExactNearUptoRow : OpenClaim := { program := "ytedfcehhgbeibaa", sum := "1bf1e097c3b118c8ef92e01dd514fc599137d8879d22539c93d049d373808fb6", func := "loop.example/medlar/laws.FnExactNear", spec := "fnExactNear", unfollowed := true, recurses := true, apart := false, narrowed := true }
def FnExactNearUptoSaid : Prop := fnExactNearUptoRow.holds Try.pinned (OpenSpec.upto fnExactNearSpec)

/-- 'laws.FnNear', WHERE WHAT IT READS IS OF BULK AT MOST 1048576: true; the input reads as it did. -/
def fnNearUptoRow : OpenClaim := { program := "ytedfcehhgbeibaa", sum := "1bf1e097c3b118c8ef92e01dd514fc599137d8879d22539c93d049d373808fb6", func := "loop.example/medlar/laws.FnNear", spec := "fnNear", unfollowed := true, recurses := true, apart := false, narrowed := true }
def FnNearUptoSaid : Prop := fnNearUptoRow.holds Try.pinned (OpenSpec.upto fnNearSpec)

/-- 'laws.FnNearBoth', WHERE WHAT IT READS IS OF BULK AT MOST 1048576: true; the input reads as it did. -/
def fnNearBothUptoRow : OpenClaim := { program := "ytedfcehhgbeibaa", sum := "1bf1e097c3b118c8ef92e01dd514fc599137d8879d22539c93d049d373808fb6", func := "loop.example/medlar/laws.FnNearBoth", spec := "fnNearBoth", unfollowed := true, recurses := true, apart := false, narrowed := true }
def FnNearBothUptoSaid : Prop := fnNearBothUptoRow.holds Try.pinned (OpenSpec.upto fnNearBothSpec)

end Rows
end Go.Proofs.Ytedfcehhgbeibaa
