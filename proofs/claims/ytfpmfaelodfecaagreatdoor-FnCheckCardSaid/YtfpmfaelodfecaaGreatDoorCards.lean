/-
  DERIVED. GIVEN WITH THE SEED: THE CARDS: each row of YtfpmfaelodfecaaGreatDoorRows.lean that lists a variable, with what it lists TIED to the program's text (the seventh form; the later family's looks); each row that meets fmt, with fmt's text TOLD by the authors' own Lean function (tested against real Go, not proved from fmt's source: count such statements apart). THE CARD IS WHAT COUNTS. Prove the row's statement (the work); the ties are given (YtfpmfaelodfecaaGreatDoorTie.lean); close each card by the builder's one call (the guide's Derived/Test/ToyasCard.lean, 'card_holds'). Laid BY PROGRAM, IN A SANDBOX (cutbox-door.mjs). By AI agents, Wed Nov 11 2026. No macro, syntax, notation, axiom, sorry.
-/
import Derived.Test.YtfpmfaelodfecaaGreatDoorRows
import GoSem.ClaimSeven
namespace Go.Proofs.YtfpmfaelodfecaaGreatDoor
namespace Rows

/-- THE TIED CARD OF 'laws.FnExactCheck'. -/
def fnExactCheckCard : Claim7 := { stood := { row := fnExactCheckRow, standIns := [], harness := (true, "2b118f5a32ee64feb1e335d900598c1d13bb9edfd7950d080a505dfd94ca2b6c"), looks := false }, kinds := [], alts := [], laidByText := true, laidKinds := [.data, .pinned, .pinned], laidTests := true, laidLooks := .later }
def FnExactCheckCardSaid : Prop := Claim7.holds Tryz.pinned (.plain (OpenSpec.ofChange fnExactCheckSpec)) fnExactCheckCard

/-- THE TIED CARD OF 'laws.FnCheck'. -/
def fnCheckCard : Claim7 := { stood := { row := fnCheckRow, standIns := [], harness := (true, "2b118f5a32ee64feb1e335d900598c1d13bb9edfd7950d080a505dfd94ca2b6c"), looks := false }, kinds := [], alts := [], laidByText := true, laidKinds := [.data, .pinned, .pinned], laidTests := true, laidLooks := .later }
def FnCheckCardSaid : Prop := Claim7.holds Tryz.pinned (.plain (OpenSpec.ofChange fnCheckSpec)) fnCheckCard

/-- THE SECOND FORM's CARD OF 'laws.FnExactCheck'. -/
def fnExactCheckUptoCard : Claim7 := { stood := { row := fnExactCheckUptoRow, standIns := [], harness := (true, "2b118f5a32ee64feb1e335d900598c1d13bb9edfd7950d080a505dfd94ca2b6c"), looks := false }, kinds := [], alts := [], laidByText := true, laidKinds := [.data, .pinned, .pinned], laidTests := true, laidLooks := .later }
def FnExactCheckUptoCardSaid : Prop := Claim7.holds Tryz.pinned (.plain (OpenSpec.upto fnExactCheckSpec)) fnExactCheckUptoCard

/-- THE SECOND FORM's CARD OF 'laws.FnCheck'. -/
def fnCheckUptoCard : Claim7 := { stood := { row := fnCheckUptoRow, standIns := [], harness := (true, "2b118f5a32ee64feb1e335d900598c1d13bb9edfd7950d080a505dfd94ca2b6c"), looks := false }, kinds := [], alts := [], laidByText := true, laidKinds := [.data, .pinned, .pinned], laidTests := true, laidLooks := .later }
def FnCheckUptoCardSaid : Prop := Claim7.holds Tryz.pinned (.plain (OpenSpec.upto fnCheckSpec)) fnCheckUptoCard
end Rows
end Go.Proofs.YtfpmfaelodfecaaGreatDoor
