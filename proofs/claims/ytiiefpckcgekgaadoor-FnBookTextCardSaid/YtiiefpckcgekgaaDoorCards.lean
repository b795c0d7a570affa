/-
  DERIVED. GIVEN WITH THE SEED: THE CARDS: each row of YtiiefpckcgekgaaDoorRows.lean that lists a variable, with what it lists TIED to the program's text (the seventh form; the later family's looks); each row that meets fmt, with fmt's text TOLD by the authors' own Lean function (tested against real Go, not proved from fmt's source: count such statements apart). THE CARD IS WHAT COUNTS. Prove the row's statement (the work); the ties are given (YtiiefpckcgekgaaDoorTie.lean); close each card by the builder's one call (the guide's Derived/Test/ToyasCard.lean, 'card_holds'). Laid BY PROGRAM, IN A SANDBOX (cutbox-door.mjs). By AI agents, Wed Nov 11 2026. No macro, syntax, notation, axiom, sorry.
-/
import Derived.Test.YtiiefpckcgekgaaDoorRows
import GoSem.ClaimSeven
namespace Go.Proofs.YtiiefpckcgekgaaDoor
namespace Rows

/-- THE TIED CARD OF 'laws.FnExactBookGet'. -/
def fnExactBookGetCard : Claim7 := { stood := { row := fnExactBookGetRow, standIns := [], harness := (true, "9784c993ac26f510419d63e016742bfd3f1e89e0b8cb7ef1be706d10ede47d53"), looks := false }, kinds := [], alts := [], laidByText := true, laidKinds := [.data, .pinned], laidTests := true, laidLooks := .later }
def FnExactBookGetCardSaid : Prop := Claim7.holds Tryd.pinned (.plain (OpenSpec.ofChange fnExactBookGetSpec)) fnExactBookGetCard

/-- THE TIED CARD OF 'laws.FnBookText'. -/
def fnBookTextCard : Claim7 := { stood := { row := fnBookTextRow, standIns := [], harness := (true, "9784c993ac26f510419d63e016742bfd3f1e89e0b8cb7ef1be706d10ede47d53"), looks := false }, kinds := [], alts := [], laidByText := true, laidKinds := [.data, .pinned], laidTests := true, laidLooks := .later }
def FnBookTextCardSaid : Prop := Claim7.holds Tryd.pinned (.plain (OpenSpec.ofChange fnBookTextSpec)) fnBookTextCard

/-- THE SECOND FORM's CARD OF 'laws.FnExactBookGet'. -/
def fnExactBookGetUptoCard : Claim7 := { stood := { row := fnExactBookGetUptoRow, standIns := [], harness := (true, "9784c993ac26f510419d63e016742bfd3f1e89e0b8cb7ef1be706d10ede47d53"), looks := false }, kinds := [], alts := [], laidByText := true, laidKinds := [.data, .pinned], laidTests := true, laidLooks := .later }
def FnExactBookGetUptoCardSaid : Prop := Claim7.holds Tryd.pinned (.plain (OpenSpec.upto fnExactBookGetSpec)) fnExactBookGetUptoCard

/-- THE SECOND FORM's CARD OF 'laws.FnBookText'. -/
def fnBookTextUptoCard : Claim7 := { stood := { row := fnBookTextUptoRow, standIns := [], harness := (true, "9784c993ac26f510419d63e016742bfd3f1e89e0b8cb7ef1be706d10ede47d53"), looks := false }, kinds := [], alts := [], laidByText := true, laidKinds := [.data, .pinned], laidTests := true, laidLooks := .later }
def FnBookTextUptoCardSaid : Prop := Claim7.holds Tryd.pinned (.plain (OpenSpec.upto fnBookTextSpec)) fnBookTextUptoCard
end Rows
end Go.Proofs.YtiiefpckcgekgaaDoor
