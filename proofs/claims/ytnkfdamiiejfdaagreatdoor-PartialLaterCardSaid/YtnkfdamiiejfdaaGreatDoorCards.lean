/-
  DERIVED. GIVEN WITH THE SEED: THE CARDS: each row of YtnkfdamiiejfdaaGreatDoorRows.lean that lists a variable, with what it lists TIED to the program's text (the seventh form; the later family's looks); each row that meets fmt, with fmt's text TOLD by the authors' own Lean function (tested against real Go, not proved from fmt's source: count such statements apart). THE CARD IS WHAT COUNTS. Prove the row's statement (the work); the ties are given (YtnkfdamiiejfdaaGreatDoorTie.lean); close each card by the builder's one call (the guide's Derived/Test/ToyasCard.lean, 'card_holds'). Laid BY PROGRAM, IN A SANDBOX (cutbox-door.mjs). By AI agents, Wed Nov 11 2026. No macro, syntax, notation, axiom, sorry.
-/
import Derived.Test.YtnkfdamiiejfdaaGreatDoorRows
import GoSem.ClaimSeven
namespace Go.Proofs.YtnkfdamiiejfdaaGreatDoor
namespace Rows

/-- THE TIED CARD OF 'tailwaterlaw42.PartialLater'. -/
def partialLaterCard : Claim7 := { stood := { row := partialLaterRow, standIns := [], harness := (true, "9b3a0c796b69b5fdf7bd58d4eedfad4456a63841604720adcaffb44b8b6baf98"), looks := true }, kinds := [], alts := [], laidByText := true, laidKinds := [.pinned, .data, .sentinel, .sentinel, .data, .data, .data, .data, .listed], laidTests := true, laidLooks := .later }
def PartialLaterCardSaid : Prop := Claim7.holds Tryz.pinned (.plain (OpenSpec.ofChange partialLaterSpec)) partialLaterCard

/-- THE SECOND FORM's CARD OF 'tailwaterlaw42.PartialLater'. -/
def partialLaterUptoCard : Claim7 := { stood := { row := partialLaterUptoRow, standIns := [], harness := (true, "9b3a0c796b69b5fdf7bd58d4eedfad4456a63841604720adcaffb44b8b6baf98"), looks := true }, kinds := [], alts := [], laidByText := true, laidKinds := [.pinned, .data, .sentinel, .sentinel, .data, .data, .data, .data, .listed], laidTests := true, laidLooks := .later }
def PartialLaterUptoCardSaid : Prop := Claim7.holds Tryz.pinned (.plain (OpenSpec.upto partialLaterSpec)) partialLaterUptoCard
end Rows
end Go.Proofs.YtnkfdamiiejfdaaGreatDoor
