/-
  DERIVED. GIVEN WITH THE SEED: THE CARDS: each row of YtoggmnlkaphgcaaGreatDoorRows.lean that lists a variable, with what it lists TIED to the program's text (the seventh form; the later family's looks); each row that meets fmt, with fmt's text TOLD by the authors' own Lean function (tested against real Go, not proved from fmt's source: count such statements apart). THE CARD IS WHAT COUNTS. Prove the row's statement (the work); the ties are given (YtoggmnlkaphgcaaGreatDoorTie.lean); close each card by the builder's one call (the guide's Derived/Test/ToyasCard.lean, 'card_holds'). Laid BY PROGRAM, IN A SANDBOX (cutbox-door.mjs). By AI agents, Wed Nov 11 2026. No macro, syntax, notation, axiom, sorry.
-/
import Derived.Test.YtoggmnlkaphgcaaGreatDoorRows
import GoSem.ClaimSeven
namespace Go.Proofs.YtoggmnlkaphgcaaGreatDoor
namespace Rows

/-- THE TIED CARD OF 'tailwaterlaw44.OptionsNames'. -/
def optionsNamesCard : Claim7 := { stood := { row := optionsNamesRow, standIns := [], harness := (true, "1028d2dfeb80d635a85cb9e5c864ac9c190e5e432f725d5d2ee1819d58b374d9"), looks := true }, kinds := [], alts := [], laidByText := true, laidKinds := [.pinned, .data, .sentinel, .sentinel, .data, .data, .data, .data, .listed], laidTests := true, laidLooks := .later }
def OptionsNamesCardSaid : Prop := Claim7.holds Tryz.pinned (.plain (OpenSpec.ofChange optionsNamesSpec)) optionsNamesCard

/-- THE SECOND FORM's CARD OF 'tailwaterlaw44.OptionsNames'. -/
def optionsNamesUptoCard : Claim7 := { stood := { row := optionsNamesUptoRow, standIns := [], harness := (true, "1028d2dfeb80d635a85cb9e5c864ac9c190e5e432f725d5d2ee1819d58b374d9"), looks := true }, kinds := [], alts := [], laidByText := true, laidKinds := [.pinned, .data, .sentinel, .sentinel, .data, .data, .data, .data, .listed], laidTests := true, laidLooks := .later }
def OptionsNamesUptoCardSaid : Prop := Claim7.holds Tryz.pinned (.plain (OpenSpec.upto optionsNamesSpec)) optionsNamesUptoCard
end Rows
end Go.Proofs.YtoggmnlkaphgcaaGreatDoor
