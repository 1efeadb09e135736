/-
  DERIVED. GIVEN WITH THE SEED: THE CARDS: each row of YtmodjehiebcejaaGreatDoorRows.lean that lists a variable, with what it lists TIED to the program's text (the seventh form; the later family's looks); each row that meets fmt, with fmt's text TOLD by the authors' own Lean function (tested against real Go, not proved from fmt's source: count such statements apart). THE CARD IS WHAT COUNTS. Prove the row's statement (the work); the ties are given (YtmodjehiebcejaaGreatDoorTie.lean); close each card by the builder's one call (the guide's Derived/Test/ToyasCard.lean, 'card_holds'). Laid BY PROGRAM, IN A SANDBOX (cutbox-door.mjs). By AI agents, Wed Nov 11 2026. No macro, syntax, notation, axiom, sorry.
-/
import Derived.Test.YtmodjehiebcejaaGreatDoorRows
import GoSem.ClaimSeven
namespace Go.Proofs.YtmodjehiebcejaaGreatDoor
namespace Rows

/-- THE TIED CARD OF 'tailwaterlaw42.PartialNames'. -/
def partialNamesCard : Claim7 := { stood := { row := partialNamesRow, standIns := [], harness := (true, "1a7a8abc5a8453bbb08f9d36c923799514c4aa8fe081822b57968b7ec3b1c1a8"), looks := true }, kinds := [], alts := [], laidByText := true, laidKinds := [.pinned, .data, .sentinel, .sentinel, .data, .data, .data, .data, .listed], laidTests := true, laidLooks := .later }
def PartialNamesCardSaid : Prop := Claim7.holds Tryz.pinned (.plain (OpenSpec.ofChange partialNamesSpec)) partialNamesCard

/-- THE TIED CARD OF 'tailwaterlaw41.FinalNames'. -/
def finalNamesCard : Claim7 := { stood := { row := finalNamesRow, standIns := [], harness := (true, "1a7a8abc5a8453bbb08f9d36c923799514c4aa8fe081822b57968b7ec3b1c1a8"), looks := true }, kinds := [], alts := [], laidByText := true, laidKinds := [.pinned, .data, .sentinel, .sentinel, .data, .data, .data, .data, .listed], laidTests := true, laidLooks := .later }
def FinalNamesCardSaid : Prop := Claim7.holds Tryz.pinned (.plain (OpenSpec.ofChange finalNamesSpec)) finalNamesCard

/-- THE SECOND FORM's CARD OF 'tailwaterlaw42.PartialNames'. -/
def partialNamesUptoCard : Claim7 := { stood := { row := partialNamesUptoRow, standIns := [], harness := (true, "1a7a8abc5a8453bbb08f9d36c923799514c4aa8fe081822b57968b7ec3b1c1a8"), looks := true }, kinds := [], alts := [], laidByText := true, laidKinds := [.pinned, .data, .sentinel, .sentinel, .data, .data, .data, .data, .listed], laidTests := true, laidLooks := .later }
def PartialNamesUptoCardSaid : Prop := Claim7.holds Tryz.pinned (.plain (OpenSpec.upto partialNamesSpec)) partialNamesUptoCard

/-- THE SECOND FORM's CARD OF 'tailwaterlaw41.FinalNames'. -/
def finalNamesUptoCard : Claim7 := { stood := { row := finalNamesUptoRow, standIns := [], harness := (true, "1a7a8abc5a8453bbb08f9d36c923799514c4aa8fe081822b57968b7ec3b1c1a8"), looks := true }, kinds := [], alts := [], laidByText := true, laidKinds := [.pinned, .data, .sentinel, .sentinel, .data, .data, .data, .data, .listed], laidTests := true, laidLooks := .later }
def FinalNamesUptoCardSaid : Prop := Claim7.holds Tryz.pinned (.plain (OpenSpec.upto finalNamesSpec)) finalNamesUptoCard
end Rows
end Go.Proofs.YtmodjehiebcejaaGreatDoor
