/-
  DERIVED. GIVEN WITH THE SEED: THE CARDS: each row of YtoodllakhlkekaaGreatDoorRows.lean that lists a variable, with what it lists TIED to the program's text (the seventh form; the later family's looks); each row that meets fmt, with fmt's text TOLD by the authors' own Lean function (tested against real Go, not proved from fmt's source: count such statements apart). THE CARD IS WHAT COUNTS. Prove the row's statement (the work); the ties are given (YtoodllakhlkekaaGreatDoorTie.lean); close each card by the builder's one call (the guide's Derived/Test/ToyasCard.lean, 'card_holds'). Laid BY PROGRAM, IN A SANDBOX (cutbox-door.mjs). By AI agents, Wed Nov 11 2026. No macro, syntax, notation, axiom, sorry.
-/
import Derived.Test.YtoodllakhlkekaaGreatDoorRows
import GoSem.ClaimSeven
namespace Go.Proofs.YtoodllakhlkekaaGreatDoor
namespace Rows

/-- THE TIED CARD OF 'tailwaterlaw40.PrefixOrder'. -/
def prefixOrderCard : Claim7 := { stood := { row := prefixOrderRow, standIns := [], harness := (true, "b8a834ebe9d8c321da57ac53355956df59ee2868f27d907bda34700786fbc4f9"), looks := true }, kinds := [], alts := [], laidByText := true, laidKinds := [.data, .data, .data, .data, .sentinel, .sentinel, .listed, .data, .pinned], laidTests := true, laidLooks := .later }
def PrefixOrderCardSaid : Prop := Claim7.holds Tryz.pinned (.plain (OpenSpec.ofChange prefixOrderSpec)) prefixOrderCard

/-- THE TIED CARD OF 'tailwaterlaw40.PrefixNames'. -/
def prefixNamesCard : Claim7 := { stood := { row := prefixNamesRow, standIns := [], harness := (true, "b8a834ebe9d8c321da57ac53355956df59ee2868f27d907bda34700786fbc4f9"), looks := true }, kinds := [], alts := [], laidByText := true, laidKinds := [.data, .data, .data, .data, .sentinel, .sentinel, .listed, .data, .pinned], laidTests := true, laidLooks := .later }
def PrefixNamesCardSaid : Prop := Claim7.holds Tryz.pinned (.plain (OpenSpec.ofChange prefixNamesSpec)) prefixNamesCard

/-- THE SECOND FORM's CARD OF 'tailwaterlaw40.PrefixOrder'. -/
def prefixOrderUptoCard : Claim7 := { stood := { row := prefixOrderUptoRow, standIns := [], harness := (true, "b8a834ebe9d8c321da57ac53355956df59ee2868f27d907bda34700786fbc4f9"), looks := true }, kinds := [], alts := [], laidByText := true, laidKinds := [.data, .data, .data, .data, .sentinel, .sentinel, .listed, .data, .pinned], laidTests := true, laidLooks := .later }
def PrefixOrderUptoCardSaid : Prop := Claim7.holds Tryz.pinned (.plain (OpenSpec.upto prefixOrderSpec)) prefixOrderUptoCard

/-- THE SECOND FORM's CARD OF 'tailwaterlaw40.PrefixNames'. -/
def prefixNamesUptoCard : Claim7 := { stood := { row := prefixNamesUptoRow, standIns := [], harness := (true, "b8a834ebe9d8c321da57ac53355956df59ee2868f27d907bda34700786fbc4f9"), looks := true }, kinds := [], alts := [], laidByText := true, laidKinds := [.data, .data, .data, .data, .sentinel, .sentinel, .listed, .data, .pinned], laidTests := true, laidLooks := .later }
def PrefixNamesUptoCardSaid : Prop := Claim7.holds Tryz.pinned (.plain (OpenSpec.upto prefixNamesSpec)) prefixNamesUptoCard
end Rows
end Go.Proofs.YtoodllakhlkekaaGreatDoor
