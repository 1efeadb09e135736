/-
  DERIVED. GIVEN WITH THE SEED: THE CARDS: each row of YtednehploaffcaaGreatDoorRows.lean that lists a variable, with what it lists TIED to the program's text (the seventh form; the later family's looks); each row that meets fmt, with fmt's text TOLD by the authors' own Lean function (tested against real Go, not proved from fmt's source: count such statements apart). THE CARD IS WHAT COUNTS. Prove the row's statement (the work); the ties are given (YtednehploaffcaaGreatDoorTie.lean); close each card by the builder's one call (the guide's Derived/Test/ToyasCard.lean, 'card_holds'). Laid BY PROGRAM, IN A SANDBOX (cutbox-door.mjs). By AI agents, Wed Nov 11 2026. No macro, syntax, notation, axiom, sorry.
-/
import Derived.Test.YtednehploaffcaaGreatDoorRows
import GoSem.ClaimSeven
namespace Go.Proofs.YtednehploaffcaaGreatDoor
namespace Rows

/-- THE TIED CARD OF 'tailwaterlaw44.OptionsOnce'. -/
def optionsOnceCard : Claim7 := { stood := { row := optionsOnceRow, standIns := [], harness := (true, "b3395d328d55be2c21c7dd30ae82004fa6b0d8e595fb454a047181339783aef4"), looks := true }, kinds := [], alts := [], laidByText := true, laidKinds := [.data, .data, .data, .data, .sentinel, .sentinel, .listed, .data, .pinned], laidTests := true, laidLooks := .later }
def OptionsOnceCardSaid : Prop := Claim7.holds Tryz.pinned (.plain (OpenSpec.ofChange optionsOnceSpec)) optionsOnceCard

/-- THE SECOND FORM's CARD OF 'tailwaterlaw44.OptionsOnce'. -/
def optionsOnceUptoCard : Claim7 := { stood := { row := optionsOnceUptoRow, standIns := [], harness := (true, "b3395d328d55be2c21c7dd30ae82004fa6b0d8e595fb454a047181339783aef4"), looks := true }, kinds := [], alts := [], laidByText := true, laidKinds := [.data, .data, .data, .data, .sentinel, .sentinel, .listed, .data, .pinned], laidTests := true, laidLooks := .later }
def OptionsOnceUptoCardSaid : Prop := Claim7.holds Tryz.pinned (.plain (OpenSpec.upto optionsOnceSpec)) optionsOnceUptoCard
end Rows
end Go.Proofs.YtednehploaffcaaGreatDoor
