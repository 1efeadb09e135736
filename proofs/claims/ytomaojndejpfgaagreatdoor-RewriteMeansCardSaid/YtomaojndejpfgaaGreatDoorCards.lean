/-
  DERIVED. GIVEN WITH THE SEED: THE CARDS: each row of YtomaojndejpfgaaGreatDoorRows.lean that lists a variable, with what it lists TIED to the program's text (the seventh form; the later family's looks); each row that meets fmt, with fmt's text TOLD by the authors' own Lean function (tested against real Go, not proved from fmt's source: count such statements apart). THE CARD IS WHAT COUNTS. Prove the row's statement (the work); the ties are given (YtomaojndejpfgaaGreatDoorTie.lean); close each card by the builder's one call (the guide's Derived/Test/ToyasCard.lean, 'card_holds'). Laid BY PROGRAM, IN A SANDBOX (cutbox-door.mjs). By AI agents, Wed Nov 11 2026. No macro, syntax, notation, axiom, sorry.
-/
import Derived.Test.YtomaojndejpfgaaGreatDoorRows
import GoSem.ClaimSeven
namespace Go.Proofs.YtomaojndejpfgaaGreatDoor
namespace Rows

/-- THE TIED CARD OF 'tailwaterlaw23.RewriteMeans'. -/
def rewriteMeansCard : Claim7 := { stood := { row := rewriteMeansRow, standIns := [], harness := (true, "c83216e0aa1261a925866a9625745e119a46df1bdbcba5e32e437bf1184564b6"), looks := true }, kinds := [], alts := [], laidByText := true, laidKinds := [.data, .data, .data, .data, .sentinel, .sentinel, .listed, .data, .pinned], laidTests := true, laidLooks := .later }
def RewriteMeansCardSaid : Prop := Claim7.holds Tryz.pinned (.plain (OpenSpec.ofChange rewriteMeansSpec)) rewriteMeansCard

/-- THE SECOND FORM's CARD OF 'tailwaterlaw23.RewriteMeans'. -/
def rewriteMeansUptoCard : Claim7 := { stood := { row := rewriteMeansUptoRow, standIns := [], harness := (true, "c83216e0aa1261a925866a9625745e119a46df1bdbcba5e32e437bf1184564b6"), looks := true }, kinds := [], alts := [], laidByText := true, laidKinds := [.data, .data, .data, .data, .sentinel, .sentinel, .listed, .data, .pinned], laidTests := true, laidLooks := .later }
def RewriteMeansUptoCardSaid : Prop := Claim7.holds Tryz.pinned (.plain (OpenSpec.upto rewriteMeansSpec)) rewriteMeansUptoCard
end Rows
end Go.Proofs.YtomaojndejpfgaaGreatDoor
