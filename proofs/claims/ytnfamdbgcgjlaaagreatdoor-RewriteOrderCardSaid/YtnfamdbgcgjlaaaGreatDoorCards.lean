/-
  DERIVED. GIVEN WITH THE SEED: THE CARDS: each row of YtnfamdbgcgjlaaaGreatDoorRows.lean that lists a variable, with what it lists TIED to the program's text (the seventh form; the later family's looks); each row that meets fmt, with fmt's text TOLD by the authors' own Lean function (tested against real Go, not proved from fmt's source: count such statements apart). THE CARD IS WHAT COUNTS. Prove the row's statement (the work); the ties are given (YtnfamdbgcgjlaaaGreatDoorTie.lean); close each card by the builder's one call (the guide's Derived/Test/ToyasCard.lean, 'card_holds'). Laid BY PROGRAM, IN A SANDBOX (cutbox-door.mjs). By AI agents, Wed Nov 11 2026. No macro, syntax, notation, axiom, sorry.
-/
import Derived.Test.YtnfamdbgcgjlaaaGreatDoorRows
import GoSem.ClaimSeven
namespace Go.Proofs.YtnfamdbgcgjlaaaGreatDoor
namespace Rows

/-- THE TIED CARD OF 'tailwaterlaw23.RewriteNames'. -/
def rewriteNamesCard : Claim7 := { stood := { row := rewriteNamesRow, standIns := [], harness := (true, "e9b2e68855196ed946f4057352a5e16e5e31a9609166be06484c743d3bf10628"), looks := true }, kinds := [], alts := [], laidByText := true, laidKinds := [.data, .data, .data, .data, .sentinel, .sentinel, .listed, .data, .pinned], laidTests := true, laidLooks := .later }
def RewriteNamesCardSaid : Prop := Claim7.holds Tryz.pinned (.plain (OpenSpec.ofChange rewriteNamesSpec)) rewriteNamesCard

/-- THE TIED CARD OF 'tailwaterlaw23.RewriteTwice'. -/
def rewriteTwiceCard : Claim7 := { stood := { row := rewriteTwiceRow, standIns := [], harness := (true, "e9b2e68855196ed946f4057352a5e16e5e31a9609166be06484c743d3bf10628"), looks := true }, kinds := [], alts := [], laidByText := true, laidKinds := [.data, .data, .data, .data, .sentinel, .sentinel, .listed, .data, .pinned], laidTests := true, laidLooks := .later }
def RewriteTwiceCardSaid : Prop := Claim7.holds Tryz.pinned (.plain (OpenSpec.ofChange rewriteTwiceSpec)) rewriteTwiceCard

/-- THE TIED CARD OF 'tailwaterlaw23.RewriteOrder'. -/
def rewriteOrderCard : Claim7 := { stood := { row := rewriteOrderRow, standIns := [], harness := (true, "e9b2e68855196ed946f4057352a5e16e5e31a9609166be06484c743d3bf10628"), looks := true }, kinds := [], alts := [], laidByText := true, laidKinds := [.data, .data, .data, .data, .sentinel, .sentinel, .listed, .data, .pinned], laidTests := true, laidLooks := .later }
def RewriteOrderCardSaid : Prop := Claim7.holds Tryz.pinned (.plain (OpenSpec.ofChange rewriteOrderSpec)) rewriteOrderCard

/-- THE TIED CARD OF 'tailwaterlaw23.RewriteLeaves'. -/
def rewriteLeavesCard : Claim7 := { stood := { row := rewriteLeavesRow, standIns := [], harness := (true, "e9b2e68855196ed946f4057352a5e16e5e31a9609166be06484c743d3bf10628"), looks := true }, kinds := [], alts := [], laidByText := true, laidKinds := [.data, .data, .data, .data, .sentinel, .sentinel, .listed, .data, .pinned], laidTests := true, laidLooks := .later }
def RewriteLeavesCardSaid : Prop := Claim7.holds Tryz.pinned (.plain (OpenSpec.ofChange rewriteLeavesSpec)) rewriteLeavesCard

/-- THE SECOND FORM's CARD OF 'tailwaterlaw23.RewriteNames'. -/
def rewriteNamesUptoCard : Claim7 := { stood := { row := rewriteNamesUptoRow, standIns := [], harness := (true, "e9b2e68855196ed946f4057352a5e16e5e31a9609166be06484c743d3bf10628"), looks := true }, kinds := [], alts := [], laidByText := true, laidKinds := [.data, .data, .data, .data, .sentinel, .sentinel, .listed, .data, .pinned], laidTests := true, laidLooks := .later }
def RewriteNamesUptoCardSaid : Prop := Claim7.holds Tryz.pinned (.plain (OpenSpec.upto rewriteNamesSpec)) rewriteNamesUptoCard

/-- THE SECOND FORM's CARD OF 'tailwaterlaw23.RewriteTwice'. -/
def rewriteTwiceUptoCard : Claim7 := { stood := { row := rewriteTwiceUptoRow, standIns := [], harness := (true, "e9b2e68855196ed946f4057352a5e16e5e31a9609166be06484c743d3bf10628"), looks := true }, kinds := [], alts := [], laidByText := true, laidKinds := [.data, .data, .data, .data, .sentinel, .sentinel, .listed, .data, .pinned], laidTests := true, laidLooks := .later }
def RewriteTwiceUptoCardSaid : Prop := Claim7.holds Tryz.pinned (.plain (OpenSpec.upto rewriteTwiceSpec)) rewriteTwiceUptoCard

/-- THE SECOND FORM's CARD OF 'tailwaterlaw23.RewriteOrder'. -/
def rewriteOrderUptoCard : Claim7 := { stood := { row := rewriteOrderUptoRow, standIns := [], harness := (true, "e9b2e68855196ed946f4057352a5e16e5e31a9609166be06484c743d3bf10628"), looks := true }, kinds := [], alts := [], laidByText := true, laidKinds := [.data, .data, .data, .data, .sentinel, .sentinel, .listed, .data, .pinned], laidTests := true, laidLooks := .later }
def RewriteOrderUptoCardSaid : Prop := Claim7.holds Tryz.pinned (.plain (OpenSpec.upto rewriteOrderSpec)) rewriteOrderUptoCard

/-- THE SECOND FORM's CARD OF 'tailwaterlaw23.RewriteLeaves'. -/
def rewriteLeavesUptoCard : Claim7 := { stood := { row := rewriteLeavesUptoRow, standIns := [], harness := (true, "e9b2e68855196ed946f4057352a5e16e5e31a9609166be06484c743d3bf10628"), looks := true }, kinds := [], alts := [], laidByText := true, laidKinds := [.data, .data, .data, .data, .sentinel, .sentinel, .listed, .data, .pinned], laidTests := true, laidLooks := .later }
def RewriteLeavesUptoCardSaid : Prop := Claim7.holds Tryz.pinned (.plain (OpenSpec.upto rewriteLeavesSpec)) rewriteLeavesUptoCard
end Rows
end Go.Proofs.YtnfamdbgcgjlaaaGreatDoor
