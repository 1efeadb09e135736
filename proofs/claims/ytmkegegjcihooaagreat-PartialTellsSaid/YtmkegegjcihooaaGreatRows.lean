/-
  No cell of these rows narrows 'for every input' (looked for: loops, veiled, ifaces, maps, wideKeys, modest, calm, conditions, laid).
  DERIVED. THE GIVEN ROWS OF THIS SEAT. 8 by the template 'for every input the law returns true; each argument reads behind the call as it read before'; 0 by the template 'total and deterministic' (their statements: YtmkegegjcihooaaGreatTotals.lean).
  GIVEN WITH THE SEED: the statements are not yours to turn. If you find one false, say at which input.
  Laid BY PROGRAM, IN A SANDBOX (cutbox-rows.mjs): the forced cells as the released guide's own fill.sh prints them over the translation 1863a34d9b2406c8… (all of the seat's roots in one cut). By AI agents, Wed Nov 11 2026. No macro, syntax, notation, axiom, sorry.
-/
import Derived.Test.YtmkegegjcihooaaGreatChecked
import GoSem.Claim
import GoSem.ClaimJoined
import GoSem.ClaimMapViews
import Derived.JoinedTies
import Derived.KernelRfl
namespace Go.Proofs.YtmkegegjcihooaaGreat
/- THE CELL 'sum', in the pinned program and in every row, IS THE sha256 OF THE DUMP (.gsa) THAT YtmkegegjcihooaaGreatProg.lean LOADS. Nothing in Lean hashes anything: it is a label: what it is worth is what the hold of that sum in a sandbox is worth. -/
noncomputable def Tryz.pinned : Pinned := { name := "ytmkegegjcihooaagreat", sum := "1863a34d9b2406c813dd8f84c4ce058caa9287f5fb6bf3e8f6519fc854366759", checked := Tryz.checked }
namespace Rows
def none {H : Type} : Left H := { results := [], args := [] }

/-- 'tailwaterlaw42.PartialTells': WHATEVER THE INPUT: true; the input reads as it did. -/
def partialTellsSpec : ChangeSpec := { name := "partialTells", fn := fun _ => fun
  | [d] => { results := [.lit (.bool true)], args := [d] }
  | _ => none }
def partialTellsRow : OpenClaim := { program := "ytmkegegjcihooaagreat", sum := "1863a34d9b2406c813dd8f84c4ce058caa9287f5fb6bf3e8f6519fc854366759", func := "tailwater/tailwaterlaw42.PartialTells", spec := "partialTells", unfollowed := true, recurses := true, apart := false }
def PartialTellsSaid : Prop := partialTellsRow.holds Tryz.pinned (OpenSpec.ofChange partialTellsSpec)

/-- ITS FALSE NEIGHBOUR: 'it returns false'. Refute it at one input. -/
def partialTellsWrong : ChangeSpec := { name := "partialTells", fn := fun _ => fun
  | [d] => { results := [.lit (.bool false)], args := [d] }
  | _ => none }
def PartialTellsWrongFalsely : Prop := partialTellsRow.holds Tryz.pinned (OpenSpec.ofChange partialTellsWrong)

/-- 'tailwaterlaw35.StepFroms': WHATEVER THE INPUT: true; the input reads as it did. -/
def stepFromsSpec : ChangeSpec := { name := "stepFroms", fn := fun _ => fun
  | [d1, d2, d3] => { results := [.lit (.bool true)], args := [d1, d2, d3] }
  | _ => none }
def stepFromsRow : OpenClaim := { program := "ytmkegegjcihooaagreat", sum := "1863a34d9b2406c813dd8f84c4ce058caa9287f5fb6bf3e8f6519fc854366759", func := "tailwater/tailwaterlaw35.StepFroms", spec := "stepFroms", inPlace := ["slices.overlaps[tailwater/api.Entry]"], unfollowed := true, recurses := true, apart := false }
def StepFromsSaid : Prop := stepFromsRow.holds Tryz.pinned (OpenSpec.ofChange stepFromsSpec)

/-- ITS FALSE NEIGHBOUR: 'it returns false'. Refute it at one input. -/
def stepFromsWrong : ChangeSpec := { name := "stepFroms", fn := fun _ => fun
  | [d1, d2, d3] => { results := [.lit (.bool false)], args := [d1, d2, d3] }
  | _ => none }
def StepFromsWrongFalsely : Prop := stepFromsRow.holds Tryz.pinned (OpenSpec.ofChange stepFromsWrong)

/-- 'tailwaterlaw35.StepTurns': WHATEVER THE INPUT: true; the input reads as it did. -/
def stepTurnsSpec : ChangeSpec := { name := "stepTurns", fn := fun _ => fun
  | [d1, d2] => { results := [.lit (.bool true)], args := [d1, d2] }
  | _ => none }
def stepTurnsRow : OpenClaim := { program := "ytmkegegjcihooaagreat", sum := "1863a34d9b2406c813dd8f84c4ce058caa9287f5fb6bf3e8f6519fc854366759", func := "tailwater/tailwaterlaw35.StepTurns", spec := "stepTurns", inPlace := ["slices.overlaps[tailwater/api.Entry]"], unfollowed := true, recurses := true, apart := false }
def StepTurnsSaid : Prop := stepTurnsRow.holds Tryz.pinned (OpenSpec.ofChange stepTurnsSpec)

/-- ITS FALSE NEIGHBOUR: 'it returns false'. Refute it at one input. -/
def stepTurnsWrong : ChangeSpec := { name := "stepTurns", fn := fun _ => fun
  | [d1, d2] => { results := [.lit (.bool false)], args := [d1, d2] }
  | _ => none }
def StepTurnsWrongFalsely : Prop := stepTurnsRow.holds Tryz.pinned (OpenSpec.ofChange stepTurnsWrong)

/-- 'tailwaterlaw35.StepNext': WHATEVER THE INPUT: true; the input reads as it did. -/
def stepNextSpec : ChangeSpec := { name := "stepNext", fn := fun _ => fun
  | [d1, d2] => { results := [.lit (.bool true)], args := [d1, d2] }
  | _ => none }
def stepNextRow : OpenClaim := { program := "ytmkegegjcihooaagreat", sum := "1863a34d9b2406c813dd8f84c4ce058caa9287f5fb6bf3e8f6519fc854366759", func := "tailwater/tailwaterlaw35.StepNext", spec := "stepNext", inPlace := ["slices.overlaps[tailwater/api.Entry]"], unfollowed := true, recurses := true, apart := false }
def StepNextSaid : Prop := stepNextRow.holds Tryz.pinned (OpenSpec.ofChange stepNextSpec)

/-- ITS FALSE NEIGHBOUR: 'it returns false'. Refute it at one input. -/
def stepNextWrong : ChangeSpec := { name := "stepNext", fn := fun _ => fun
  | [d1, d2] => { results := [.lit (.bool false)], args := [d1, d2] }
  | _ => none }
def StepNextWrongFalsely : Prop := stepNextRow.holds Tryz.pinned (OpenSpec.ofChange stepNextWrong)

/-- 'tailwaterlaw35.StepApart': WHATEVER THE INPUT: true; the input reads as it did. -/
def stepApartSpec : ChangeSpec := { name := "stepApart", fn := fun _ => fun
  | [d1, d2, d3] => { results := [.lit (.bool true)], args := [d1, d2, d3] }
  | _ => none }
def stepApartRow : OpenClaim := { program := "ytmkegegjcihooaagreat", sum := "1863a34d9b2406c813dd8f84c4ce058caa9287f5fb6bf3e8f6519fc854366759", func := "tailwater/tailwaterlaw35.StepApart", spec := "stepApart", inPlace := ["slices.overlaps[tailwater/api.Entry]"], unfollowed := true, recurses := true, apart := false }
def StepApartSaid : Prop := stepApartRow.holds Tryz.pinned (OpenSpec.ofChange stepApartSpec)

/-- ITS FALSE NEIGHBOUR: 'it returns false'. Refute it at one input. -/
def stepApartWrong : ChangeSpec := { name := "stepApart", fn := fun _ => fun
  | [d1, d2, d3] => { results := [.lit (.bool false)], args := [d1, d2, d3] }
  | _ => none }
def StepApartWrongFalsely : Prop := stepApartRow.holds Tryz.pinned (OpenSpec.ofChange stepApartWrong)

/-- 'tailwaterlaw35.StepStays': WHATEVER THE INPUT: true; the input reads as it did. -/
def stepStaysSpec : ChangeSpec := { name := "stepStays", fn := fun _ => fun
  | [d1, d2, d3] => { results := [.lit (.bool true)], args := [d1, d2, d3] }
  | _ => none }
def stepStaysRow : OpenClaim := { program := "ytmkegegjcihooaagreat", sum := "1863a34d9b2406c813dd8f84c4ce058caa9287f5fb6bf3e8f6519fc854366759", func := "tailwater/tailwaterlaw35.StepStays", spec := "stepStays", inPlace := ["slices.overlaps[tailwater/api.Entry]"], unfollowed := true, recurses := true, apart := false }
def StepStaysSaid : Prop := stepStaysRow.holds Tryz.pinned (OpenSpec.ofChange stepStaysSpec)

/-- ITS FALSE NEIGHBOUR: 'it returns false'. Refute it at one input. -/
def stepStaysWrong : ChangeSpec := { name := "stepStays", fn := fun _ => fun
  | [d1, d2, d3] => { results := [.lit (.bool false)], args := [d1, d2, d3] }
  | _ => none }
def StepStaysWrongFalsely : Prop := stepStaysRow.holds Tryz.pinned (OpenSpec.ofChange stepStaysWrong)

/-- 'tailwaterlaw35.StepTold': WHATEVER THE INPUT: true; the input reads as it did. -/
def stepToldSpec : ChangeSpec := { name := "stepTold", fn := fun _ => fun
  | [d1, d2, d3] => { results := [.lit (.bool true)], args := [d1, d2, d3] }
  | _ => none }
def stepToldRow : OpenClaim := { program := "ytmkegegjcihooaagreat", sum := "1863a34d9b2406c813dd8f84c4ce058caa9287f5fb6bf3e8f6519fc854366759", func := "tailwater/tailwaterlaw35.StepTold", spec := "stepTold", inPlace := ["slices.overlaps[tailwater/api.Entry]"], unfollowed := true, recurses := true, apart := false }
def StepToldSaid : Prop := stepToldRow.holds Tryz.pinned (OpenSpec.ofChange stepToldSpec)

/-- ITS FALSE NEIGHBOUR: 'it returns false'. Refute it at one input. -/
def stepToldWrong : ChangeSpec := { name := "stepTold", fn := fun _ => fun
  | [d1, d2, d3] => { results := [.lit (.bool false)], args := [d1, d2, d3] }
  | _ => none }
def StepToldWrongFalsely : Prop := stepToldRow.holds Tryz.pinned (OpenSpec.ofChange stepToldWrong)

/-- 'tailwaterlaw41.FinalTells': WHATEVER THE INPUT: true; the input reads as it did. -/
def finalTellsSpec : ChangeSpec := { name := "finalTells", fn := fun _ => fun
  | [d] => { results := [.lit (.bool true)], args := [d] }
  | _ => none }
def finalTellsRow : OpenClaim := { program := "ytmkegegjcihooaagreat", sum := "1863a34d9b2406c813dd8f84c4ce058caa9287f5fb6bf3e8f6519fc854366759", func := "tailwater/tailwaterlaw41.FinalTells", spec := "finalTells", inPlace := ["slices.overlaps[tailwater/api.Entry]"], unfollowed := true, recurses := true, apart := false }
def FinalTellsSaid : Prop := finalTellsRow.holds Tryz.pinned (OpenSpec.ofChange finalTellsSpec)

/-- ITS FALSE NEIGHBOUR: 'it returns false'. Refute it at one input. -/
def finalTellsWrong : ChangeSpec := { name := "finalTells", fn := fun _ => fun
  | [d] => { results := [.lit (.bool false)], args := [d] }
  | _ => none }
def FinalTellsWrongFalsely : Prop := finalTellsRow.holds Tryz.pinned (OpenSpec.ofChange finalTellsWrong)

/- THE SECOND FORM. 'bulk': how many values and letters a reading holds, each counted each time it is reached (what is shared counts as often as it is met; a slice's spare places count too). A statement '..UptoSaid' is the law's where the arguments, and the package variables that the reading takes, are together of bulk at most 1048576: NARROWER than '..Said'. Prove '..Said' where nothing that the law and all that it calls make is longer than what came in: it says more and counts as full. Else prove '..UptoSaid'. A law counts once. -/
mutual
def uptoBulk {H : Type} : DataW H → Nat
  | .lit (.string bytes) => bytes.length + 1
  | .lit _ => 1
  | .nil => 1
  | .ptr d => uptoBulk d + 1
  | .slice elems spare => uptoBulkAll elems + uptoBulkAll spare + 1
  | .agg parts => uptoBulkAll parts + 1
  | .iface _ d => uptoBulk d + 1
  | .map entries => uptoBulkEntries entries + 1
  | .held _ => 1
def uptoBulkAll {H : Type} : List (DataW H) → Nat
  | [] => 0
  | d :: r => uptoBulk d + uptoBulkAll r
def uptoBulkEntries {H : Type} : List (Lit × DataW H) → Nat
  | [] => 0
  | x :: r => uptoBulkEntry x + uptoBulkEntries r
def uptoBulkEntry {H : Type} : Lit × DataW H → Nat
  | (.string bytes, d) => bytes.length + uptoBulk d + 1
  | (_, d) => uptoBulk d + 1
 end
def uptoSmall : (H : Type) → List (DataW H) → Bool := fun _ ds => decide (uptoBulkAll ds ≤ 1048576)
def OpenSpec.upto (s : _root_.Go.ChangeSpec) : _root_.Go.OpenSpec := { _root_.Go.OpenSpec.ofChange s with cond := some uptoSmall }

/-- 'tailwaterlaw42.PartialTells', WHERE WHAT IT READS IS OF BULK AT MOST 1048576: true; the input reads as it did. -/
def partialTellsUptoRow : OpenClaim := { program := "ytmkegegjcihooaagreat", sum := "1863a34d9b2406c813dd8f84c4ce058caa9287f5fb6bf3e8f6519fc854366759", func := "tailwater/tailwaterlaw42.PartialTells", spec := "partialTells", unfollowed := true, recurses := true, apart := false, narrowed := true }
def PartialTellsUptoSaid : Prop := partialTellsUptoRow.holds Tryz.pinned (OpenSpec.upto partialTellsSpec)

/-- 'tailwaterlaw35.StepFroms', WHERE WHAT IT READS IS OF BULK AT MOST 1048576: true; the input reads as it did. -/
def stepFromsUptoRow : OpenClaim := { program := "ytmkegegjcihooaagreat", sum := "1863a34d9b2406c813dd8f84c4ce058caa9287f5fb6bf3e8f6519fc854366759", func := "tailwater/tailwaterlaw35.StepFroms", spec := "stepFroms", inPlace := ["slices.overlaps[tailwater/api.Entry]"], unfollowed := true, recurses := true, apart := false, narrowed := true }
def StepFromsUptoSaid : Prop := stepFromsUptoRow.holds Tryz.pinned (OpenSpec.upto stepFromsSpec)

/-- 'tailwaterlaw35.StepTurns', WHERE WHAT IT READS IS OF BULK AT MOST 1048576: true; the input reads as it did. -/
def stepTurnsUptoRow : OpenClaim := { program := "ytmkegegjcihooaagreat", sum := "1863a34d9b2406c813dd8f84c4ce058caa9287f5fb6bf3e8f6519fc854366759", func := "tailwater/tailwaterlaw35.StepTurns", spec := "stepTurns", inPlace := ["slices.overlaps[tailwater/api.Entry]"], unfollowed := true, recurses := true, apart := false, narrowed := true }
def StepTurnsUptoSaid : Prop := stepTurnsUptoRow.holds Tryz.pinned (OpenSpec.upto stepTurnsSpec)

/-- 'tailwaterlaw35.StepNext', WHERE WHAT IT READS IS OF BULK AT MOST 1048576: true; the input reads as it did. -/
def stepNextUptoRow : OpenClaim := { program := "ytmkegegjcihooaagreat", sum := "1863a34d9b2406c813dd8f84c4ce058caa9287f5fb6bf3e8f6519fc854366759", func := "tailwater/tailwaterlaw35.StepNext", spec := "stepNext", inPlace := ["slices.overlaps[tailwater/api.Entry]"], unfollowed := true, recurses := true, apart := false, narrowed := true }
def StepNextUptoSaid : Prop := stepNextUptoRow.holds Tryz.pinned (OpenSpec.upto stepNextSpec)

/-- 'tailwaterlaw35.StepApart', WHERE WHAT IT READS IS OF BULK AT MOST 1048576: true; the input reads as it did. -/
def stepApartUptoRow : OpenClaim := { program := "ytmkegegjcihooaagreat", sum := "1863a34d9b2406c813dd8f84c4ce058caa9287f5fb6bf3e8f6519fc854366759", func := "tailwater/tailwaterlaw35.StepApart", spec := "stepApart", inPlace := ["slices.overlaps[tailwater/api.Entry]"], unfollowed := true, recurses := true, apart := false, narrowed := true }
def StepApartUptoSaid : Prop := stepApartUptoRow.holds Tryz.pinned (OpenSpec.upto stepApartSpec)

/-- 'tailwaterlaw35.StepStays', WHERE WHAT IT READS IS OF BULK AT MOST 1048576: true; the input reads as it did. -/
def stepStaysUptoRow : OpenClaim := { program := "ytmkegegjcihooaagreat", sum := "1863a34d9b2406c813dd8f84c4ce058caa9287f5fb6bf3e8f6519fc854366759", func := "tailwater/tailwaterlaw35.StepStays", spec := "stepStays", inPlace := ["slices.overlaps[tailwater/api.Entry]"], unfollowed := true, recurses := true, apart := false, narrowed := true }
def StepStaysUptoSaid : Prop := stepStaysUptoRow.holds Tryz.pinned (OpenSpec.upto stepStaysSpec)

/-- 'tailwaterlaw35.StepTold', WHERE WHAT IT READS IS OF BULK AT MOST 1048576: true; the input reads as it did. -/
def stepToldUptoRow : OpenClaim := { program := "ytmkegegjcihooaagreat", sum := "1863a34d9b2406c813dd8f84c4ce058caa9287f5fb6bf3e8f6519fc854366759", func := "tailwater/tailwaterlaw35.StepTold", spec := "stepTold", inPlace := ["slices.overlaps[tailwater/api.Entry]"], unfollowed := true, recurses := true, apart := false, narrowed := true }
def StepToldUptoSaid : Prop := stepToldUptoRow.holds Tryz.pinned (OpenSpec.upto stepToldSpec)

/-- 'tailwaterlaw41.FinalTells', WHERE WHAT IT READS IS OF BULK AT MOST 1048576: true; the input reads as it did. -/
def finalTellsUptoRow : OpenClaim := { program := "ytmkegegjcihooaagreat", sum := "1863a34d9b2406c813dd8f84c4ce058caa9287f5fb6bf3e8f6519fc854366759", func := "tailwater/tailwaterlaw41.FinalTells", spec := "finalTells", inPlace := ["slices.overlaps[tailwater/api.Entry]"], unfollowed := true, recurses := true, apart := false, narrowed := true }
def FinalTellsUptoSaid : Prop := finalTellsUptoRow.holds Tryz.pinned (OpenSpec.upto finalTellsSpec)

end Rows
end Go.Proofs.YtmkegegjcihooaaGreat
