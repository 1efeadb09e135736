/-
  No cell of these rows narrows 'for every input' (looked for: loops, veiled, ifaces, maps, wideKeys, modest, calm, conditions, laid).
  DERIVED. THE GIVEN ROWS OF THIS SEAT. 3 by the template 'for every input the law returns true; each argument reads behind the call as it read before'; 0 by the template 'total and deterministic' (their statements: YtodebpebcehogaaGreatTotals.lean).
  GIVEN WITH THE SEED: the statements are not yours to turn. If you find one false, say at which input.
  Laid BY PROGRAM, IN A SANDBOX (cutbox-rows.mjs): the forced cells as the released guide's own fill.sh prints them over the translation 3d344cf4aaab8189… (all of the seat's roots in one cut). By AI agents, Wed Nov 11 2026. No macro, syntax, notation, axiom, sorry.
-/
import Derived.Test.YtodebpebcehogaaGreatChecked
import GoSem.Claim
import GoSem.ClaimJoined
import GoSem.ClaimMapViews
import Derived.JoinedTies
import Derived.KernelRfl
namespace Go.Proofs.YtodebpebcehogaaGreat
/- THE CELL 'sum', in the pinned program and in every row, IS THE sha256 OF THE DUMP (.gsa) THAT YtodebpebcehogaaGreatProg.lean LOADS. Nothing in Lean hashes anything: it is a label: what it is worth is what the hold of that sum in a sandbox is worth. -/
noncomputable def Tryz.pinned : Pinned := { name := "ytodebpebcehogaagreat", sum := "3d344cf4aaab818921618699959782bbbbc589df00d1cf11b78ffdfa3890da8b", checked := Tryz.checked }
namespace Rows
def none {H : Type} : Left H := { results := [], args := [] }

/-- 'tailwaterlaw35.StepFroms': WHATEVER THE INPUT: true; the input reads as it did. -/
def stepFromsSpec : ChangeSpec := { name := "stepFroms", fn := fun _ => fun
  | [d1, d2, d3] => { results := [.lit (.bool true)], args := [d1, d2, d3] }
  | _ => none }
def stepFromsRow : OpenClaim := { program := "ytodebpebcehogaagreat", sum := "3d344cf4aaab818921618699959782bbbbc589df00d1cf11b78ffdfa3890da8b", func := "tailwater/tailwaterlaw35.StepFroms", spec := "stepFroms", inPlace := ["slices.overlaps[tailwater/api.Entry]"], unfollowed := true, recurses := true, apart := false }
def StepFromsSaid : Prop := stepFromsRow.holds Tryz.pinned (OpenSpec.ofChange stepFromsSpec)

/-- ITS FALSE NEIGHBOUR: 'it returns false'. Refute it at one input. -/
def stepFromsWrong : ChangeSpec := { name := "stepFroms", fn := fun _ => fun
  | [d1, d2, d3] => { results := [.lit (.bool false)], args := [d1, d2, d3] }
  | _ => none }
def StepFromsWrongFalsely : Prop := stepFromsRow.holds Tryz.pinned (OpenSpec.ofChange stepFromsWrong)

/-- 'tailwaterlaw35.StepTurns': WHATEVER THE INPUT: true; the input reads as it did. -/
def stepTurnsSpec : ChangeSpec := { name := "stepTurns", fn := fun _ => fun
  | [d1, d2] => { results := [.lit (.bool true)], args := [d1, d2] }
  | _ => none }
def stepTurnsRow : OpenClaim := { program := "ytodebpebcehogaagreat", sum := "3d344cf4aaab818921618699959782bbbbc589df00d1cf11b78ffdfa3890da8b", func := "tailwater/tailwaterlaw35.StepTurns", spec := "stepTurns", inPlace := ["slices.overlaps[tailwater/api.Entry]"], unfollowed := true, recurses := true, apart := false }
def StepTurnsSaid : Prop := stepTurnsRow.holds Tryz.pinned (OpenSpec.ofChange stepTurnsSpec)

/-- ITS FALSE NEIGHBOUR: 'it returns false'. Refute it at one input. -/
def stepTurnsWrong : ChangeSpec := { name := "stepTurns", fn := fun _ => fun
  | [d1, d2] => { results := [.lit (.bool false)], args := [d1, d2] }
  | _ => none }
def StepTurnsWrongFalsely : Prop := stepTurnsRow.holds Tryz.pinned (OpenSpec.ofChange stepTurnsWrong)

/-- 'tailwaterlaw35.StepNames': WHATEVER THE INPUT: true; the input reads as it did. -/
def stepNamesSpec : ChangeSpec := { name := "stepNames", fn := fun _ => fun
  | [] => { results := [.lit (.bool true)], args := [] }
  | _ => none }
def stepNamesRow : OpenClaim := { program := "ytodebpebcehogaagreat", sum := "3d344cf4aaab818921618699959782bbbbc589df00d1cf11b78ffdfa3890da8b", func := "tailwater/tailwaterlaw35.StepNames", spec := "stepNames", inPlace := ["slices.overlaps[tailwater/api.Entry]"], unfollowed := true, recurses := true, apart := false }
def StepNamesSaid : Prop := stepNamesRow.holds Tryz.pinned (OpenSpec.ofChange stepNamesSpec)

/-- ITS FALSE NEIGHBOUR: 'it returns false'. Refute it at one input. -/
def stepNamesWrong : ChangeSpec := { name := "stepNames", fn := fun _ => fun
  | [] => { results := [.lit (.bool false)], args := [] }
  | _ => none }
def StepNamesWrongFalsely : Prop := stepNamesRow.holds Tryz.pinned (OpenSpec.ofChange stepNamesWrong)

/- THE SECOND FORM. 'bulk': how many values and letters a reading holds, each counted each time it is reached (what is shared counts as often as it is met; a slice's spare places count too). A statement '..UptoSaid' is the law's where the arguments, and the package variables that the reading takes, are together of bulk at most 1048576: NARROWER than '..Said'. Prove '..Said' where nothing that the law and all that it calls make is longer than what came in: it says more and counts as full. Else prove '..UptoSaid'. A law counts once. -/
mutual
def uptoBulk {H : Type} : DataW H → Nat
  | .lit (.string bytes) => bytes.length + 1
  | .lit _ => 1
  | .nil => 1
  | .ptr d => uptoBulk d + 1
  | .slice elems spare => uptoBulkAll elems + uptoBulkAll spare + 1
  | .agg parts => uptoBulkAll parts + 1
  | .iface _ d => uptoBulk d + 1
  | .map entries => uptoBulkEntries entries + 1
  | .held _ => 1
def uptoBulkAll {H : Type} : List (DataW H) → Nat
  | [] => 0
  | d :: r => uptoBulk d + uptoBulkAll r
def uptoBulkEntries {H : Type} : List (Lit × DataW H) → Nat
  | [] => 0
  | x :: r => uptoBulkEntry x + uptoBulkEntries r
def uptoBulkEntry {H : Type} : Lit × DataW H → Nat
  | (.string bytes, d) => bytes.length + uptoBulk d + 1
  | (_, d) => uptoBulk d + 1
 end
def uptoSmall : (H : Type) → List (DataW H) → Bool := fun _ ds => decide (uptoBulkAll ds ≤ 1048576)
def OpenSpec.upto (s : _root_.Go.ChangeSpec) : _root_.Go.OpenSpec := { _root_.Go.OpenSpec.ofChange s with cond := some uptoSmall }

/-- 'tailwaterlaw35.StepFroms', WHERE WHAT IT READS IS OF BULK AT MOST 1048576: true; the input reads as it did. -/
def stepFromsUptoRow : OpenClaim := { program := "ytodebpebcehogaagreat", sum := "3d344cf4aaab818921618699959782bbbbc589df00d1cf11b78ffdfa3890da8b", func := "tailwater/tailwaterlaw35.StepFroms", spec := "stepFroms", inPlace := ["slices.overlaps[tailwater/api.Entry]"], unfollowed := true, recurses := true, apart := false, narrowed := true }
def StepFromsUptoSaid : Prop := stepFromsUptoRow.holds Tryz.pinned (OpenSpec.upto stepFromsSpec)

/-- 'tailwaterlaw35.StepTurns', WHERE WHAT IT READS IS OF BULK AT MOST 1048576: true; the input reads as it did. -/
def stepTurnsUptoRow : OpenClaim := { program := "ytodebpebcehogaagreat", sum := "3d344cf4aaab818921618699959782bbbbc589df00d1cf11b78ffdfa3890da8b", func := "tailwater/tailwaterlaw35.StepTurns", spec := "stepTurns", inPlace := ["slices.overlaps[tailwater/api.Entry]"], unfollowed := true, recurses := true, apart := false, narrowed := true }
def StepTurnsUptoSaid : Prop := stepTurnsUptoRow.holds Tryz.pinned (OpenSpec.upto stepTurnsSpec)

/-- 'tailwaterlaw35.StepNames', WHERE WHAT IT READS IS OF BULK AT MOST 1048576: true; the input reads as it did. -/
def stepNamesUptoRow : OpenClaim := { program := "ytodebpebcehogaagreat", sum := "3d344cf4aaab818921618699959782bbbbc589df00d1cf11b78ffdfa3890da8b", func := "tailwater/tailwaterlaw35.StepNames", spec := "stepNames", inPlace := ["slices.overlaps[tailwater/api.Entry]"], unfollowed := true, recurses := true, apart := false, narrowed := true }
def StepNamesUptoSaid : Prop := stepNamesUptoRow.holds Tryz.pinned (OpenSpec.upto stepNamesSpec)

end Rows
end Go.Proofs.YtodebpebcehogaaGreat
