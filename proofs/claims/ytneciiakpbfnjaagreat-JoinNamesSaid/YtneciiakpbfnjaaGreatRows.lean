/-
  No cell of these rows narrows 'for every input' (looked for: loops, veiled, ifaces, maps, wideKeys, modest, calm, conditions, laid).
  DERIVED. THE GIVEN ROWS OF THIS SEAT. 5 by the template 'for every input the law returns true; each argument reads behind the call as it read before'; 0 by the template 'total and deterministic' (their statements: YtneciiakpbfnjaaGreatTotals.lean).
  GIVEN WITH THE SEED: the statements are not yours to turn. If you find one false, say at which input.
  Laid BY PROGRAM, IN A SANDBOX (cutbox-rows.mjs): the forced cells as the released guide's own fill.sh prints them over the translation fb6e6acaf16fc87d… (all of the seat's roots in one cut). By AI agents, Wed Nov 11 2026. No macro, syntax, notation, axiom, sorry.
-/
import Derived.Test.YtneciiakpbfnjaaGreatChecked
import GoSem.Claim
import GoSem.ClaimJoined
import GoSem.ClaimMapViews
import Derived.JoinedTies
import Derived.KernelRfl
namespace Go.Proofs.YtneciiakpbfnjaaGreat
/- THE CELL 'sum', in the pinned program and in every row, IS THE sha256 OF THE DUMP (.gsa) THAT YtneciiakpbfnjaaGreatProg.lean LOADS. Nothing in Lean hashes anything: it is a label: what it is worth is what the hold of that sum in a sandbox is worth. -/
noncomputable def Tryz.pinned : Pinned := { name := "ytneciiakpbfnjaagreat", sum := "fb6e6acaf16fc87d1e242fcf00a59cc901f32d3feda8d82649303958bd11adc3", checked := Tryz.checked }
namespace Rows
def none {H : Type} : Left H := { results := [], args := [] }

/-- 'tailwaterlaw33.JoinSides': WHATEVER THE INPUT: true; the input reads as it did. -/
def joinSidesSpec : ChangeSpec := { name := "joinSides", fn := fun _ => fun
  | [d1, d2, d3, d4] => { results := [.lit (.bool true)], args := [d1, d2, d3, d4] }
  | _ => none }
def joinSidesRow : OpenClaim := { program := "ytneciiakpbfnjaagreat", sum := "fb6e6acaf16fc87d1e242fcf00a59cc901f32d3feda8d82649303958bd11adc3", func := "tailwater/tailwaterlaw33.JoinSides", spec := "joinSides", inPlace := ["slices.overlaps[tailwater/api.Entry]"], unfollowed := true, recurses := true, apart := false }
def JoinSidesSaid : Prop := joinSidesRow.holds Tryz.pinned (OpenSpec.ofChange joinSidesSpec)

/-- ITS FALSE NEIGHBOUR: 'it returns false'. Refute it at one input. -/
def joinSidesWrong : ChangeSpec := { name := "joinSides", fn := fun _ => fun
  | [d1, d2, d3, d4] => { results := [.lit (.bool false)], args := [d1, d2, d3, d4] }
  | _ => none }
def JoinSidesWrongFalsely : Prop := joinSidesRow.holds Tryz.pinned (OpenSpec.ofChange joinSidesWrong)

/-- 'tailwaterlaw33.JoinOrder': WHATEVER THE INPUT: true; the input reads as it did. -/
def joinOrderSpec : ChangeSpec := { name := "joinOrder", fn := fun _ => fun
  | [d1, d2, d3] => { results := [.lit (.bool true)], args := [d1, d2, d3] }
  | _ => none }
def joinOrderRow : OpenClaim := { program := "ytneciiakpbfnjaagreat", sum := "fb6e6acaf16fc87d1e242fcf00a59cc901f32d3feda8d82649303958bd11adc3", func := "tailwater/tailwaterlaw33.JoinOrder", spec := "joinOrder", inPlace := ["slices.overlaps[tailwater/api.Entry]"], unfollowed := true, recurses := true, apart := false }
def JoinOrderSaid : Prop := joinOrderRow.holds Tryz.pinned (OpenSpec.ofChange joinOrderSpec)

/-- ITS FALSE NEIGHBOUR: 'it returns false'. Refute it at one input. -/
def joinOrderWrong : ChangeSpec := { name := "joinOrder", fn := fun _ => fun
  | [d1, d2, d3] => { results := [.lit (.bool false)], args := [d1, d2, d3] }
  | _ => none }
def JoinOrderWrongFalsely : Prop := joinOrderRow.holds Tryz.pinned (OpenSpec.ofChange joinOrderWrong)

/-- 'tailwaterlaw33.JoinTakes': WHATEVER THE INPUT: true; the input reads as it did. -/
def joinTakesSpec : ChangeSpec := { name := "joinTakes", fn := fun _ => fun
  | [d1, d2, d3, d4, d5, d6] => { results := [.lit (.bool true)], args := [d1, d2, d3, d4, d5, d6] }
  | _ => none }
def joinTakesRow : OpenClaim := { program := "ytneciiakpbfnjaagreat", sum := "fb6e6acaf16fc87d1e242fcf00a59cc901f32d3feda8d82649303958bd11adc3", func := "tailwater/tailwaterlaw33.JoinTakes", spec := "joinTakes", inPlace := ["slices.overlaps[tailwater/api.Entry]"], unfollowed := true, recurses := true, apart := false }
def JoinTakesSaid : Prop := joinTakesRow.holds Tryz.pinned (OpenSpec.ofChange joinTakesSpec)

/-- ITS FALSE NEIGHBOUR: 'it returns false'. Refute it at one input. -/
def joinTakesWrong : ChangeSpec := { name := "joinTakes", fn := fun _ => fun
  | [d1, d2, d3, d4, d5, d6] => { results := [.lit (.bool false)], args := [d1, d2, d3, d4, d5, d6] }
  | _ => none }
def JoinTakesWrongFalsely : Prop := joinTakesRow.holds Tryz.pinned (OpenSpec.ofChange joinTakesWrong)

/-- 'tailwaterlaw33.JoinNames': WHATEVER THE INPUT: true; the input reads as it did. -/
def joinNamesSpec : ChangeSpec := { name := "joinNames", fn := fun _ => fun
  | [] => { results := [.lit (.bool true)], args := [] }
  | _ => none }
def joinNamesRow : OpenClaim := { program := "ytneciiakpbfnjaagreat", sum := "fb6e6acaf16fc87d1e242fcf00a59cc901f32d3feda8d82649303958bd11adc3", func := "tailwater/tailwaterlaw33.JoinNames", spec := "joinNames", inPlace := ["slices.overlaps[tailwater/api.Entry]"], unfollowed := true, recurses := true, apart := false }
def JoinNamesSaid : Prop := joinNamesRow.holds Tryz.pinned (OpenSpec.ofChange joinNamesSpec)

/-- ITS FALSE NEIGHBOUR: 'it returns false'. Refute it at one input. -/
def joinNamesWrong : ChangeSpec := { name := "joinNames", fn := fun _ => fun
  | [] => { results := [.lit (.bool false)], args := [] }
  | _ => none }
def JoinNamesWrongFalsely : Prop := joinNamesRow.holds Tryz.pinned (OpenSpec.ofChange joinNamesWrong)

/-- 'tailwaterlaw33.JoinBoth': WHATEVER THE INPUT: true; the input reads as it did. -/
def joinBothSpec : ChangeSpec := { name := "joinBoth", fn := fun _ => fun
  | [d1, d2, d3] => { results := [.lit (.bool true)], args := [d1, d2, d3] }
  | _ => none }
def joinBothRow : OpenClaim := { program := "ytneciiakpbfnjaagreat", sum := "fb6e6acaf16fc87d1e242fcf00a59cc901f32d3feda8d82649303958bd11adc3", func := "tailwater/tailwaterlaw33.JoinBoth", spec := "joinBoth", inPlace := ["slices.overlaps[tailwater/api.Entry]"], unfollowed := true, recurses := true, apart := false }
def JoinBothSaid : Prop := joinBothRow.holds Tryz.pinned (OpenSpec.ofChange joinBothSpec)

/-- ITS FALSE NEIGHBOUR: 'it returns false'. Refute it at one input. -/
def joinBothWrong : ChangeSpec := { name := "joinBoth", fn := fun _ => fun
  | [d1, d2, d3] => { results := [.lit (.bool false)], args := [d1, d2, d3] }
  | _ => none }
def JoinBothWrongFalsely : Prop := joinBothRow.holds Tryz.pinned (OpenSpec.ofChange joinBothWrong)

/- THE SECOND FORM. 'bulk': how many values and letters a reading holds, each counted each time it is reached (what is shared counts as often as it is met; a slice's spare places count too). A statement '..UptoSaid' is the law's where the arguments, and the package variables that the reading takes, are together of bulk at most 1048576: NARROWER than '..Said'. Prove '..Said' where nothing that the law and all that it calls make is longer than what came in: it says more and counts as full. Else prove '..UptoSaid'. A law counts once. -/
mutual
def uptoBulk {H : Type} : DataW H → Nat
  | .lit (.string bytes) => bytes.length + 1
  | .lit _ => 1
  | .nil => 1
  | .ptr d => uptoBulk d + 1
  | .slice elems spare => uptoBulkAll elems + uptoBulkAll spare + 1
  | .agg parts => uptoBulkAll parts + 1
  | .iface _ d => uptoBulk d + 1
  | .map entries => uptoBulkEntries entries + 1
  | .held _ => 1
def uptoBulkAll {H : Type} : List (DataW H) → Nat
  | [] => 0
  | d :: r => uptoBulk d + uptoBulkAll r
def uptoBulkEntries {H : Type} : List (Lit × DataW H) → Nat
  | [] => 0
  | x :: r => uptoBulkEntry x + uptoBulkEntries r
def uptoBulkEntry {H : Type} : Lit × DataW H → Nat
  | (.string bytes, d) => bytes.length + uptoBulk d + 1
  | (_, d) => uptoBulk d + 1
 end
def uptoSmall : (H : Type) → List (DataW H) → Bool := fun _ ds => decide (uptoBulkAll ds ≤ 1048576)
def OpenSpec.upto (s : _root_.Go.ChangeSpec) : _root_.Go.OpenSpec := { _root_.Go.OpenSpec.ofChange s with cond := some uptoSmall }

/-- 'tailwaterlaw33.JoinSides', WHERE WHAT IT READS IS OF BULK AT MOST 1048576: true; the input reads as it did. -/
def joinSidesUptoRow : OpenClaim := { program := "ytneciiakpbfnjaagreat", sum := "fb6e6acaf16fc87d1e242fcf00a59cc901f32d3feda8d82649303958bd11adc3", func := "tailwater/tailwaterlaw33.JoinSides", spec := "joinSides", inPlace := ["slices.overlaps[tailwater/api.Entry]"], unfollowed := true, recurses := true, apart := false, narrowed := true }
def JoinSidesUptoSaid : Prop := joinSidesUptoRow.holds Tryz.pinned (OpenSpec.upto joinSidesSpec)

/-- 'tailwaterlaw33.JoinOrder', WHERE WHAT IT READS IS OF BULK AT MOST 1048576: true; the input reads as it did. -/
def joinOrderUptoRow : OpenClaim := { program := "ytneciiakpbfnjaagreat", sum := "fb6e6acaf16fc87d1e242fcf00a59cc901f32d3feda8d82649303958bd11adc3", func := "tailwater/tailwaterlaw33.JoinOrder", spec := "joinOrder", inPlace := ["slices.overlaps[tailwater/api.Entry]"], unfollowed := true, recurses := true, apart := false, narrowed := true }
def JoinOrderUptoSaid : Prop := joinOrderUptoRow.holds Tryz.pinned (OpenSpec.upto joinOrderSpec)

/-- 'tailwaterlaw33.JoinTakes', WHERE WHAT IT READS IS OF BULK AT MOST 1048576: true; the input reads as it did. -/
def joinTakesUptoRow : OpenClaim := { program := "ytneciiakpbfnjaagreat", sum := "fb6e6acaf16fc87d1e242fcf00a59cc901f32d3feda8d82649303958bd11adc3", func := "tailwater/tailwaterlaw33.JoinTakes", spec := "joinTakes", inPlace := ["slices.overlaps[tailwater/api.Entry]"], unfollowed := true, recurses := true, apart := false, narrowed := true }
def JoinTakesUptoSaid : Prop := joinTakesUptoRow.holds Tryz.pinned (OpenSpec.upto joinTakesSpec)

/-- 'tailwaterlaw33.JoinNames', WHERE WHAT IT READS IS OF BULK AT MOST 1048576: true; the input reads as it did. -/
def joinNamesUptoRow : OpenClaim := { program := "ytneciiakpbfnjaagreat", sum := "fb6e6acaf16fc87d1e242fcf00a59cc901f32d3feda8d82649303958bd11adc3", func := "tailwater/tailwaterlaw33.JoinNames", spec := "joinNames", inPlace := ["slices.overlaps[tailwater/api.Entry]"], unfollowed := true, recurses := true, apart := false, narrowed := true }
def JoinNamesUptoSaid : Prop := joinNamesUptoRow.holds Tryz.pinned (OpenSpec.upto joinNamesSpec)

/-- 'tailwaterlaw33.JoinBoth', WHERE WHAT IT READS IS OF BULK AT MOST 1048576: true; the input reads as it did. -/
def joinBothUptoRow : OpenClaim := { program := "ytneciiakpbfnjaagreat", sum := "fb6e6acaf16fc87d1e242fcf00a59cc901f32d3feda8d82649303958bd11adc3", func := "tailwater/tailwaterlaw33.JoinBoth", spec := "joinBoth", inPlace := ["slices.overlaps[tailwater/api.Entry]"], unfollowed := true, recurses := true, apart := false, narrowed := true }
def JoinBothUptoSaid : Prop := joinBothUptoRow.holds Tryz.pinned (OpenSpec.upto joinBothSpec)

end Rows
end Go.Proofs.YtneciiakpbfnjaaGreat
