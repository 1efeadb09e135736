/-
  No cell of these rows narrows 'for every input' (looked for: loops, veiled, ifaces, maps, wideKeys, modest, calm, conditions, laid).
  DERIVED. THE GIVEN ROWS OF THIS SEAT. 8 by the template 'for every input the law returns true; each argument reads behind the call as it read before'; 0 by the template 'total and deterministic' (their statements: YtkjlgmgfhgamlaaGreatTotals.lean).
  GIVEN WITH THE SEED: the statements are not yours to turn. If you find one false, say at which input.
  Laid BY PROGRAM, IN A SANDBOX (cutbox-rows.mjs): the forced cells as the released guide's own fill.sh prints them over the translation bb4703238ddc0625… (all of the seat's roots in one cut). By AI agents, Wed Nov 11 2026. No macro, syntax, notation, axiom, sorry.
-/
import Derived.Test.YtkjlgmgfhgamlaaGreatChecked
import GoSem.Claim
import GoSem.ClaimJoined
import GoSem.ClaimMapViews
import Derived.JoinedTies
import Derived.KernelRfl
namespace Go.Proofs.YtkjlgmgfhgamlaaGreat
/- THE CELL 'sum', in the pinned program and in every row, IS THE sha256 OF THE DUMP (.gsa) THAT YtkjlgmgfhgamlaaGreatProg.lean LOADS. Nothing in Lean hashes anything: it is a label: what it is worth is what the hold of that sum in a sandbox is worth. -/
noncomputable def Tryz.pinned : Pinned := { name := "ytkjlgmgfhgamlaagreat", sum := "bb4703238ddc06259e878b568968fb147bc825325113793936db113f19072a6f", checked := Tryz.checked }
namespace Rows
def none {H : Type} : Left H := { results := [], args := [] }

/-- 'tailwaterlaw33.JoinSides': WHATEVER THE INPUT: true; the input reads as it did. -/
def joinSidesSpec : ChangeSpec := { name := "joinSides", fn := fun _ => fun
  | [d1, d2, d3, d4] => { results := [.lit (.bool true)], args := [d1, d2, d3, d4] }
  | _ => none }
def joinSidesRow : OpenClaim := { program := "ytkjlgmgfhgamlaagreat", sum := "bb4703238ddc06259e878b568968fb147bc825325113793936db113f19072a6f", func := "tailwater/tailwaterlaw33.JoinSides", spec := "joinSides", inPlace := ["slices.overlaps[tailwater/api.Entry]"], unfollowed := true, recurses := true, apart := false }
def JoinSidesSaid : Prop := joinSidesRow.holds Tryz.pinned (OpenSpec.ofChange joinSidesSpec)

/-- ITS FALSE NEIGHBOUR: 'it returns false'. Refute it at one input. -/
def joinSidesWrong : ChangeSpec := { name := "joinSides", fn := fun _ => fun
  | [d1, d2, d3, d4] => { results := [.lit (.bool false)], args := [d1, d2, d3, d4] }
  | _ => none }
def JoinSidesWrongFalsely : Prop := joinSidesRow.holds Tryz.pinned (OpenSpec.ofChange joinSidesWrong)

/-- 'tailwaterlaw33.JoinOrder': WHATEVER THE INPUT: true; the input reads as it did. -/
def joinOrderSpec : ChangeSpec := { name := "joinOrder", fn := fun _ => fun
  | [d1, d2, d3] => { results := [.lit (.bool true)], args := [d1, d2, d3] }
  | _ => none }
def joinOrderRow : OpenClaim := { program := "ytkjlgmgfhgamlaagreat", sum := "bb4703238ddc06259e878b568968fb147bc825325113793936db113f19072a6f", func := "tailwater/tailwaterlaw33.JoinOrder", spec := "joinOrder", inPlace := ["slices.overlaps[tailwater/api.Entry]"], unfollowed := true, recurses := true, apart := false }
def JoinOrderSaid : Prop := joinOrderRow.holds Tryz.pinned (OpenSpec.ofChange joinOrderSpec)

/-- ITS FALSE NEIGHBOUR: 'it returns false'. Refute it at one input. -/
def joinOrderWrong : ChangeSpec := { name := "joinOrder", fn := fun _ => fun
  | [d1, d2, d3] => { results := [.lit (.bool false)], args := [d1, d2, d3] }
  | _ => none }
def JoinOrderWrongFalsely : Prop := joinOrderRow.holds Tryz.pinned (OpenSpec.ofChange joinOrderWrong)

/-- 'tailwaterlaw32.AggOrder': WHATEVER THE INPUT: true; the input reads as it did. -/
def aggOrderSpec : ChangeSpec := { name := "aggOrder", fn := fun _ => fun
  | [d1, d2, d3] => { results := [.lit (.bool true)], args := [d1, d2, d3] }
  | _ => none }
def aggOrderRow : OpenClaim := { program := "ytkjlgmgfhgamlaagreat", sum := "bb4703238ddc06259e878b568968fb147bc825325113793936db113f19072a6f", func := "tailwater/tailwaterlaw32.AggOrder", spec := "aggOrder", inPlace := ["slices.overlaps[tailwater/api.Entry]"], unfollowed := true, recurses := true, apart := false }
def AggOrderSaid : Prop := aggOrderRow.holds Tryz.pinned (OpenSpec.ofChange aggOrderSpec)

/-- ITS FALSE NEIGHBOUR: 'it returns false'. Refute it at one input. -/
def aggOrderWrong : ChangeSpec := { name := "aggOrder", fn := fun _ => fun
  | [d1, d2, d3] => { results := [.lit (.bool false)], args := [d1, d2, d3] }
  | _ => none }
def AggOrderWrongFalsely : Prop := aggOrderRow.holds Tryz.pinned (OpenSpec.ofChange aggOrderWrong)

/-- 'tailwaterlaw32.AggFinal': WHATEVER THE INPUT: true; the input reads as it did. -/
def aggFinalSpec : ChangeSpec := { name := "aggFinal", fn := fun _ => fun
  | [d1, d2] => { results := [.lit (.bool true)], args := [d1, d2] }
  | _ => none }
def aggFinalRow : OpenClaim := { program := "ytkjlgmgfhgamlaagreat", sum := "bb4703238ddc06259e878b568968fb147bc825325113793936db113f19072a6f", func := "tailwater/tailwaterlaw32.AggFinal", spec := "aggFinal", inPlace := ["slices.overlaps[tailwater/api.Entry]"], unfollowed := true, recurses := true, apart := false }
def AggFinalSaid : Prop := aggFinalRow.holds Tryz.pinned (OpenSpec.ofChange aggFinalSpec)

/-- ITS FALSE NEIGHBOUR: 'it returns false'. Refute it at one input. -/
def aggFinalWrong : ChangeSpec := { name := "aggFinal", fn := fun _ => fun
  | [d1, d2] => { results := [.lit (.bool false)], args := [d1, d2] }
  | _ => none }
def AggFinalWrongFalsely : Prop := aggFinalRow.holds Tryz.pinned (OpenSpec.ofChange aggFinalWrong)

/-- 'tailwaterlaw33.JoinTakes': WHATEVER THE INPUT: true; the input reads as it did. -/
def joinTakesSpec : ChangeSpec := { name := "joinTakes", fn := fun _ => fun
  | [d1, d2, d3, d4, d5, d6] => { results := [.lit (.bool true)], args := [d1, d2, d3, d4, d5, d6] }
  | _ => none }
def joinTakesRow : OpenClaim := { program := "ytkjlgmgfhgamlaagreat", sum := "bb4703238ddc06259e878b568968fb147bc825325113793936db113f19072a6f", func := "tailwater/tailwaterlaw33.JoinTakes", spec := "joinTakes", inPlace := ["slices.overlaps[tailwater/api.Entry]"], unfollowed := true, recurses := true, apart := false }
def JoinTakesSaid : Prop := joinTakesRow.holds Tryz.pinned (OpenSpec.ofChange joinTakesSpec)

/-- ITS FALSE NEIGHBOUR: 'it returns false'. Refute it at one input. -/
def joinTakesWrong : ChangeSpec := { name := "joinTakes", fn := fun _ => fun
  | [d1, d2, d3, d4, d5, d6] => { results := [.lit (.bool false)], args := [d1, d2, d3, d4, d5, d6] }
  | _ => none }
def JoinTakesWrongFalsely : Prop := joinTakesRow.holds Tryz.pinned (OpenSpec.ofChange joinTakesWrong)

/-- 'tailwaterlaw33.JoinBoth': WHATEVER THE INPUT: true; the input reads as it did. -/
def joinBothSpec : ChangeSpec := { name := "joinBoth", fn := fun _ => fun
  | [d1, d2, d3] => { results := [.lit (.bool true)], args := [d1, d2, d3] }
  | _ => none }
def joinBothRow : OpenClaim := { program := "ytkjlgmgfhgamlaagreat", sum := "bb4703238ddc06259e878b568968fb147bc825325113793936db113f19072a6f", func := "tailwater/tailwaterlaw33.JoinBoth", spec := "joinBoth", inPlace := ["slices.overlaps[tailwater/api.Entry]"], unfollowed := true, recurses := true, apart := false }
def JoinBothSaid : Prop := joinBothRow.holds Tryz.pinned (OpenSpec.ofChange joinBothSpec)

/-- ITS FALSE NEIGHBOUR: 'it returns false'. Refute it at one input. -/
def joinBothWrong : ChangeSpec := { name := "joinBoth", fn := fun _ => fun
  | [d1, d2, d3] => { results := [.lit (.bool false)], args := [d1, d2, d3] }
  | _ => none }
def JoinBothWrongFalsely : Prop := joinBothRow.holds Tryz.pinned (OpenSpec.ofChange joinBothWrong)

/-- 'tailwaterlaw32.AggTakes': WHATEVER THE INPUT: true; the input reads as it did. -/
def aggTakesSpec : ChangeSpec := { name := "aggTakes", fn := fun _ => fun
  | [d1, d2, d3, d4, d5, d6] => { results := [.lit (.bool true)], args := [d1, d2, d3, d4, d5, d6] }
  | _ => none }
def aggTakesRow : OpenClaim := { program := "ytkjlgmgfhgamlaagreat", sum := "bb4703238ddc06259e878b568968fb147bc825325113793936db113f19072a6f", func := "tailwater/tailwaterlaw32.AggTakes", spec := "aggTakes", inPlace := ["slices.overlaps[tailwater/api.Entry]"], unfollowed := true, recurses := true, apart := false }
def AggTakesSaid : Prop := aggTakesRow.holds Tryz.pinned (OpenSpec.ofChange aggTakesSpec)

/-- ITS FALSE NEIGHBOUR: 'it returns false'. Refute it at one input. -/
def aggTakesWrong : ChangeSpec := { name := "aggTakes", fn := fun _ => fun
  | [d1, d2, d3, d4, d5, d6] => { results := [.lit (.bool false)], args := [d1, d2, d3, d4, d5, d6] }
  | _ => none }
def AggTakesWrongFalsely : Prop := aggTakesRow.holds Tryz.pinned (OpenSpec.ofChange aggTakesWrong)

/-- 'tailwaterlaw32.AggOnce': WHATEVER THE INPUT: true; the input reads as it did. -/
def aggOnceSpec : ChangeSpec := { name := "aggOnce", fn := fun _ => fun
  | [d1, d2, d3, d4] => { results := [.lit (.bool true)], args := [d1, d2, d3, d4] }
  | _ => none }
def aggOnceRow : OpenClaim := { program := "ytkjlgmgfhgamlaagreat", sum := "bb4703238ddc06259e878b568968fb147bc825325113793936db113f19072a6f", func := "tailwater/tailwaterlaw32.AggOnce", spec := "aggOnce", inPlace := ["slices.overlaps[tailwater/api.Entry]"], unfollowed := true, recurses := true, apart := false }
def AggOnceSaid : Prop := aggOnceRow.holds Tryz.pinned (OpenSpec.ofChange aggOnceSpec)

/-- ITS FALSE NEIGHBOUR: 'it returns false'. Refute it at one input. -/
def aggOnceWrong : ChangeSpec := { name := "aggOnce", fn := fun _ => fun
  | [d1, d2, d3, d4] => { results := [.lit (.bool false)], args := [d1, d2, d3, d4] }
  | _ => none }
def AggOnceWrongFalsely : Prop := aggOnceRow.holds Tryz.pinned (OpenSpec.ofChange aggOnceWrong)

/- THE SECOND FORM. 'bulk': how many values and letters a reading holds, each counted each time it is reached (what is shared counts as often as it is met; a slice's spare places count too). A statement '..UptoSaid' is the law's where the arguments, and the package variables that the reading takes, are together of bulk at most 1048576: NARROWER than '..Said'. Prove '..Said' where nothing that the law and all that it calls make is longer than what came in: it says more and counts as full. Else prove '..UptoSaid'. A law counts once. -/
mutual
def uptoBulk {H : Type} : DataW H → Nat
  | .lit (.string bytes) => bytes.length + 1
  | .lit _ => 1
  | .nil => 1
  | .ptr d => uptoBulk d + 1
  | .slice elems spare => uptoBulkAll elems + uptoBulkAll spare + 1
  | .agg parts => uptoBulkAll parts + 1
  | .iface _ d => uptoBulk d + 1
  | .map entries => uptoBulkEntries entries + 1
  | .held _ => 1
def uptoBulkAll {H : Type} : List (DataW H) → Nat
  | [] => 0
  | d :: r => uptoBulk d + uptoBulkAll r
def uptoBulkEntries {H : Type} : List (Lit × DataW H) → Nat
  | [] => 0
  | x :: r => uptoBulkEntry x + uptoBulkEntries r
def uptoBulkEntry {H : Type} : Lit × DataW H → Nat
  | (.string bytes, d) => bytes.length + uptoBulk d + 1
  | (_, d) => uptoBulk d + 1
 end
def uptoSmall : (H : Type) → List (DataW H) → Bool := fun _ ds => decide (uptoBulkAll ds ≤ 1048576)
def OpenSpec.upto (s : _root_.Go.ChangeSpec) : _root_.Go.OpenSpec := { _root_.Go.OpenSpec.ofChange s with cond := some uptoSmall }

/-- 'tailwaterlaw33.JoinSides', WHERE WHAT IT READS IS OF BULK AT MOST 1048576: true; the input reads as it did. -/
def joinSidesUptoRow : OpenClaim := { program := "ytkjlgmgfhgamlaagreat", sum := "bb4703238ddc06259e878b568968fb147bc825325113793936db113f19072a6f", func := "tailwater/tailwaterlaw33.JoinSides", spec := "joinSides", inPlace := ["slices.overlaps[tailwater/api.Entry]"], unfollowed := true, recurses := true, apart := false, narrowed := true }
def JoinSidesUptoSaid : Prop := joinSidesUptoRow.holds Tryz.pinned (OpenSpec.upto joinSidesSpec)

/-- 'tailwaterlaw33.JoinOrder', WHERE WHAT IT READS IS OF BULK AT MOST 1048576: true; the input reads as it did. -/
def joinOrderUptoRow : OpenClaim := { program := "ytkjlgmgfhgamlaagreat", sum := "bb4703238ddc06259e878b568968fb147bc825325113793936db113f19072a6f", func := "tailwater/tailwaterlaw33.JoinOrder", spec := "joinOrder", inPlace := ["slices.overlaps[tailwater/api.Entry]"], unfollowed := true, recurses := true, apart := false, narrowed := true }
def JoinOrderUptoSaid : Prop := joinOrderUptoRow.holds Tryz.pinned (OpenSpec.upto joinOrderSpec)

/-- 'tailwaterlaw32.AggOrder', WHERE WHAT IT READS IS OF BULK AT MOST 1048576: true; the input reads as it did. -/
def aggOrderUptoRow : OpenClaim := { program := "ytkjlgmgfhgamlaagreat", sum := "bb4703238ddc06259e878b568968fb147bc825325113793936db113f19072a6f", func := "tailwater/tailwaterlaw32.AggOrder", spec := "aggOrder", inPlace := ["slices.overlaps[tailwater/api.Entry]"], unfollowed := true, recurses := true, apart := false, narrowed := true }
def AggOrderUptoSaid : Prop := aggOrderUptoRow.holds Tryz.pinned (OpenSpec.upto aggOrderSpec)

/-- 'tailwaterlaw32.AggFinal', WHERE WHAT IT READS IS OF BULK AT MOST 1048576: true; the input reads as it did. -/
def aggFinalUptoRow : OpenClaim := { program := "ytkjlgmgfhgamlaagreat", sum := "bb4703238ddc06259e878b568968fb147bc825325113793936db113f19072a6f", func := "tailwater/tailwaterlaw32.AggFinal", spec := "aggFinal", inPlace := ["slices.overlaps[tailwater/api.Entry]"], unfollowed := true, recurses := true, apart := false, narrowed := true }
def AggFinalUptoSaid : Prop := aggFinalUptoRow.holds Tryz.pinned (OpenSpec.upto aggFinalSpec)

/-- 'tailwaterlaw33.JoinTakes', WHERE WHAT IT READS IS OF BULK AT MOST 1048576: true; the input reads as it did. -/
def joinTakesUptoRow : OpenClaim := { program := "ytkjlgmgfhgamlaagreat", sum := "bb4703238ddc06259e878b568968fb147bc825325113793936db113f19072a6f", func := "tailwater/tailwaterlaw33.JoinTakes", spec := "joinTakes", inPlace := ["slices.overlaps[tailwater/api.Entry]"], unfollowed := true, recurses := true, apart := false, narrowed := true }
def JoinTakesUptoSaid : Prop := joinTakesUptoRow.holds Tryz.pinned (OpenSpec.upto joinTakesSpec)

/-- 'tailwaterlaw33.JoinBoth', WHERE WHAT IT READS IS OF BULK AT MOST 1048576: true; the input reads as it did. -/
def joinBothUptoRow : OpenClaim := { program := "ytkjlgmgfhgamlaagreat", sum := "bb4703238ddc06259e878b568968fb147bc825325113793936db113f19072a6f", func := "tailwater/tailwaterlaw33.JoinBoth", spec := "joinBoth", inPlace := ["slices.overlaps[tailwater/api.Entry]"], unfollowed := true, recurses := true, apart := false, narrowed := true }
def JoinBothUptoSaid : Prop := joinBothUptoRow.holds Tryz.pinned (OpenSpec.upto joinBothSpec)

/-- 'tailwaterlaw32.AggTakes', WHERE WHAT IT READS IS OF BULK AT MOST 1048576: true; the input reads as it did. -/
def aggTakesUptoRow : OpenClaim := { program := "ytkjlgmgfhgamlaagreat", sum := "bb4703238ddc06259e878b568968fb147bc825325113793936db113f19072a6f", func := "tailwater/tailwaterlaw32.AggTakes", spec := "aggTakes", inPlace := ["slices.overlaps[tailwater/api.Entry]"], unfollowed := true, recurses := true, apart := false, narrowed := true }
def AggTakesUptoSaid : Prop := aggTakesUptoRow.holds Tryz.pinned (OpenSpec.upto aggTakesSpec)

/-- 'tailwaterlaw32.AggOnce', WHERE WHAT IT READS IS OF BULK AT MOST 1048576: true; the input reads as it did. -/
def aggOnceUptoRow : OpenClaim := { program := "ytkjlgmgfhgamlaagreat", sum := "bb4703238ddc06259e878b568968fb147bc825325113793936db113f19072a6f", func := "tailwater/tailwaterlaw32.AggOnce", spec := "aggOnce", inPlace := ["slices.overlaps[tailwater/api.Entry]"], unfollowed := true, recurses := true, apart := false, narrowed := true }
def AggOnceUptoSaid : Prop := aggOnceUptoRow.holds Tryz.pinned (OpenSpec.upto aggOnceSpec)

end Rows
end Go.Proofs.YtkjlgmgfhgamlaaGreat
