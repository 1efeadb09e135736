/-
  No cell of these rows narrows 'for every input' (looked for: loops, veiled, ifaces, maps, wideKeys, modest, calm, conditions, laid).
  DERIVED. THE GIVEN ROWS OF THIS SEAT. 7 by the template 'for every input the law returns true; each argument reads behind the call as it read before'; 0 by the template 'total and deterministic' (their statements: YtioookhnoobpgaaTotals.lean).
  GIVEN WITH THE SEED: the statements are not yours to turn. If you find one false, say at which input.
  Laid BY PROGRAM, IN A SANDBOX (cutbox-rows.mjs): the forced cells as the released guide's own fill.sh prints them over the translation 6d0e271d4846632c… (all of the seat's roots in one cut). By AI agents, Wed Nov 11 2026. No macro, syntax, notation, axiom, sorry.
-/
import Derived.Test.YtioookhnoobpgaaChecked
import GoSem.Claim
import GoSem.ClaimJoined
import GoSem.ClaimMapViews
import Derived.JoinedTies
import Derived.KernelRfl
namespace Go.Proofs.Ytioookhnoobpgaa
/- THE CELL 'sum', in the pinned program and in every row, IS THE sha256 OF THE DUMP (.gsa) THAT YtioookhnoobpgaaProg.lean LOADS. Nothing in Lean hashes anything: it is a label: what it is worth is what the hold of that sum in a sandbox is worth. -/
noncomputable def Try.pinned : Pinned := { name := "ytioookhnoobpgaa", sum := "6d0e271d4846632c23e6d8f791294e744c0f075657bf1389841c97d7d58d1491", checked := Try.checked }
namespace Rows
def none {H : Type} : Left H := { results := [], args := [] }

/-- 'tailwaterlaw40.PrefixParts': WHATEVER THE INPUT: true; the input reads as it did. -/
def prefixPartsSpec : ChangeSpec := { name := "prefixParts", fn := fun _ => fun
  | [d1, d2] => { results := [.lit (.bool true)], args := [d1, d2] }
  | _ => none }
def prefixPartsRow : OpenClaim := { program := "ytioookhnoobpgaa", sum := "6d0e271d4846632c23e6d8f791294e744c0f075657bf1389841c97d7d58d1491", func := "tailwater/tailwaterlaw40.PrefixParts", spec := "prefixParts", plainKeys := false, apart := false }
def PrefixPartsSaid : Prop := prefixPartsRow.holds Try.pinned (OpenSpec.ofChange prefixPartsSpec)

/-- ITS FALSE NEIGHBOUR: 'it returns false'. Refute it at one input. -/
def prefixPartsWrong : ChangeSpec := { name := "prefixParts", fn := fun _ => fun
  | [d1, d2] => { results := [.lit (.bool false)], args := [d1, d2] }
  | _ => none }
def PrefixPartsWrongFalsely : Prop := prefixPartsRow.holds Try.pinned (OpenSpec.ofChange prefixPartsWrong)

/-- 'tailwaterlaw20.LateTells': WHATEVER THE INPUT: true; the input reads as it did. -/
def lateTellsSpec : ChangeSpec := { name := "lateTells", fn := fun _ => fun
  | [d] => { results := [.lit (.bool true)], args := [d] }
  | _ => none }
def lateTellsRow : OpenClaim := { program := "ytioookhnoobpgaa", sum := "6d0e271d4846632c23e6d8f791294e744c0f075657bf1389841c97d7d58d1491", func := "tailwater/tailwaterlaw20.LateTells", spec := "lateTells", unfollowed := true, recurses := true, plainKeys := false, apart := false }
def LateTellsSaid : Prop := lateTellsRow.holds Try.pinned (OpenSpec.ofChange lateTellsSpec)

/-- ITS FALSE NEIGHBOUR: 'it returns false'. Refute it at one input. -/
def lateTellsWrong : ChangeSpec := { name := "lateTells", fn := fun _ => fun
  | [d] => { results := [.lit (.bool false)], args := [d] }
  | _ => none }
def LateTellsWrongFalsely : Prop := lateTellsRow.holds Try.pinned (OpenSpec.ofChange lateTellsWrong)

/-- 'tailwaterlaw20.LateNames': WHATEVER THE INPUT: true; the input reads as it did. -/
def lateNamesSpec : ChangeSpec := { name := "lateNames", fn := fun _ => fun
  | [] => { results := [.lit (.bool true)], args := [] }
  | _ => none }
def lateNamesRow : OpenClaim := { program := "ytioookhnoobpgaa", sum := "6d0e271d4846632c23e6d8f791294e744c0f075657bf1389841c97d7d58d1491", func := "tailwater/tailwaterlaw20.LateNames", spec := "lateNames", unfollowed := true, recurses := true, plainKeys := false, apart := false }
def LateNamesSaid : Prop := lateNamesRow.holds Try.pinned (OpenSpec.ofChange lateNamesSpec)

/-- ITS FALSE NEIGHBOUR: 'it returns false'. Refute it at one input. -/
def lateNamesWrong : ChangeSpec := { name := "lateNames", fn := fun _ => fun
  | [] => { results := [.lit (.bool false)], args := [] }
  | _ => none }
def LateNamesWrongFalsely : Prop := lateNamesRow.holds Try.pinned (OpenSpec.ofChange lateNamesWrong)

/-- 'tailwaterlaw20.LateOwn': WHATEVER THE INPUT: true; the input reads as it did. -/
def lateOwnSpec : ChangeSpec := { name := "lateOwn", fn := fun _ => fun
  | [d] => { results := [.lit (.bool true)], args := [d] }
  | _ => none }
def lateOwnRow : OpenClaim := { program := "ytioookhnoobpgaa", sum := "6d0e271d4846632c23e6d8f791294e744c0f075657bf1389841c97d7d58d1491", func := "tailwater/tailwaterlaw20.LateOwn", spec := "lateOwn", unfollowed := true, recurses := true, plainKeys := false, apart := false }
def LateOwnSaid : Prop := lateOwnRow.holds Try.pinned (OpenSpec.ofChange lateOwnSpec)

/-- ITS FALSE NEIGHBOUR: 'it returns false'. Refute it at one input. -/
def lateOwnWrong : ChangeSpec := { name := "lateOwn", fn := fun _ => fun
  | [d] => { results := [.lit (.bool false)], args := [d] }
  | _ => none }
def LateOwnWrongFalsely : Prop := lateOwnRow.holds Try.pinned (OpenSpec.ofChange lateOwnWrong)

/-- 'tailwaterlaw20.LateGrows': WHATEVER THE INPUT: true; the input reads as it did. -/
def lateGrowsSpec : ChangeSpec := { name := "lateGrows", fn := fun _ => fun
  | [d1, d2, d3] => { results := [.lit (.bool true)], args := [d1, d2, d3] }
  | _ => none }
def lateGrowsRow : OpenClaim := { program := "ytioookhnoobpgaa", sum := "6d0e271d4846632c23e6d8f791294e744c0f075657bf1389841c97d7d58d1491", func := "tailwater/tailwaterlaw20.LateGrows", spec := "lateGrows", unfollowed := true, recurses := true, plainKeys := false, apart := false }
def LateGrowsSaid : Prop := lateGrowsRow.holds Try.pinned (OpenSpec.ofChange lateGrowsSpec)

/-- ITS FALSE NEIGHBOUR: 'it returns false'. Refute it at one input. -/
def lateGrowsWrong : ChangeSpec := { name := "lateGrows", fn := fun _ => fun
  | [d1, d2, d3] => { results := [.lit (.bool false)], args := [d1, d2, d3] }
  | _ => none }
def LateGrowsWrongFalsely : Prop := lateGrowsRow.holds Try.pinned (OpenSpec.ofChange lateGrowsWrong)

/-- 'tailwaterlaw20.LateEnds': WHATEVER THE INPUT: true; the input reads as it did. -/
def lateEndsSpec : ChangeSpec := { name := "lateEnds", fn := fun _ => fun
  | [d] => { results := [.lit (.bool true)], args := [d] }
  | _ => none }
def lateEndsRow : OpenClaim := { program := "ytioookhnoobpgaa", sum := "6d0e271d4846632c23e6d8f791294e744c0f075657bf1389841c97d7d58d1491", func := "tailwater/tailwaterlaw20.LateEnds", spec := "lateEnds", unfollowed := true, recurses := true, plainKeys := false, apart := false }
def LateEndsSaid : Prop := lateEndsRow.holds Try.pinned (OpenSpec.ofChange lateEndsSpec)

/-- ITS FALSE NEIGHBOUR: 'it returns false'. Refute it at one input. -/
def lateEndsWrong : ChangeSpec := { name := "lateEnds", fn := fun _ => fun
  | [d] => { results := [.lit (.bool false)], args := [d] }
  | _ => none }
def LateEndsWrongFalsely : Prop := lateEndsRow.holds Try.pinned (OpenSpec.ofChange lateEndsWrong)

/-- 'tailwaterlaw20.LateParts': WHATEVER THE INPUT: true; the input reads as it did. -/
def latePartsSpec : ChangeSpec := { name := "lateParts", fn := fun _ => fun
  | [d1, d2] => { results := [.lit (.bool true)], args := [d1, d2] }
  | _ => none }
def latePartsRow : OpenClaim := { program := "ytioookhnoobpgaa", sum := "6d0e271d4846632c23e6d8f791294e744c0f075657bf1389841c97d7d58d1491", func := "tailwater/tailwaterlaw20.LateParts", spec := "lateParts", unfollowed := true, recurses := true, plainKeys := false, apart := false }
def LatePartsSaid : Prop := latePartsRow.holds Try.pinned (OpenSpec.ofChange latePartsSpec)

/-- ITS FALSE NEIGHBOUR: 'it returns false'. Refute it at one input. -/
def latePartsWrong : ChangeSpec := { name := "lateParts", fn := fun _ => fun
  | [d1, d2] => { results := [.lit (.bool false)], args := [d1, d2] }
  | _ => none }
def LatePartsWrongFalsely : Prop := latePartsRow.holds Try.pinned (OpenSpec.ofChange latePartsWrong)

/- THE SECOND FORM. 'bulk': how many values and letters a reading holds, each counted each time it is reached (what is shared counts as often as it is met; a slice's spare places count too). A statement '..UptoSaid' is the law's where the arguments, and the package variables that the reading takes, are together of bulk at most 1048576: NARROWER than '..Said'. Prove '..Said' where nothing that the law and all that it calls make is longer than what came in: it says more and counts as full. Else prove '..UptoSaid'. A law counts once. -/
mutual
def uptoBulk {H : Type} : DataW H → Nat
  | .lit (.string bytes) => bytes.length + 1
  | .lit _ => 1
  | .nil => 1
  | .ptr d => uptoBulk d + 1
  | .slice elems spare => uptoBulkAll elems + uptoBulkAll spare + 1
  | .agg parts => uptoBulkAll parts + 1
  | .iface _ d => uptoBulk d + 1
  | .map entries => uptoBulkEntries entries + 1
  | .held _ => 1
def uptoBulkAll {H : Type} : List (DataW H) → Nat
  | [] => 0
  | d :: r => uptoBulk d + uptoBulkAll r
def uptoBulkEntries {H : Type} : List (Lit × DataW H) → Nat
  | [] => 0
  | x :: r => uptoBulkEntry x + uptoBulkEntries r
def uptoBulkEntry {H : Type} : Lit × DataW H → Nat
  | (.string bytes, d) => bytes.length + uptoBulk d + 1
  | (_, d) => uptoBulk d + 1
 end
def uptoSmall : (H : Type) → List (DataW H) → Bool := fun _ ds => decide (uptoBulkAll ds ≤ 1048576)
def OpenSpec.upto (s : _root_.Go.ChangeSpec) : _root_.Go.OpenSpec := { _root_.Go.OpenSpec.ofChange s with cond := some uptoSmall }

/-- 'tailwaterlaw40.PrefixParts', WHERE WHAT IT READS IS OF BULK AT MOST 1048576: true; the input reads as it did. -/
def prefixPartsUptoRow : OpenClaim := { program := "ytioookhnoobpgaa", sum := "6d0e271d4846632c23e6d8f791294e744c0f075657bf1389841c97d7d58d1491", func := "tailwater/tailwaterlaw40.PrefixParts", spec := "prefixParts", plainKeys := false, apart := false, narrowed := true }
def PrefixPartsUptoSaid : Prop := prefixPartsUptoRow.holds Try.pinned (OpenSpec.upto prefixPartsSpec)

/-- 'tailwaterlaw20.LateTells', WHERE WHAT IT READS IS OF BULK AT MOST 1048576: true; the input reads as it did. -/
def lateTellsUptoRow : OpenClaim := { program := "ytioookhnoobpgaa", sum := "6d0e271d4846632c23e6d8f791294e744c0f075657bf1389841c97d7d58d1491", func := "tailwater/tailwaterlaw20.LateTells", spec := "lateTells", unfollowed := true, recurses := true, plainKeys := false, apart := false, narrowed := true }
def LateTellsUptoSaid : Prop := lateTellsUptoRow.holds Try.pinned (OpenSpec.upto lateTellsSpec)

/-- 'tailwaterlaw20.LateNames', WHERE WHAT IT READS IS OF BULK AT MOST 1048576: true; the input reads as it did. -/
def lateNamesUptoRow : OpenClaim := { program := "ytioookhnoobpgaa", sum := "6d0e271d4846632c23e6d8f791294e744c0f075657bf1389841c97d7d58d1491", func := "tailwater/tailwaterlaw20.LateNames", spec := "lateNames", unfollowed := true, recurses := true, plainKeys := false, apart := false, narrowed := true }
def LateNamesUptoSaid : Prop := lateNamesUptoRow.holds Try.pinned (OpenSpec.upto lateNamesSpec)

/-- 'tailwaterlaw20.LateOwn', WHERE WHAT IT READS IS OF BULK AT MOST 1048576: true; the input reads as it did. -/
def lateOwnUptoRow : OpenClaim := { program := "ytioookhnoobpgaa", sum := "6d0e271d4846632c23e6d8f791294e744c0f075657bf1389841c97d7d58d1491", func := "tailwater/tailwaterlaw20.LateOwn", spec := "lateOwn", unfollowed := true, recurses := true, plainKeys := false, apart := false, narrowed := true }
def LateOwnUptoSaid : Prop := lateOwnUptoRow.holds Try.pinned (OpenSpec.upto lateOwnSpec)

/-- 'tailwaterlaw20.LateGrows', WHERE WHAT IT READS IS OF BULK AT MOST 1048576: true; the input reads as it did. -/
def lateGrowsUptoRow : OpenClaim := { program := "ytioookhnoobpgaa", sum := "6d0e271d4846632c23e6d8f791294e744c0f075657bf1389841c97d7d58d1491", func := "tailwater/tailwaterlaw20.LateGrows", spec := "lateGrows", unfollowed := true, recurses := true, plainKeys := false, apart := false, narrowed := true }
def LateGrowsUptoSaid : Prop := lateGrowsUptoRow.holds Try.pinned (OpenSpec.upto lateGrowsSpec)

/-- 'tailwaterlaw20.LateEnds', WHERE WHAT IT READS IS OF BULK AT MOST 1048576: true; the input reads as it did. -/
def lateEndsUptoRow : OpenClaim := { program := "ytioookhnoobpgaa", sum := "6d0e271d4846632c23e6d8f791294e744c0f075657bf1389841c97d7d58d1491", func := "tailwater/tailwaterlaw20.LateEnds", spec := "lateEnds", unfollowed := true, recurses := true, plainKeys := false, apart := false, narrowed := true }
def LateEndsUptoSaid : Prop := lateEndsUptoRow.holds Try.pinned (OpenSpec.upto lateEndsSpec)

/-- 'tailwaterlaw20.LateParts', WHERE WHAT IT READS IS OF BULK AT MOST 1048576: true; the input reads as it did. -/
def latePartsUptoRow : OpenClaim := { program := "ytioookhnoobpgaa", sum := "6d0e271d4846632c23e6d8f791294e744c0f075657bf1389841c97d7d58d1491", func := "tailwater/tailwaterlaw20.LateParts", spec := "lateParts", unfollowed := true, recurses := true, plainKeys := false, apart := false, narrowed := true }
def LatePartsUptoSaid : Prop := latePartsUptoRow.holds Try.pinned (OpenSpec.upto latePartsSpec)

end Rows
end Go.Proofs.Ytioookhnoobpgaa
