/- Parts of the proof, laid together. -/
import Derived.Test.YtoggmnlkaphgcaaGreatDoorMemoN
import Derived.Test.YtoggmnlkaphgcaaGreatDoorAvf
set_option linter.all false
namespace Go.Av.Tryz
open Go.Proofs
theorem OptionsNames_run (xs : List AV) (g0 : Rels (fun t a => Shape Tryz.prog 4 t a) [] xs) : Pure Tryz.prog 3 xs (.sc (.bool true)) := by
  obtain rfl := rels_nil g0
  exact m46
end Go.Av.Tryz
