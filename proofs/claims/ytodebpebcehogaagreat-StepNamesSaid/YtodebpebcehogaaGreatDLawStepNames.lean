/- Parts of the proof, laid together. -/
import Derived.Test.YtodebpebcehogaaGreatMemoN
import Derived.Test.YtodebpebcehogaaGreatAvb
set_option linter.all false
namespace Go.Av.Tryz
open Go.Proofs Go.D
theorem StepNames_run (xs : List AV) (g0 : Rels (fun t a => Shape Tryz.prog 4 t a) [] xs) : Pure Tryz.prog 5 xs (.sc (.bool true)) := by
  obtain rfl := rels_nil g0
  exact m52
end Go.Av.Tryz
