/- The example of the law answers true. -/
import Derived.Test.YtednehploaffcaaGreatDoorMemoN
set_option linter.all false

namespace Go.Av.Tryz
open Go.Av Go.Proofs
theorem X0cl : X8t Tryz.prog 4 [] (.sc (.bool true)) := Go.Av.TryzM.m20
end Go.Av.Tryz
