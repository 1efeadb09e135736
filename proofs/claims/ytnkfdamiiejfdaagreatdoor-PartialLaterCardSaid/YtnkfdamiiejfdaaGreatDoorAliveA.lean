/- The example of the law answers true. -/
import Derived.Test.YtnkfdamiiejfdaaGreatDoorMemoN
set_option linter.all false

namespace Go.Av.Tryz
open Go.Av Go.Proofs
theorem X0dy : X15 Tryz.prog 4 [] (.sc (.bool true)) := Go.Av.TryzM.m154
end Go.Av.Tryz
