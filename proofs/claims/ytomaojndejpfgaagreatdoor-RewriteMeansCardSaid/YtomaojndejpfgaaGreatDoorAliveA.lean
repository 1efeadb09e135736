/- The example of the law answers true. -/
import Derived.Test.YtomaojndejpfgaaGreatDoorMemoN
set_option linter.all false

namespace Go.Av.Tryz
open Go.Av Go.Proofs
theorem X0g7 : X76 Tryz.prog 4 [] (.sc (.bool true)) := Go.Av.TryzM.m27
end Go.Av.Tryz
