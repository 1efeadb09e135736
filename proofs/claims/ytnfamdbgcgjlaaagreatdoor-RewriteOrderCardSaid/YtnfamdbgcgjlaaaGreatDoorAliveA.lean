/- The example of the law answers true. -/
import Derived.Test.YtnfamdbgcgjlaaaGreatDoorMemoA
set_option linter.all false

namespace Go.Av.Tryz
open Go.Av Go.Proofs
theorem X02n : X06 Tryz.prog 12 [] (.sc (.bool true)) := Go.Av.TryzM.m27
end Go.Av.Tryz
