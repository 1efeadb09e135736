/- The example of the law answers true. -/
import Derived.Test.YtoodllakhlkekaaGreatDoorMemoA
set_option linter.all false

namespace Go.Av.Tryz
open Go.Av Go.Proofs
theorem Xv8 : Xu Tryz.prog 5 [] (.sc (.bool true)) := Go.Av.TryzM.m97
end Go.Av.Tryz
