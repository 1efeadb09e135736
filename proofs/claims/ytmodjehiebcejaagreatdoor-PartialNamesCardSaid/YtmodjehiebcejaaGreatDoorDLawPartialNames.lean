/- The law PartialNames: it has no arguments. -/
import Derived.Test.YtmodjehiebcejaaGreatDoorMemoN
set_option linter.all false

namespace Go.Av.Tryz
open Go.Proofs
theorem PartialNames_run (xs:List AV) (g0:Xck (λt a=>X4r Tryz.prog 4 t a) [] xs):X14 Tryz.prog 3 xs (.sc (.bool true)):=by
 obtain rfl:=Xi3 g0;exact m989
end Go.Av.Tryz
