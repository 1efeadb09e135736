/- The law FinalNames: it has no arguments. -/
import Derived.Test.YtmodjehiebcejaaGreatDoorMemoN
set_option linter.all false

namespace Go.Av.Tryz
open Go.Proofs
theorem FinalNames_run (xs:List AV) (g0:Xdn (λt a=>X6b Tryz.prog 4 t a) [] xs):X32 Tryz.prog 4 xs (.sc (.bool true)):=by
 obtain rfl:=Xid g0;exact X0nr
end Go.Av.Tryz
