/- The law PrefixNames: it has no arguments. -/
import Derived.Test.YtoodllakhlkekaaGreatDoorMemoN
set_option linter.all false

namespace Go.Av.Tryz
open Go.Proofs
theorem PrefixNames_run (xs:List AV) (g0:Xek (λt a=>X4h Tryz.prog 4 t a) [] xs):Xe Tryz.prog 4 xs (.sc (.bool true)):=by
 obtain rfl:=Xn8 g0;exact m162
end Go.Av.Tryz
