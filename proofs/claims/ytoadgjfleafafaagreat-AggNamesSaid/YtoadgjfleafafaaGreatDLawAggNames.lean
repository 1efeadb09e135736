/- The law AggNames: it has no arguments. -/
import Derived.Test.YtoadgjfleafafaaGreatDCertA
set_option linter.all false

namespace Go.D
set_option maxRecDepth 100000
theorem Xbv : X85 = some true := by decide +kernel
end Go.D
namespace Go.Av.Tryz
open Go.Proofs Go.D
theorem AggNames_run (xs : List AV) (g0 : Xjy (fun t a => Xbd Tryz.prog 4 t a) [] xs) : X16 Tryz.prog 3 xs (.sc (.bool true)) := by
 obtain rfl := Xm1 g0
 exact Xbu true Xbv rfl
end Go.Av.Tryz
