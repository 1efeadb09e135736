/- The law JoinNames: it has no arguments. -/
import Derived.Test.YtneciiakpbfnjaaGreatDCertJ
set_option linter.all false
namespace Go.D
set_option maxRecDepth 100000
theorem law33_JoinNames_eq : law33_JoinNames = some true := by decide +kernel
end Go.D
namespace Go.Av.Tryz
open Go.Proofs Go.D
theorem JoinNames_run (xs : List AV) (g0 : Rels (fun t a => Shape Tryz.prog 4 t a) [] xs) : Pure Tryz.prog 6 xs (.sc (.bool true)) := by
  obtain rfl := rels_nil g0
  exact law33_JoinNames_ok true law33_JoinNames_eq rfl
end Go.Av.Tryz
