/- The law MeaningNames: it has no arguments. -/
import Derived.Test.YtfdfgobnpnoomaaGreatDCertZ
set_option linter.all false
namespace Go.D
set_option maxRecDepth 100000
theorem law21_MeaningNames_eq : law21_MeaningNames = some true := by decide +kernel
end Go.D
namespace Go.Av.Tryz
open Go.Proofs Go.D
theorem MeaningNames_run (xs : List AV) (g0 : Rels (fun t a => Shape Tryz.prog 4 t a) [] xs) : Pure Tryz.prog 5 xs (.sc (.bool true)) := by
  obtain rfl := rels_nil g0
  exact law21_MeaningNames_ok true law21_MeaningNames_eq rfl
end Go.Av.Tryz
