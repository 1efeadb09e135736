/- What is laid: strings.asciiSpace. -/
import Derived.Test.YtednehploaffcaaGreatDoorAva
set_option linter.all false

namespace Go.Av.Tryz
abbrev gb (n : Nat) (k : Int) : List Value := List.replicate n (.int .u8 k)
noncomputable instance gl : Gls := ⟨[(0, gb 9 0 ++ (gb 5 1 ++ (gb 18 0 ++ (gb 1 1 ++ gb 223 0))))], 0⟩
end Go.Av.Tryz
