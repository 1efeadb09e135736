/- A closed run: some of its parts. -/
import Derived.Test.YtednehploaffcaaGreatDoorMemo2a
set_option linter.all false

set_option maxRecDepth 1000000
namespace Go.Av.TryzM
open Go.Av Go.Av.X Go.Proofs Go.D Go.Av.Tryz
set_option maxHeartbeats 4000000
theorem m6 : Q 59 e6 := w [(78, [e4]), (127, [e5])] ⟨⟨m4, oo⟩, ⟨m5, oo⟩, oo⟩
theorem m10 : Q 59 e10 := w [(78, [e9])] ⟨⟨m9, oo⟩, oo⟩
theorem m14 : Q 13 e14 := w [(19, [e11]), (85, [e13]), (92, [e7])] ⟨⟨m11, oo⟩, ⟨m13, oo⟩, ⟨m7, oo⟩, oo⟩
end Go.Av.TryzM
