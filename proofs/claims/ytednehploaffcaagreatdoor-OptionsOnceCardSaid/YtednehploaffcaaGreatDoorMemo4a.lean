/- A closed run: some of its parts. -/
import Derived.Test.YtednehploaffcaaGreatDoorMemo3a
set_option linter.all false

set_option maxRecDepth 1000000
namespace Go.Av.TryzM
open Go.Av Go.Av.X Go.Proofs Go.D Go.Av.Tryz
set_option maxHeartbeats 4000000
theorem m16 : Q 6 e16 := w [(13, [e14]), (19, [e11]), (66, [e15]), (92, [e7])] ⟨⟨m14, oo⟩, ⟨m11, oo⟩, ⟨m15, oo⟩, ⟨m7, oo⟩, oo⟩
end Go.Av.TryzM
