/- A closed run: some of its parts. -/
import Derived.Test.YtednehploaffcaaGreatDoorMemo4a
set_option linter.all false

set_option maxRecDepth 1000000
namespace Go.Av.TryzM
open Go.Av Go.Av.X Go.Proofs Go.D Go.Av.Tryz
set_option maxHeartbeats 4000000
theorem m20 : Q 4 e20 := w [(8, [e17, e19]), (59, [e6, e10]), (6, [e16]), (19, [e11]), (92, [e7])] ⟨⟨m17, m19, oo⟩, ⟨m6, m10, oo⟩, ⟨m16, oo⟩, ⟨m11, oo⟩, ⟨m7, oo⟩, oo⟩
end Go.Av.TryzM
