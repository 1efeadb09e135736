/- A closed run: some of its parts. -/
import Derived.Test.YtednehploaffcaaGreatDoorMemoB
set_option linter.all false

set_option maxRecDepth 1000000
namespace Go.Av.TryzM
open Go.Av Go.Av.X Go.Proofs Go.D Go.Av.Tryz
set_option maxHeartbeats 4000000
theorem m0 : Q 126 e0 := w [] oo
theorem m1 : Q 126 e1 := w [] oo
theorem m2 : Q 126 e2 := w [] oo
theorem m3 : Q 126 e3 := w [] oo
theorem m8 : Q 126 e8 := w [] oo
theorem m12 : Q 66 e12 := w [] oo
theorem m15 : Q 66 e15 := w [] oo
theorem m17 : Q 8 e17 := w [(19, [e11]), (92, [e7])] ⟨⟨m11, oo⟩, ⟨m7, oo⟩, oo⟩
theorem m18 : Q 18 e18 := w [(92, [e7])] ⟨⟨m7, oo⟩, oo⟩
end Go.Av.TryzM
