/- A closed run: some of its parts. -/
import Derived.Test.YtomaojndejpfgaaGreatDoorMemoB
set_option linter.all false

set_option maxRecDepth 1000000
namespace Go.Av.TryzM
open Go.Av Go.Av.X Go.Proofs Go.D Go.Av.Tryz
set_option maxHeartbeats 4000000
theorem m0 : Q 129 e0 := w [] oo
theorem m1 : Q 129 e1 := w [] oo
theorem m2 : Q 129 e2 := w [] oo
theorem m3 : Q 129 e3 := w [] oo
theorem m4 : Q 129 e4 := w [] oo
theorem m6 : Q 153 e6 := w [] oo
theorem m11 : Q 19 e11 := w [(104, [e10])] ⟨⟨m10, oo⟩, oo⟩
theorem m12 : Q 40 e12 := w [] oo
theorem m13 : Q 40 e13 := w [] oo
theorem m15 : Q 40 e15 := w [] oo
theorem m17 : Q 19 e17 := w [(104, [e10])] ⟨⟨m10, oo⟩, oo⟩
theorem m18 : Q 40 e18 := w [] oo
theorem m20 : Q 70 e20 := w [] oo
theorem m25 : Q 129 e25 := w [] oo
end Go.Av.TryzM
