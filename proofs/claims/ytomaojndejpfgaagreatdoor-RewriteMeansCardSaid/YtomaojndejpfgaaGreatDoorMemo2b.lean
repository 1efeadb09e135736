/- A closed run: some of its parts. -/
import Derived.Test.YtomaojndejpfgaaGreatDoorMemo1a
set_option linter.all false

set_option maxRecDepth 1000000
namespace Go.Av.TryzM
open Go.Av Go.Av.X Go.Proofs Go.D Go.Av.Tryz
set_option maxHeartbeats 4000000
theorem m14 : Q 70 e14 := w [(40, [e12, e13])] ⟨⟨m12, m13, oo⟩, oo⟩
theorem m16 : Q 70 e16 := w [(40, [e15])] ⟨⟨m15, oo⟩, oo⟩
theorem m21 : Q 12 e21 := w [(68, [e19]), (70, [e20]), (104, [e10])] ⟨⟨m19, oo⟩, ⟨m20, oo⟩, ⟨m10, oo⟩, oo⟩
theorem m26 : Q 47 e26 := w [(129, [e0, e1, e2, e25])] ⟨⟨m0, m1, m2, m25, oo⟩, oo⟩
end Go.Av.TryzM
