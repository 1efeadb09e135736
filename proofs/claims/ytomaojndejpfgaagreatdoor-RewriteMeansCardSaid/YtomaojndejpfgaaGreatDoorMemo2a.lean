/- A closed run: some of its parts. -/
import Derived.Test.YtomaojndejpfgaaGreatDoorMemo1a
set_option linter.all false

set_option maxRecDepth 1000000
namespace Go.Av.TryzM
open Go.Av Go.Av.X Go.Proofs Go.D Go.Av.Tryz
set_option maxHeartbeats 4000000
theorem m5 : Q 47 e5 := w [(129, [e0, e1, e2, e3, e4])] ⟨⟨m0, m1, m2, m3, m4, oo⟩, oo⟩
theorem m7 : Q 156 e7 := w [(129, [e0, e1, e2, e3, e4]), (153, [e6])] ⟨⟨m0, m1, m2, m3, m4, oo⟩, ⟨m6, oo⟩, oo⟩
theorem m8 : Q 156 e8 := w [(129, [e0, e1, e2, e3, e4])] ⟨⟨m0, m1, m2, m3, m4, oo⟩, oo⟩
end Go.Av.TryzM
