/- A closed run: some of its parts. -/
import Derived.Test.YtomaojndejpfgaaGreatDoorMemo2a
import Derived.Test.YtomaojndejpfgaaGreatDoorMemo2b
set_option linter.all false

set_option maxRecDepth 1000000
namespace Go.Av.TryzM
open Go.Av Go.Av.X Go.Proofs Go.D Go.Av.Tryz
set_option maxHeartbeats 4000000
theorem m9 : Q 42 e9 := w [(156, [e7, e8]), (47, [e5])] ⟨⟨m7, m8, oo⟩, ⟨m5, oo⟩, oo⟩
theorem m22 : Q 9 e22 := w [(19, [e11, e17]), (70, [e14, e16]), (12, [e21]), (40, [e18]), (68, [e19]), (104, [e10])] ⟨⟨m11, m17, oo⟩, ⟨m14, m16, oo⟩, ⟨m21, oo⟩, ⟨m18, oo⟩, ⟨m19, oo⟩, ⟨m10, oo⟩, oo⟩
end Go.Av.TryzM
