/- A closed run: some of its parts. -/
import Derived.Test.YtomaojndejpfgaaGreatDoorMemo3a
set_option linter.all false

set_option maxRecDepth 1000000
namespace Go.Av.TryzM
open Go.Av Go.Av.X Go.Proofs Go.D Go.Av.Tryz
set_option maxHeartbeats 4000000
theorem m27 : Q 4 e27 := w [(9, [e22]), (19, [e11]), (42, [e9]), (43, [e23]), (46, [e24]), (47, [e26]), (68, [e19]), (104, [e10])] ⟨⟨m22, oo⟩, ⟨m11, oo⟩, ⟨m9, oo⟩, ⟨m23, oo⟩, ⟨m24, oo⟩, ⟨m26, oo⟩, ⟨m19, oo⟩, ⟨m10, oo⟩, oo⟩
end Go.Av.TryzM
