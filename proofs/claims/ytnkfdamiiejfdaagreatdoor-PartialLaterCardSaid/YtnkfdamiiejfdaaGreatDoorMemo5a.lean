/- A closed run: some of its parts. -/
import Derived.Test.YtnkfdamiiejfdaaGreatDoorMemo4a
set_option linter.all false

set_option maxRecDepth 1000000
namespace Go.Av.TryzM
open Go.Av Go.Av.X Go.Proofs Go.D Go.Av.Tryz
set_option maxHeartbeats 4000000
theorem m154 : Q 4 e154 := w [(29, [e153]), (30, [e147]), (54, [e20]), (63, [e7]), (75, [e21]), (77, [e22]), (102, [e4]), (105, [e6]), (131, [e8]), (146, [e5]), (168, [e23]), (175, [e18]), (176, [e19]), (177, [e24])] ⟨⟨m153, oo⟩, ⟨m147, oo⟩, ⟨m20, oo⟩, ⟨m7, oo⟩, ⟨m21, oo⟩, ⟨m22, oo⟩, ⟨m4, oo⟩, ⟨m6, oo⟩, ⟨m8, oo⟩, ⟨m5, oo⟩, ⟨m23, oo⟩, ⟨m18, oo⟩, ⟨m19, oo⟩, ⟨m24, oo⟩, oo⟩
end Go.Av.TryzM
