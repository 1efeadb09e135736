/- A closed run: some of its parts. -/
import Derived.Test.YtnkfdamiiejfdaaGreatDoorMemo1a
set_option linter.all false

set_option maxRecDepth 1000000
namespace Go.Av.TryzM
open Go.Av Go.Av.X Go.Proofs Go.D Go.Av.Tryz
set_option maxHeartbeats 4000000
theorem m116 : Q 129 e116 := w [(54, [e20]), (75, [e21]), (77, [e22]), (128, [e11]), (146, [e5]), (168, [e23]), (175, [e18]), (176, [e19]), (177, [e24])] ⟨⟨m20, oo⟩, ⟨m21, oo⟩, ⟨m22, oo⟩, ⟨m11, oo⟩, ⟨m5, oo⟩, ⟨m23, oo⟩, ⟨m18, oo⟩, ⟨m19, oo⟩, ⟨m24, oo⟩, oo⟩
theorem m117 : Q 30 e117 := w [(128, [e9, e11, e13, e15]), (134, [e10, e12, e14, e16]), (131, [e8]), (146, [e5])] ⟨⟨m9, m11, m13, m15, oo⟩, ⟨m10, m12, m14, m16, oo⟩, ⟨m8, oo⟩, ⟨m5, oo⟩, oo⟩
theorem m123 : Q 125 e123 := w [(54, [e20]), (75, [e21]), (77, [e22]), (127, [e120]), (134, [e12]), (168, [e23]), (175, [e18]), (176, [e19]), (177, [e24])] ⟨⟨m20, oo⟩, ⟨m21, oo⟩, ⟨m22, oo⟩, ⟨m120, oo⟩, ⟨m12, oo⟩, ⟨m23, oo⟩, ⟨m18, oo⟩, ⟨m19, oo⟩, ⟨m24, oo⟩, oo⟩
theorem m124 : Q 30 e124 := w [(128, [e9, e11, e13, e15]), (134, [e10, e12, e14, e16]), (131, [e8]), (146, [e5])] ⟨⟨m9, m11, m13, m15, oo⟩, ⟨m10, m12, m14, m16, oo⟩, ⟨m8, oo⟩, ⟨m5, oo⟩, oo⟩
theorem m131 : Q 129 e131 := w [(54, [e20]), (75, [e21]), (77, [e22]), (128, [e13]), (168, [e23]), (175, [e18]), (176, [e19]), (177, [e24]), (251, [e130])] ⟨⟨m20, oo⟩, ⟨m21, oo⟩, ⟨m22, oo⟩, ⟨m13, oo⟩, ⟨m23, oo⟩, ⟨m18, oo⟩, ⟨m19, oo⟩, ⟨m24, oo⟩, ⟨m130, oo⟩, oo⟩
theorem m133 : Q 30 e133 := w [(128, [e9, e11, e13, e15]), (134, [e10, e12, e14, e16]), (131, [e8]), (146, [e5])] ⟨⟨m9, m11, m13, m15, oo⟩, ⟨m10, m12, m14, m16, oo⟩, ⟨m8, oo⟩, ⟨m5, oo⟩, oo⟩
theorem m139 : Q 125 e139 := w [(54, [e20]), (75, [e21]), (77, [e22]), (127, [e137]), (134, [e14]), (168, [e23]), (175, [e18]), (176, [e19]), (177, [e24])] ⟨⟨m20, oo⟩, ⟨m21, oo⟩, ⟨m22, oo⟩, ⟨m137, oo⟩, ⟨m14, oo⟩, ⟨m23, oo⟩, ⟨m18, oo⟩, ⟨m19, oo⟩, ⟨m24, oo⟩, oo⟩
theorem m140 : Q 30 e140 := w [(128, [e9, e11, e13, e15]), (134, [e10, e12, e14, e16]), (131, [e8]), (146, [e5])] ⟨⟨m9, m11, m13, m15, oo⟩, ⟨m10, m12, m14, m16, oo⟩, ⟨m8, oo⟩, ⟨m5, oo⟩, oo⟩
theorem m146 : Q 129 e146 := w [(54, [e20]), (75, [e21]), (77, [e22]), (128, [e15]), (168, [e23]), (175, [e18]), (176, [e19]), (177, [e24])] ⟨⟨m20, oo⟩, ⟨m21, oo⟩, ⟨m22, oo⟩, ⟨m15, oo⟩, ⟨m23, oo⟩, ⟨m18, oo⟩, ⟨m19, oo⟩, ⟨m24, oo⟩, oo⟩
theorem m147 : Q 30 e147 := w [(128, [e9, e11, e13, e15]), (134, [e10, e12, e14, e16]), (131, [e8]), (146, [e5])] ⟨⟨m9, m11, m13, m15, oo⟩, ⟨m10, m12, m14, m16, oo⟩, ⟨m8, oo⟩, ⟨m5, oo⟩, oo⟩
end Go.Av.TryzM
