/- A closed run: some of its parts. -/
import Derived.Test.YtnkfdamiiejfdaaGreatDoorMemo1a
set_option linter.all false

set_option maxRecDepth 1000000
namespace Go.Av.TryzM
open Go.Av Go.Av.X Go.Proofs Go.D Go.Av.Tryz
set_option maxHeartbeats 4000000
theorem m67 : Q 30 e67 := w [(128, [e9, e11, e13, e15]), (134, [e10, e12, e14, e16]), (131, [e8]), (146, [e5])] ⟨⟨m9, m11, m13, m15, oo⟩, ⟨m10, m12, m14, m16, oo⟩, ⟨m8, oo⟩, ⟨m5, oo⟩, oo⟩
theorem m73 : Q 125 e73 := w [(54, [e20]), (75, [e21]), (77, [e22]), (127, [e69]), (134, [e10]), (168, [e23]), (175, [e18]), (176, [e19]), (177, [e24])] ⟨⟨m20, oo⟩, ⟨m21, oo⟩, ⟨m22, oo⟩, ⟨m69, oo⟩, ⟨m10, oo⟩, ⟨m23, oo⟩, ⟨m18, oo⟩, ⟨m19, oo⟩, ⟨m24, oo⟩, oo⟩
theorem m74 : Q 30 e74 := w [(128, [e9, e11, e13, e15]), (134, [e10, e12, e14, e16]), (131, [e8]), (146, [e5])] ⟨⟨m9, m11, m13, m15, oo⟩, ⟨m10, m12, m14, m16, oo⟩, ⟨m8, oo⟩, ⟨m5, oo⟩, oo⟩
theorem m80 : Q 129 e80 := w [(54, [e20]), (75, [e21]), (77, [e22]), (128, [e11]), (146, [e5]), (168, [e23]), (175, [e18]), (176, [e19]), (177, [e24])] ⟨⟨m20, oo⟩, ⟨m21, oo⟩, ⟨m22, oo⟩, ⟨m11, oo⟩, ⟨m5, oo⟩, ⟨m23, oo⟩, ⟨m18, oo⟩, ⟨m19, oo⟩, ⟨m24, oo⟩, oo⟩
theorem m81 : Q 30 e81 := w [(128, [e9, e11, e13, e15]), (134, [e10, e12, e14, e16]), (131, [e8]), (146, [e5])] ⟨⟨m9, m11, m13, m15, oo⟩, ⟨m10, m12, m14, m16, oo⟩, ⟨m8, oo⟩, ⟨m5, oo⟩, oo⟩
theorem m88 : Q 30 e88 := w [(128, [e9, e11, e13, e15]), (134, [e10, e12, e14, e16]), (131, [e8]), (146, [e5])] ⟨⟨m9, m11, m13, m15, oo⟩, ⟨m10, m12, m14, m16, oo⟩, ⟨m8, oo⟩, ⟨m5, oo⟩, oo⟩
theorem m94 : Q 125 e94 := w [(54, [e20]), (75, [e21]), (77, [e22]), (127, [e91]), (134, [e12]), (168, [e23]), (175, [e18]), (176, [e19]), (177, [e24])] ⟨⟨m20, oo⟩, ⟨m21, oo⟩, ⟨m22, oo⟩, ⟨m91, oo⟩, ⟨m12, oo⟩, ⟨m23, oo⟩, ⟨m18, oo⟩, ⟨m19, oo⟩, ⟨m24, oo⟩, oo⟩
theorem m95 : Q 30 e95 := w [(128, [e9, e11, e13, e15]), (134, [e10, e12, e14, e16]), (131, [e8]), (146, [e5])] ⟨⟨m9, m11, m13, m15, oo⟩, ⟨m10, m12, m14, m16, oo⟩, ⟨m8, oo⟩, ⟨m5, oo⟩, oo⟩
theorem m102 : Q 129 e102 := w [(54, [e20]), (75, [e21]), (77, [e22]), (128, [e13]), (168, [e23]), (175, [e18]), (176, [e19]), (177, [e24]), (251, [e101])] ⟨⟨m20, oo⟩, ⟨m21, oo⟩, ⟨m22, oo⟩, ⟨m13, oo⟩, ⟨m23, oo⟩, ⟨m18, oo⟩, ⟨m19, oo⟩, ⟨m24, oo⟩, ⟨m101, oo⟩, oo⟩
theorem m103 : Q 30 e103 := w [(128, [e9, e11, e13, e15]), (134, [e10, e12, e14, e16]), (131, [e8]), (146, [e5])] ⟨⟨m9, m11, m13, m15, oo⟩, ⟨m10, m12, m14, m16, oo⟩, ⟨m8, oo⟩, ⟨m5, oo⟩, oo⟩
theorem m109 : Q 125 e109 := w [(54, [e20]), (75, [e21]), (77, [e22]), (127, [e105]), (134, [e10]), (168, [e23]), (175, [e18]), (176, [e19]), (177, [e24])] ⟨⟨m20, oo⟩, ⟨m21, oo⟩, ⟨m22, oo⟩, ⟨m105, oo⟩, ⟨m10, oo⟩, ⟨m23, oo⟩, ⟨m18, oo⟩, ⟨m19, oo⟩, ⟨m24, oo⟩, oo⟩
theorem m110 : Q 30 e110 := w [(128, [e9, e11, e13, e15]), (134, [e10, e12, e14, e16]), (131, [e8]), (146, [e5])] ⟨⟨m9, m11, m13, m15, oo⟩, ⟨m10, m12, m14, m16, oo⟩, ⟨m8, oo⟩, ⟨m5, oo⟩, oo⟩
end Go.Av.TryzM
