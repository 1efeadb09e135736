/- A closed run: some of its parts. -/
import Derived.Test.YtnkfdamiiejfdaaGreatDoorMemo1a
set_option linter.all false

set_option maxRecDepth 1000000
namespace Go.Av.TryzM
open Go.Av Go.Av.X Go.Proofs Go.D Go.Av.Tryz
set_option maxHeartbeats 4000000
theorem m3 : Q 159 e3 := w [(283, [e0, e1, e2])] ⟨⟨m0, m1, m2, oo⟩, oo⟩
theorem m17 : Q 30 e17 := w [(128, [e9, e11, e13, e15]), (134, [e10, e12, e14, e16]), (131, [e8]), (146, [e5])] ⟨⟨m9, m11, m13, m15, oo⟩, ⟨m10, m12, m14, m16, oo⟩, ⟨m8, oo⟩, ⟨m5, oo⟩, oo⟩
theorem m32 : Q 30 e32 := w [(128, [e9, e11, e13, e15]), (134, [e10, e12, e14, e16]), (131, [e8]), (146, [e5])] ⟨⟨m9, m11, m13, m15, oo⟩, ⟨m10, m12, m14, m16, oo⟩, ⟨m8, oo⟩, ⟨m5, oo⟩, oo⟩
theorem m38 : Q 125 e38 := w [(54, [e20]), (75, [e21]), (77, [e22]), (127, [e34]), (134, [e10]), (168, [e23]), (175, [e18]), (176, [e19]), (177, [e24])] ⟨⟨m20, oo⟩, ⟨m21, oo⟩, ⟨m22, oo⟩, ⟨m34, oo⟩, ⟨m10, oo⟩, ⟨m23, oo⟩, ⟨m18, oo⟩, ⟨m19, oo⟩, ⟨m24, oo⟩, oo⟩
theorem m39 : Q 30 e39 := w [(128, [e9, e11, e13, e15]), (134, [e10, e12, e14, e16]), (131, [e8]), (146, [e5])] ⟨⟨m9, m11, m13, m15, oo⟩, ⟨m10, m12, m14, m16, oo⟩, ⟨m8, oo⟩, ⟨m5, oo⟩, oo⟩
theorem m45 : Q 129 e45 := w [(54, [e20]), (75, [e21]), (77, [e22]), (128, [e11]), (146, [e5]), (168, [e23]), (175, [e18]), (176, [e19]), (177, [e24])] ⟨⟨m20, oo⟩, ⟨m21, oo⟩, ⟨m22, oo⟩, ⟨m11, oo⟩, ⟨m5, oo⟩, ⟨m23, oo⟩, ⟨m18, oo⟩, ⟨m19, oo⟩, ⟨m24, oo⟩, oo⟩
theorem m46 : Q 30 e46 := w [(128, [e9, e11, e13, e15]), (134, [e10, e12, e14, e16]), (131, [e8]), (146, [e5])] ⟨⟨m9, m11, m13, m15, oo⟩, ⟨m10, m12, m14, m16, oo⟩, ⟨m8, oo⟩, ⟨m5, oo⟩, oo⟩
theorem m53 : Q 30 e53 := w [(128, [e9, e11, e13, e15]), (134, [e10, e12, e14, e16]), (131, [e8]), (146, [e5])] ⟨⟨m9, m11, m13, m15, oo⟩, ⟨m10, m12, m14, m16, oo⟩, ⟨m8, oo⟩, ⟨m5, oo⟩, oo⟩
theorem m59 : Q 125 e59 := w [(54, [e20]), (75, [e21]), (77, [e22]), (127, [e56]), (134, [e12]), (168, [e23]), (175, [e18]), (176, [e19]), (177, [e24])] ⟨⟨m20, oo⟩, ⟨m21, oo⟩, ⟨m22, oo⟩, ⟨m56, oo⟩, ⟨m12, oo⟩, ⟨m23, oo⟩, ⟨m18, oo⟩, ⟨m19, oo⟩, ⟨m24, oo⟩, oo⟩
theorem m60 : Q 30 e60 := w [(128, [e9, e11, e13, e15]), (134, [e10, e12, e14, e16]), (131, [e8]), (146, [e5])] ⟨⟨m9, m11, m13, m15, oo⟩, ⟨m10, m12, m14, m16, oo⟩, ⟨m8, oo⟩, ⟨m5, oo⟩, oo⟩
theorem m66 : Q 129 e66 := w [(54, [e20]), (75, [e21]), (77, [e22]), (128, [e13]), (146, [e5]), (168, [e23]), (175, [e18]), (176, [e19]), (177, [e24])] ⟨⟨m20, oo⟩, ⟨m21, oo⟩, ⟨m22, oo⟩, ⟨m13, oo⟩, ⟨m5, oo⟩, ⟨m23, oo⟩, ⟨m18, oo⟩, ⟨m19, oo⟩, ⟨m24, oo⟩, oo⟩
end Go.Av.TryzM
