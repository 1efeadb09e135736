/- A closed run: some of its parts. -/
import Derived.Test.YtnkfdamiiejfdaaGreatDoorMemo2a
import Derived.Test.YtnkfdamiiejfdaaGreatDoorMemo2b
set_option linter.all false

set_option maxRecDepth 1000000
namespace Go.Av.TryzM
open Go.Av Go.Av.X Go.Proofs Go.D Go.Av.Tryz
set_option maxHeartbeats 4000000
theorem m4 : Q 102 e4 := w [(159, [e3])] ⟨⟨m3, oo⟩, oo⟩
theorem m25 : Q 64 e25 := w [(30, [e17]), (54, [e20]), (75, [e21]), (77, [e22]), (168, [e23]), (175, [e18]), (176, [e19]), (177, [e24])] ⟨⟨m17, oo⟩, ⟨m20, oo⟩, ⟨m21, oo⟩, ⟨m22, oo⟩, ⟨m23, oo⟩, ⟨m18, oo⟩, ⟨m19, oo⟩, ⟨m24, oo⟩, oo⟩
theorem m30 : Q 122 e30 := w [(127, [e26, e27, e28, e29]), (128, [e9, e11, e13, e15]), (134, [e10, e12, e14, e16]), (30, [e17])] ⟨⟨m26, m27, m28, m29, oo⟩, ⟨m9, m11, m13, m15, oo⟩, ⟨m10, m12, m14, m16, oo⟩, ⟨m17, oo⟩, oo⟩
theorem m37 : Q 122 e37 := w [(127, [e33, e34, e35, e36]), (128, [e9, e11, e13, e15]), (134, [e10, e12, e14, e16]), (30, [e32])] ⟨⟨m33, m34, m35, m36, oo⟩, ⟨m9, m11, m13, m15, oo⟩, ⟨m10, m12, m14, m16, oo⟩, ⟨m32, oo⟩, oo⟩
theorem m44 : Q 122 e44 := w [(127, [e40, e41, e42, e43]), (128, [e9, e11, e13, e15]), (134, [e10, e12, e14, e16]), (30, [e39])] ⟨⟨m40, m41, m42, m43, oo⟩, ⟨m9, m11, m13, m15, oo⟩, ⟨m10, m12, m14, m16, oo⟩, ⟨m39, oo⟩, oo⟩
theorem m51 : Q 122 e51 := w [(127, [e47, e48, e49, e50]), (128, [e9, e11, e13, e15]), (134, [e10, e12, e14, e16]), (30, [e46])] ⟨⟨m47, m48, m49, m50, oo⟩, ⟨m9, m11, m13, m15, oo⟩, ⟨m10, m12, m14, m16, oo⟩, ⟨m46, oo⟩, oo⟩
theorem m58 : Q 122 e58 := w [(127, [e54, e55, e56, e57]), (128, [e9, e11, e13, e15]), (134, [e10, e12, e14, e16]), (30, [e53])] ⟨⟨m54, m55, m56, m57, oo⟩, ⟨m9, m11, m13, m15, oo⟩, ⟨m10, m12, m14, m16, oo⟩, ⟨m53, oo⟩, oo⟩
theorem m65 : Q 122 e65 := w [(127, [e61, e62, e63, e64]), (128, [e9, e11, e13, e15]), (134, [e10, e12, e14, e16]), (30, [e60])] ⟨⟨m61, m62, m63, m64, oo⟩, ⟨m9, m11, m13, m15, oo⟩, ⟨m10, m12, m14, m16, oo⟩, ⟨m60, oo⟩, oo⟩
theorem m72 : Q 122 e72 := w [(127, [e68, e69, e70, e71]), (128, [e9, e11, e13, e15]), (134, [e10, e12, e14, e16]), (30, [e67])] ⟨⟨m68, m69, m70, m71, oo⟩, ⟨m9, m11, m13, m15, oo⟩, ⟨m10, m12, m14, m16, oo⟩, ⟨m67, oo⟩, oo⟩
theorem m79 : Q 122 e79 := w [(127, [e75, e76, e77, e78]), (128, [e9, e11, e13, e15]), (134, [e10, e12, e14, e16]), (30, [e74])] ⟨⟨m75, m76, m77, m78, oo⟩, ⟨m9, m11, m13, m15, oo⟩, ⟨m10, m12, m14, m16, oo⟩, ⟨m74, oo⟩, oo⟩
theorem m86 : Q 122 e86 := w [(127, [e82, e83, e84, e85]), (128, [e9, e11, e13, e15]), (134, [e10, e12, e14, e16]), (30, [e81])] ⟨⟨m82, m83, m84, m85, oo⟩, ⟨m9, m11, m13, m15, oo⟩, ⟨m10, m12, m14, m16, oo⟩, ⟨m81, oo⟩, oo⟩
theorem m93 : Q 122 e93 := w [(127, [e89, e90, e91, e92]), (128, [e9, e11, e13, e15]), (134, [e10, e12, e14, e16]), (30, [e88])] ⟨⟨m89, m90, m91, m92, oo⟩, ⟨m9, m11, m13, m15, oo⟩, ⟨m10, m12, m14, m16, oo⟩, ⟨m88, oo⟩, oo⟩
end Go.Av.TryzM
