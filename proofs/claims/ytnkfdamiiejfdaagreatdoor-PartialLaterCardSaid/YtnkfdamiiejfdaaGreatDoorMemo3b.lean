/- A closed run: some of its parts. -/
import Derived.Test.YtnkfdamiiejfdaaGreatDoorMemo2b
import Derived.Test.YtnkfdamiiejfdaaGreatDoorMemo2c
set_option linter.all false

set_option maxRecDepth 1000000
namespace Go.Av.TryzM
open Go.Av Go.Av.X Go.Proofs Go.D Go.Av.Tryz
set_option maxHeartbeats 4000000
theorem m100 : Q 122 e100 := w [(127, [e96, e97, e98, e99]), (128, [e9, e11, e13, e15]), (134, [e10, e12, e14, e16]), (30, [e95])] ⟨⟨m96, m97, m98, m99, oo⟩, ⟨m9, m11, m13, m15, oo⟩, ⟨m10, m12, m14, m16, oo⟩, ⟨m95, oo⟩, oo⟩
theorem m108 : Q 122 e108 := w [(127, [e104, e105, e106, e107]), (128, [e9, e11, e13, e15]), (134, [e10, e12, e14, e16]), (30, [e103])] ⟨⟨m104, m105, m106, m107, oo⟩, ⟨m9, m11, m13, m15, oo⟩, ⟨m10, m12, m14, m16, oo⟩, ⟨m103, oo⟩, oo⟩
theorem m115 : Q 122 e115 := w [(127, [e111, e112, e113, e114]), (128, [e9, e11, e13, e15]), (134, [e10, e12, e14, e16]), (30, [e110])] ⟨⟨m111, m112, m113, m114, oo⟩, ⟨m9, m11, m13, m15, oo⟩, ⟨m10, m12, m14, m16, oo⟩, ⟨m110, oo⟩, oo⟩
theorem m122 : Q 122 e122 := w [(127, [e118, e119, e120, e121]), (128, [e9, e11, e13, e15]), (134, [e10, e12, e14, e16]), (30, [e117])] ⟨⟨m118, m119, m120, m121, oo⟩, ⟨m9, m11, m13, m15, oo⟩, ⟨m10, m12, m14, m16, oo⟩, ⟨m117, oo⟩, oo⟩
theorem m129 : Q 122 e129 := w [(127, [e125, e126, e127, e128]), (128, [e9, e11, e13, e15]), (134, [e10, e12, e14, e16]), (30, [e124])] ⟨⟨m125, m126, m127, m128, oo⟩, ⟨m9, m11, m13, m15, oo⟩, ⟨m10, m12, m14, m16, oo⟩, ⟨m124, oo⟩, oo⟩
theorem m132 : Q 66 e132 := w [(127, [e127, e128]), (30, [e124]), (75, [e21]), (77, [e22]), (128, [e13]), (129, [e131]), (134, [e14]), (168, [e23]), (175, [e18])] ⟨⟨m127, m128, oo⟩, ⟨m124, oo⟩, ⟨m21, oo⟩, ⟨m22, oo⟩, ⟨m13, oo⟩, ⟨m131, oo⟩, ⟨m14, oo⟩, ⟨m23, oo⟩, ⟨m18, oo⟩, oo⟩
theorem m138 : Q 122 e138 := w [(127, [e134, e135, e136, e137]), (128, [e9, e11, e13, e15]), (134, [e10, e12, e14, e16]), (30, [e133])] ⟨⟨m134, m135, m136, m137, oo⟩, ⟨m9, m11, m13, m15, oo⟩, ⟨m10, m12, m14, m16, oo⟩, ⟨m133, oo⟩, oo⟩
theorem m145 : Q 122 e145 := w [(127, [e141, e142, e143, e144]), (128, [e9, e11, e13, e15]), (134, [e10, e12, e14, e16]), (30, [e140])] ⟨⟨m141, m142, m143, m144, oo⟩, ⟨m9, m11, m13, m15, oo⟩, ⟨m10, m12, m14, m16, oo⟩, ⟨m140, oo⟩, oo⟩
theorem m152 : Q 122 e152 := w [(127, [e148, e149, e150, e151]), (128, [e9, e11, e13, e15]), (134, [e10, e12, e14, e16]), (30, [e147])] ⟨⟨m148, m149, m150, m151, oo⟩, ⟨m9, m11, m13, m15, oo⟩, ⟨m10, m12, m14, m16, oo⟩, ⟨m147, oo⟩, oo⟩
end Go.Av.TryzM
