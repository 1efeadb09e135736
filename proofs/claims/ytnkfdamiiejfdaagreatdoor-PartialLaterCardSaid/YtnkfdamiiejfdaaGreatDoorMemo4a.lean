/- A closed run: some of its parts. -/
import Derived.Test.YtnkfdamiiejfdaaGreatDoorMemo3a
import Derived.Test.YtnkfdamiiejfdaaGreatDoorMemo3b
set_option linter.all false

set_option maxRecDepth 1000000
namespace Go.Av.TryzM
open Go.Av Go.Av.X Go.Proofs Go.D Go.Av.Tryz
set_option maxHeartbeats 4000000
theorem m153 : Q 29 e153 := w [(127, [e26, e27, e33, e34, e41, e42, e47, e48, e55, e56, e63, e64, e68, e69, e76, e77, e82, e83, e90, e91, e98, e99, e104, e105, e112, e113, e119, e120, e136, e137, e141, e144]), (122, [e30, e37, e44, e51, e58, e65, e72, e79, e86, e93, e100, e108, e115, e122, e129, e138, e145, e152]), (30, [e17, e32, e39, e46, e53, e60, e67, e74, e81, e88, e95, e103, e110, e117, e133, e140]), (125, [e31, e38, e52, e59, e73, e87, e94, e109, e123, e139]), (129, [e45, e66, e80, e102, e116, e146]), (128, [e9, e11, e13, e15]), (134, [e10, e12, e14, e16]), (54, [e20]), (64, [e25]), (66, [e132]), (75, [e21]), (77, [e22]), (131, [e8]), (146, [e5]), (168, [e23]), (175, [e18]), (176, [e19]), (177, [e24])] ⟨⟨m26, m27, m33, m34, m41, m42, m47, m48, m55, m56, m63, m64, m68, m69, m76, m77, m82, m83, m90, m91, m98, m99, m104, m105, m112, m113, m119, m120, m136, m137, m141, m144, oo⟩, ⟨m30, m37, m44, m51, m58, m65, m72, m79, m86, m93, m100, m108, m115, m122, m129, m138, m145, m152, oo⟩, ⟨m17, m32, m39, m46, m53, m60, m67, m74, m81, m88, m95, m103, m110, m117, m133, m140, oo⟩, ⟨m31, m38, m52, m59, m73, m87, m94, m109, m123, m139, oo⟩, ⟨m45, m66, m80, m102, m116, m146, oo⟩, ⟨m9, m11, m13, m15, oo⟩, ⟨m10, m12, m14, m16, oo⟩, ⟨m20, oo⟩, ⟨m25, oo⟩, ⟨m132, oo⟩, ⟨m21, oo⟩, ⟨m22, oo⟩, ⟨m8, oo⟩, ⟨m5, oo⟩, ⟨m23, oo⟩, ⟨m18, oo⟩, ⟨m19, oo⟩, ⟨m24, oo⟩, oo⟩
end Go.Av.TryzM
