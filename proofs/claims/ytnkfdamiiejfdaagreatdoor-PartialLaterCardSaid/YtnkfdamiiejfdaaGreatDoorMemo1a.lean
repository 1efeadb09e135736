/- A closed run: some of its parts. -/
import Derived.Test.YtnkfdamiiejfdaaGreatDoorMemoB
set_option linter.all false

set_option maxRecDepth 1000000
namespace Go.Av.TryzM
open Go.Av Go.Av.X Go.Proofs Go.D Go.Av.Tryz
set_option maxHeartbeats 4000000
theorem m0 : Q 283 e0 := w [] oo
theorem m1 : Q 283 e1 := w [] oo
theorem m2 : Q 283 e2 := w [] oo
theorem m7 : Q 63 e7 := w [(105, [e6]), (146, [e5])] ⟨⟨m6, oo⟩, ⟨m5, oo⟩, oo⟩
theorem m9 : Q 128 e9 := w [] oo
theorem m10 : Q 134 e10 := w [] oo
theorem m11 : Q 128 e11 := w [] oo
theorem m12 : Q 134 e12 := w [] oo
theorem m13 : Q 128 e13 := w [] oo
theorem m14 : Q 134 e14 := w [] oo
theorem m15 : Q 128 e15 := w [] oo
theorem m16 : Q 134 e16 := w [] oo
theorem m26 : Q 127 e26 := w [] oo
theorem m27 : Q 127 e27 := w [] oo
theorem m28 : Q 127 e28 := w [] oo
theorem m29 : Q 127 e29 := w [] oo
theorem m31 : Q 125 e31 := w [(54, [e20]), (75, [e21]), (77, [e22]), (168, [e23]), (175, [e18]), (176, [e19]), (177, [e24])] ⟨⟨m20, oo⟩, ⟨m21, oo⟩, ⟨m22, oo⟩, ⟨m23, oo⟩, ⟨m18, oo⟩, ⟨m19, oo⟩, ⟨m24, oo⟩, oo⟩
theorem m33 : Q 127 e33 := w [] oo
theorem m34 : Q 127 e34 := w [] oo
theorem m35 : Q 127 e35 := w [] oo
theorem m36 : Q 127 e36 := w [] oo
theorem m40 : Q 127 e40 := w [] oo
theorem m41 : Q 127 e41 := w [] oo
theorem m42 : Q 127 e42 := w [] oo
theorem m43 : Q 127 e43 := w [] oo
theorem m47 : Q 127 e47 := w [] oo
theorem m48 : Q 127 e48 := w [] oo
theorem m49 : Q 127 e49 := w [] oo
theorem m50 : Q 127 e50 := w [] oo
theorem m52 : Q 125 e52 := w [(54, [e20]), (75, [e21]), (77, [e22]), (168, [e23]), (175, [e18]), (176, [e19]), (177, [e24])] ⟨⟨m20, oo⟩, ⟨m21, oo⟩, ⟨m22, oo⟩, ⟨m23, oo⟩, ⟨m18, oo⟩, ⟨m19, oo⟩, ⟨m24, oo⟩, oo⟩
theorem m54 : Q 127 e54 := w [] oo
theorem m55 : Q 127 e55 := w [] oo
theorem m56 : Q 127 e56 := w [] oo
theorem m57 : Q 127 e57 := w [] oo
theorem m61 : Q 127 e61 := w [] oo
theorem m62 : Q 127 e62 := w [] oo
theorem m63 : Q 127 e63 := w [] oo
theorem m64 : Q 127 e64 := w [] oo
theorem m68 : Q 127 e68 := w [] oo
theorem m69 : Q 127 e69 := w [] oo
theorem m70 : Q 127 e70 := w [] oo
theorem m71 : Q 127 e71 := w [] oo
theorem m75 : Q 127 e75 := w [] oo
theorem m76 : Q 127 e76 := w [] oo
theorem m77 : Q 127 e77 := w [] oo
theorem m78 : Q 127 e78 := w [] oo
theorem m82 : Q 127 e82 := w [] oo
theorem m83 : Q 127 e83 := w [] oo
theorem m84 : Q 127 e84 := w [] oo
theorem m85 : Q 127 e85 := w [] oo
theorem m87 : Q 125 e87 := w [(54, [e20]), (75, [e21]), (77, [e22]), (168, [e23]), (175, [e18]), (176, [e19]), (177, [e24])] ⟨⟨m20, oo⟩, ⟨m21, oo⟩, ⟨m22, oo⟩, ⟨m23, oo⟩, ⟨m18, oo⟩, ⟨m19, oo⟩, ⟨m24, oo⟩, oo⟩
theorem m89 : Q 127 e89 := w [] oo
theorem m90 : Q 127 e90 := w [] oo
theorem m91 : Q 127 e91 := w [] oo
theorem m92 : Q 127 e92 := w [] oo
theorem m96 : Q 127 e96 := w [] oo
theorem m97 : Q 127 e97 := w [] oo
theorem m98 : Q 127 e98 := w [] oo
theorem m99 : Q 127 e99 := w [] oo
theorem m101 : Q 251 e101 := w [(75, [e21]), (77, [e22]), (146, [e5]), (168, [e23]), (175, [e18])] ⟨⟨m21, oo⟩, ⟨m22, oo⟩, ⟨m5, oo⟩, ⟨m23, oo⟩, ⟨m18, oo⟩, oo⟩
theorem m104 : Q 127 e104 := w [] oo
theorem m105 : Q 127 e105 := w [] oo
theorem m106 : Q 127 e106 := w [] oo
theorem m107 : Q 127 e107 := w [] oo
theorem m111 : Q 127 e111 := w [] oo
theorem m112 : Q 127 e112 := w [] oo
theorem m113 : Q 127 e113 := w [] oo
theorem m114 : Q 127 e114 := w [] oo
theorem m118 : Q 127 e118 := w [] oo
theorem m119 : Q 127 e119 := w [] oo
theorem m120 : Q 127 e120 := w [] oo
theorem m121 : Q 127 e121 := w [] oo
theorem m125 : Q 127 e125 := w [] oo
theorem m126 : Q 127 e126 := w [] oo
theorem m127 : Q 127 e127 := w [] oo
theorem m128 : Q 127 e128 := w [] oo
theorem m130 : Q 251 e130 := w [(75, [e21]), (77, [e22]), (146, [e5]), (168, [e23]), (175, [e18])] ⟨⟨m21, oo⟩, ⟨m22, oo⟩, ⟨m5, oo⟩, ⟨m23, oo⟩, ⟨m18, oo⟩, oo⟩
theorem m134 : Q 127 e134 := w [] oo
theorem m135 : Q 127 e135 := w [] oo
theorem m136 : Q 127 e136 := w [] oo
theorem m137 : Q 127 e137 := w [] oo
theorem m141 : Q 127 e141 := w [] oo
theorem m142 : Q 127 e142 := w [] oo
theorem m143 : Q 127 e143 := w [] oo
theorem m144 : Q 127 e144 := w [] oo
theorem m148 : Q 127 e148 := w [] oo
theorem m149 : Q 127 e149 := w [] oo
theorem m150 : Q 127 e150 := w [] oo
theorem m151 : Q 127 e151 := w [] oo
end Go.Av.TryzM
