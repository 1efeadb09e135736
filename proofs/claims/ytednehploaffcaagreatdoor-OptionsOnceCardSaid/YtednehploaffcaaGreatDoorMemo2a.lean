/- A closed run: some of its parts. -/
import Derived.Test.YtednehploaffcaaGreatDoorMemo1a
set_option linter.all false

set_option maxRecDepth 1000000
namespace Go.Av.TryzM
open Go.Av Go.Av.X Go.Proofs Go.D Go.Av.Tryz
set_option maxHeartbeats 4000000
theorem m4 : Q 78 e4 := w [(126, [e0, e1, e2, e3])] ⟨⟨m0, m1, m2, m3, oo⟩, oo⟩
theorem m5 : Q 127 e5 := w [(126, [e0, e1, e2, e3])] ⟨⟨m0, m1, m2, m3, oo⟩, oo⟩
theorem m9 : Q 78 e9 := w [(126, [e0, e1, e8])] ⟨⟨m0, m1, m8, oo⟩, oo⟩
theorem m13 : Q 85 e13 := w [(66, [e12])] ⟨⟨m12, oo⟩, oo⟩
theorem m19 : Q 8 e19 := w [(18, [e18]), (19, [e11]), (92, [e7])] ⟨⟨m18, oo⟩, ⟨m11, oo⟩, ⟨m7, oo⟩, oo⟩
end Go.Av.TryzM
