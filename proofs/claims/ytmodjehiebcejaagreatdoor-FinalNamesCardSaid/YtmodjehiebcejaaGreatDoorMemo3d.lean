/- A closed run: some of its parts. -/
import Derived.Test.YtmodjehiebcejaaGreatDoorMemo2e
import Derived.Test.YtmodjehiebcejaaGreatDoorMemo2f
set_option linter.all false

set_option maxRecDepth 1000000
namespace Go.Av.Tryz
open Go.Av Go.Av.X Go.Proofs Go.D Go.Av.Tryz
set_option maxHeartbeats 4000000
theorem X0wi : Q 87 X0g7 := w [(92, q51), (93, [e17, e19, e21, e23, e25, e27, e29, e31, e33, e35, e37]), (111, [e18, e20, e22, e24, e26, e28, e30, e32, e34, e36, e38]), (25, [Xsi])] ⟨qk51, ⟨m17, m19, m21, m23, m25, m27, m29, m31, m33, m35, m37, oo⟩, ⟨m18, m20, m22, m24, m26, m28, m30, m32, m34, m36, m38, oo⟩, ⟨X06i, oo⟩, oo⟩
theorem X0wf : Q 87 X0g4 := w [(92, q52), (93, [e17, e19, e21, e23, e25, e27, e29, e31, e33, e35, e37]), (111, [e18, e20, e22, e24, e26, e28, e30, e32, e34, e36, e38]), (25, [Xsh])] ⟨qk52, ⟨m17, m19, m21, m23, m25, m27, m29, m31, m33, m35, m37, oo⟩, ⟨m18, m20, m22, m24, m26, m28, m30, m32, m34, m36, m38, oo⟩, ⟨X06h, oo⟩, oo⟩
theorem X0wd : Q 87 X0g2 := w [(92, q53), (93, [e17, e19, e21, e23, e25, e27, e29, e31, e33, e35, e37]), (111, [e18, e20, e22, e24, e26, e28, e30, e32, e34, e36, e38]), (25, [Xsg])] ⟨qk53, ⟨m17, m19, m21, m23, m25, m27, m29, m31, m33, m35, m37, oo⟩, ⟨m18, m20, m22, m24, m26, m28, m30, m32, m34, m36, m38, oo⟩, ⟨X06g, oo⟩, oo⟩
theorem X0wa : Q 40 X0fz := w [(92, q53), (25, [Xsg]), (93, [e33]), (94, [X0g0]), (103, [e45]), (111, [e34]), (124, [e43]), (126, [e44]), (145, [e40])] ⟨qk53, ⟨X06g, oo⟩, ⟨m33, oo⟩, ⟨X0wb, oo⟩, ⟨m45, oo⟩, ⟨m34, oo⟩, ⟨m43, oo⟩, ⟨m44, oo⟩, ⟨m40, oo⟩, oo⟩
theorem X0w9 : Q 87 X0fy := w [(92, q54), (93, [e17, e19, e21, e23, e25, e27, e29, e31, e33, e35, e37]), (111, [e18, e20, e22, e24, e26, e28, e30, e32, e34, e36, e38]), (25, [Xsf])] ⟨qk54, ⟨m17, m19, m21, m23, m25, m27, m29, m31, m33, m35, m37, oo⟩, ⟨m18, m20, m22, m24, m26, m28, m30, m32, m34, m36, m38, oo⟩, ⟨X06f, oo⟩, oo⟩
theorem X0w7 : Q 87 X0fw := w [(92, q55), (93, [e17, e19, e21, e23, e25, e27, e29, e31, e33, e35, e37]), (111, [e18, e20, e22, e24, e26, e28, e30, e32, e34, e36, e38]), (25, [Xse])] ⟨qk55, ⟨m17, m19, m21, m23, m25, m27, m29, m31, m33, m35, m37, oo⟩, ⟨m18, m20, m22, m24, m26, m28, m30, m32, m34, m36, m38, oo⟩, ⟨X06e, oo⟩, oo⟩
theorem X0w5 : Q 87 X0fu := w [(92, q56), (93, [e17, e19, e21, e23, e25, e27, e29, e31, e33, e35, e37]), (111, [e18, e20, e22, e24, e26, e28, e30, e32, e34, e36, e38]), (25, [Xsd])] ⟨qk56, ⟨m17, m19, m21, m23, m25, m27, m29, m31, m33, m35, m37, oo⟩, ⟨m18, m20, m22, m24, m26, m28, m30, m32, m34, m36, m38, oo⟩, ⟨X06d, oo⟩, oo⟩
theorem X0w3 : Q 87 X0fs := w [(92, q57), (93, [e17, e19, e21, e23, e25, e27, e29, e31, e33, e35, e37]), (111, [e18, e20, e22, e24, e26, e28, e30, e32, e34, e36, e38]), (25, [Xsc])] ⟨qk57, ⟨m17, m19, m21, m23, m25, m27, m29, m31, m33, m35, m37, oo⟩, ⟨m18, m20, m22, m24, m26, m28, m30, m32, m34, m36, m38, oo⟩, ⟨X06c, oo⟩, oo⟩
theorem X0w1 : Q 40 X0fq := w [(92, q57), (25, [Xsc]), (93, [e35]), (94, [X0fr]), (103, [e45]), (111, [e36]), (118, [e42]), (126, [e44]), (145, [e40]), (146, [e41])] ⟨qk57, ⟨X06c, oo⟩, ⟨m35, oo⟩, ⟨X0w2, oo⟩, ⟨m45, oo⟩, ⟨m36, oo⟩, ⟨m42, oo⟩, ⟨m44, oo⟩, ⟨m40, oo⟩, ⟨m41, oo⟩, oo⟩
theorem X0w0 : Q 87 X0fp := w [(92, q58), (93, [e17, e19, e21, e23, e25, e27, e29, e31, e33, e35, e37]), (111, [e18, e20, e22, e24, e26, e28, e30, e32, e34, e36, e38]), (25, [Xsb])] ⟨qk58, ⟨m17, m19, m21, m23, m25, m27, m29, m31, m33, m35, m37, oo⟩, ⟨m18, m20, m22, m24, m26, m28, m30, m32, m34, m36, m38, oo⟩, ⟨X06b, oo⟩, oo⟩
theorem X0vw : Q 34 X0fl := w [(75, [X0fn]), (199, [X0fm])] ⟨⟨X0vy, oo⟩, ⟨X0vx, oo⟩, oo⟩
theorem X067 : Q 36 Xs7 := w [(25, [Xjf]), (103, [e45]), (118, [e42]), (124, [e43]), (126, [e44]), (145, [e40]), (146, [e41]), (147, [e46])] ⟨⟨Xo2, oo⟩, ⟨m45, oo⟩, ⟨m42, oo⟩, ⟨m43, oo⟩, ⟨m44, oo⟩, ⟨m40, oo⟩, ⟨m41, oo⟩, ⟨m46, oo⟩, oo⟩
theorem X0vu : Q 87 X0fj := w [(92, q59), (93, [X1e, X1d, X0x, X0v, X0m, X19]), (111, [X0z, X0y, X0w, X0u, X0q, X1c]), (25, [Xjf])] ⟨qk59, ⟨X1h, X1g, X13, X11, X0n, X1b, oo⟩, ⟨X15, X14, X12, X10, X0r, X1f, oo⟩, ⟨Xo2, oo⟩, oo⟩
theorem X0vs : Q 87 X0fh := w [(92, q60), (93, [X1e, X1d, X0x, X0v, X0m, X19]), (111, [X0z, X0y, X0w, X0u, X0q, X1c]), (25, [Xs6])] ⟨qk60, ⟨X1h, X1g, X13, X11, X0n, X1b, oo⟩, ⟨X15, X14, X12, X10, X0r, X1f, oo⟩, ⟨X066, oo⟩, oo⟩
theorem X0vq : Q 87 X0ff := w [(92, q61), (93, [X1e, X1d, X0x, X0v, X0m, X19]), (111, [X0z, X0y, X0w, X0u, X0q, X1c]), (25, [Xs5])] ⟨qk61, ⟨X1h, X1g, X13, X11, X0n, X1b, oo⟩, ⟨X15, X14, X12, X10, X0r, X1f, oo⟩, ⟨X065, oo⟩, oo⟩
theorem X0vo : Q 87 X0fd := w [(92, q62), (93, [X1e, X1d, X0x, X0v, X0m, X19]), (111, [X0z, X0y, X0w, X0u, X0q, X1c]), (25, [Xs4])] ⟨qk62, ⟨X1h, X1g, X13, X11, X0n, X1b, oo⟩, ⟨X15, X14, X12, X10, X0r, X1f, oo⟩, ⟨X064, oo⟩, oo⟩
theorem X0vm : Q 87 X0fb := w [(92, q63), (93, [X1e, X1d, X0x, X0v, X0m, X19]), (111, [X0z, X0y, X0w, X0u, X0q, X1c]), (25, [Xs3])] ⟨qk63, ⟨X1h, X1g, X13, X11, X0n, X1b, oo⟩, ⟨X15, X14, X12, X10, X0r, X1f, oo⟩, ⟨X063, oo⟩, oo⟩
theorem X0vj : Q 87 X0f8 := w [(92, q64), (93, [X1e, X1d, X0x, X0v, X0m, X19]), (111, [X0z, X0y, X0w, X0u, X0q, X1c]), (25, [Xs2])] ⟨qk64, ⟨X1h, X1g, X13, X11, X0n, X1b, oo⟩, ⟨X15, X14, X12, X10, X0r, X1f, oo⟩, ⟨X062, oo⟩, oo⟩
theorem X0vg : Q 87 X0f5 := w [(92, q65), (93, [X1e, X1d, X0x, X0v, X0m, X19]), (111, [X0z, X0y, X0w, X0u, X0q, X1c]), (25, [Xs1])] ⟨qk65, ⟨X1h, X1g, X13, X11, X0n, X1b, oo⟩, ⟨X15, X14, X12, X10, X0r, X1f, oo⟩, ⟨X061, oo⟩, oo⟩
theorem X0ve : Q 87 X0f3 := w [(92, q66), (93, [X1e, X1d, X0x, X0v, X0m, X19]), (111, [X0z, X0y, X0w, X0u, X0q, X1c]), (25, [Xs0])] ⟨qk66, ⟨X1h, X1g, X13, X11, X0n, X1b, oo⟩, ⟨X15, X14, X12, X10, X0r, X1f, oo⟩, ⟨X060, oo⟩, oo⟩
theorem X0vc : Q 87 X0f1 := w [(92, q67), (93, [X1e, X1d, X0x, X0v, X0m, X19]), (111, [X0z, X0y, X0w, X0u, X0q, X1c]), (25, [Xrz])] ⟨qk67, ⟨X1h, X1g, X13, X11, X0n, X1b, oo⟩, ⟨X15, X14, X12, X10, X0r, X1f, oo⟩, ⟨X05z, oo⟩, oo⟩
theorem X0va : Q 87 X0ez := w [(92, q68), (93, [X1e, X1d, X0x, X0v, X0m, X19]), (111, [X0z, X0y, X0w, X0u, X0q, X1c]), (25, [Xry])] ⟨qk68, ⟨X1h, X1g, X13, X11, X0n, X1b, oo⟩, ⟨X15, X14, X12, X10, X0r, X1f, oo⟩, ⟨X05y, oo⟩, oo⟩
theorem X0v8 : Q 87 X0ex := w [(92, q69), (93, [X1e, X1d, X0x, X0v, X0m, X19]), (111, [X0z, X0y, X0w, X0u, X0q, X1c]), (25, [Xrx])] ⟨qk69, ⟨X1h, X1g, X13, X11, X0n, X1b, oo⟩, ⟨X15, X14, X12, X10, X0r, X1f, oo⟩, ⟨X05x, oo⟩, oo⟩
theorem X0v5 : Q 87 X0eu := w [(92, q70), (93, [X1e, X1d, X0x, X0v, X0m, X19]), (111, [X0z, X0y, X0w, X0u, X0q, X1c]), (25, [Xrw])] ⟨qk70, ⟨X1h, X1g, X13, X11, X0n, X1b, oo⟩, ⟨X15, X14, X12, X10, X0r, X1f, oo⟩, ⟨X05w, oo⟩, oo⟩
theorem X0v3 : Q 87 X0es := w [(92, q71), (93, [X1e, X1d, X0x, X0v, X0m, X19]), (111, [X0z, X0y, X0w, X0u, X0q, X1c]), (25, [Xrv])] ⟨qk71, ⟨X1h, X1g, X13, X11, X0n, X1b, oo⟩, ⟨X15, X14, X12, X10, X0r, X1f, oo⟩, ⟨X05v, oo⟩, oo⟩
theorem X0v1 : Q 87 X0eq := w [(92, q72), (93, [X1e, X1d, X0x, X0v, X0m, X19]), (111, [X0z, X0y, X0w, X0u, X0q, X1c]), (25, [Xru])] ⟨qk72, ⟨X1h, X1g, X13, X11, X0n, X1b, oo⟩, ⟨X15, X14, X12, X10, X0r, X1f, oo⟩, ⟨X05u, oo⟩, oo⟩
theorem X0uy : Q 87 X0en := w [(92, q73), (93, [X1e, X1d, X0x, X0v, X0m, X19]), (111, [X0z, X0y, X0w, X0u, X0q, X1c]), (25, [Xrt])] ⟨qk73, ⟨X1h, X1g, X13, X11, X0n, X1b, oo⟩, ⟨X15, X14, X12, X10, X0r, X1f, oo⟩, ⟨X05t, oo⟩, oo⟩
theorem X0uv : Q 87 X0ek := w [(92, q74), (93, [X1e, X1d, X0x, X0v, X0m, X19]), (111, [X0z, X0y, X0w, X0u, X0q, X1c]), (25, [Xrs])] ⟨qk74, ⟨X1h, X1g, X13, X11, X0n, X1b, oo⟩, ⟨X15, X14, X12, X10, X0r, X1f, oo⟩, ⟨X05s, oo⟩, oo⟩
theorem X0us : Q 87 X0eh := w [(92, q75), (93, [X1e, X1d, X0x, X0v, X0m, X19]), (111, [X0z, X0y, X0w, X0u, X0q, X1c]), (25, [Xrr])] ⟨qk75, ⟨X1h, X1g, X13, X11, X0n, X1b, oo⟩, ⟨X15, X14, X12, X10, X0r, X1f, oo⟩, ⟨X05r, oo⟩, oo⟩
end Go.Av.Tryz
