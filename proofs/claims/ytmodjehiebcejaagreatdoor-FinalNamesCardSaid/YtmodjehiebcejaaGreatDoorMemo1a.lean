/- A closed run: some of its parts. -/
import Derived.Test.YtmodjehiebcejaaGreatDoorMemoB
set_option linter.all false

set_option maxRecDepth 1000000
namespace Go.Av.Tryz
open Go.Av Go.Av.X Go.Proofs Go.D Go.Av.Tryz
set_option maxHeartbeats 4000000
theorem m0 : Q 198 e0 := w [] oo
theorem m1 : Q 198 e1 := w [] oo
theorem m2 : Q 198 e2 := w [] oo
theorem m3 : Q 198 e3 := w [] oo
theorem m4 : Q 198 e4 := w [] oo
theorem m5 : Q 198 e5 := w [] oo
theorem m6 : Q 198 e6 := w [] oo
theorem m12 : Q 43 e12 := w [(206, [e10])] ⟨⟨m10, oo⟩, oo⟩
theorem m15 : Q 107 e15 := w [] oo
theorem m17 : Q 93 e17 := w [] oo
theorem m18 : Q 111 e18 := w [] oo
theorem m19 : Q 93 e19 := w [] oo
theorem m20 : Q 111 e20 := w [] oo
theorem m21 : Q 93 e21 := w [] oo
theorem m22 : Q 111 e22 := w [] oo
theorem m23 : Q 93 e23 := w [] oo
theorem m24 : Q 111 e24 := w [] oo
theorem m25 : Q 93 e25 := w [] oo
theorem m26 : Q 111 e26 := w [] oo
theorem m27 : Q 93 e27 := w [] oo
theorem m28 : Q 111 e28 := w [] oo
theorem m29 : Q 93 e29 := w [] oo
theorem m30 : Q 111 e30 := w [] oo
theorem m31 : Q 93 e31 := w [] oo
theorem m32 : Q 111 e32 := w [] oo
theorem m33 : Q 93 e33 := w [] oo
theorem m34 : Q 111 e34 := w [] oo
theorem m35 : Q 93 e35 := w [] oo
theorem m36 : Q 111 e36 := w [] oo
theorem m37 : Q 93 e37 := w [] oo
theorem m38 : Q 111 e38 := w [] oo
theorem m66 : Q 90 e66 := w [(103, [e45]), (118, [e42]), (124, [e43]), (126, [e44]), (145, [e40]), (146, [e41]), (147, [e46])] ⟨⟨m45, oo⟩, ⟨m42, oo⟩, ⟨m43, oo⟩, ⟨m44, oo⟩, ⟨m40, oo⟩, ⟨m41, oo⟩, ⟨m46, oo⟩, oo⟩
theorem m86 : Q 90 e86 := w [(103, [e45]), (118, [e42]), (124, [e43]), (126, [e44]), (145, [e40]), (146, [e41]), (147, [e46])] ⟨⟨m45, oo⟩, ⟨m42, oo⟩, ⟨m43, oo⟩, ⟨m44, oo⟩, ⟨m40, oo⟩, ⟨m41, oo⟩, ⟨m46, oo⟩, oo⟩
theorem m146 : Q 216 e146 := w [(103, [e45]), (118, [e42]), (124, [e43]), (126, [e44]), (145, [e40]), (206, [e10])] ⟨⟨m45, oo⟩, ⟨m42, oo⟩, ⟨m43, oo⟩, ⟨m44, oo⟩, ⟨m40, oo⟩, ⟨m10, oo⟩, oo⟩
theorem m167 : Q 216 e167 := w [(103, [e45]), (118, [e42]), (124, [e43]), (126, [e44]), (145, [e40]), (206, [e10])] ⟨⟨m45, oo⟩, ⟨m42, oo⟩, ⟨m43, oo⟩, ⟨m44, oo⟩, ⟨m40, oo⟩, ⟨m10, oo⟩, oo⟩
theorem m188 : Q 90 e188 := w [(103, [e45]), (118, [e42]), (124, [e43]), (126, [e44]), (145, [e40]), (146, [e41]), (147, [e46])] ⟨⟨m45, oo⟩, ⟨m42, oo⟩, ⟨m43, oo⟩, ⟨m44, oo⟩, ⟨m40, oo⟩, ⟨m41, oo⟩, ⟨m46, oo⟩, oo⟩
theorem m208 : Q 90 e208 := w [(103, [e45]), (118, [e42]), (124, [e43]), (126, [e44]), (145, [e40]), (146, [e41]), (147, [e46])] ⟨⟨m45, oo⟩, ⟨m42, oo⟩, ⟨m43, oo⟩, ⟨m44, oo⟩, ⟨m40, oo⟩, ⟨m41, oo⟩, ⟨m46, oo⟩, oo⟩
theorem m428 : Q 218 e428 := w [(103, [e45]), (118, [e42]), (124, [e43]), (126, [e44]), (145, [e40]), (206, [e10])] ⟨⟨m45, oo⟩, ⟨m42, oo⟩, ⟨m43, oo⟩, ⟨m44, oo⟩, ⟨m40, oo⟩, ⟨m10, oo⟩, oo⟩
theorem m449 : Q 90 e449 := w [(103, [e45]), (118, [e42]), (124, [e43]), (126, [e44]), (145, [e40]), (146, [e41]), (147, [e46])] ⟨⟨m45, oo⟩, ⟨m42, oo⟩, ⟨m43, oo⟩, ⟨m44, oo⟩, ⟨m40, oo⟩, ⟨m41, oo⟩, ⟨m46, oo⟩, oo⟩
theorem m549 : Q 68 e549 := w [] oo
theorem m652 : Q 218 e652 := w [(103, [e45]), (118, [e42]), (124, [e43]), (126, [e44]), (145, [e40]), (206, [e10])] ⟨⟨m45, oo⟩, ⟨m42, oo⟩, ⟨m43, oo⟩, ⟨m44, oo⟩, ⟨m40, oo⟩, ⟨m10, oo⟩, oo⟩
theorem m673 : Q 90 e673 := w [(103, [e45]), (118, [e42]), (124, [e43]), (126, [e44]), (145, [e40]), (146, [e41]), (147, [e46])] ⟨⟨m45, oo⟩, ⟨m42, oo⟩, ⟨m43, oo⟩, ⟨m44, oo⟩, ⟨m40, oo⟩, ⟨m41, oo⟩, ⟨m46, oo⟩, oo⟩
theorem m753 : Q 218 e753 := w [(103, [e45]), (118, [e42]), (124, [e43]), (126, [e44]), (145, [e40]), (206, [e10])] ⟨⟨m45, oo⟩, ⟨m42, oo⟩, ⟨m43, oo⟩, ⟨m44, oo⟩, ⟨m40, oo⟩, ⟨m10, oo⟩, oo⟩
theorem m774 : Q 218 e774 := w [(103, [e45]), (118, [e42]), (124, [e43]), (126, [e44]), (145, [e40]), (206, [e10])] ⟨⟨m45, oo⟩, ⟨m42, oo⟩, ⟨m43, oo⟩, ⟨m44, oo⟩, ⟨m40, oo⟩, ⟨m10, oo⟩, oo⟩
theorem m895 : Q 218 e895 := w [(103, [e45]), (118, [e42]), (124, [e43]), (126, [e44]), (145, [e40]), (206, [e10])] ⟨⟨m45, oo⟩, ⟨m42, oo⟩, ⟨m43, oo⟩, ⟨m44, oo⟩, ⟨m40, oo⟩, ⟨m10, oo⟩, oo⟩
theorem m916 : Q 218 e916 := w [(103, [e45]), (124, [e43]), (126, [e44]), (145, [e40]), (206, [e10])] ⟨⟨m45, oo⟩, ⟨m43, oo⟩, ⟨m44, oo⟩, ⟨m40, oo⟩, ⟨m10, oo⟩, oo⟩
theorem m978 : Q 218 e978 := w [(103, [e45]), (124, [e43]), (126, [e44]), (145, [e40]), (206, [e10])] ⟨⟨m45, oo⟩, ⟨m43, oo⟩, ⟨m44, oo⟩, ⟨m40, oo⟩, ⟨m10, oo⟩, oo⟩
theorem X0wq : Q 218 X0gf := w [(103, [e45]), (118, [e42]), (124, [e43]), (126, [e44]), (145, [e40]), (206, [e10])] ⟨⟨m45, oo⟩, ⟨m42, oo⟩, ⟨m43, oo⟩, ⟨m44, oo⟩, ⟨m40, oo⟩, ⟨m10, oo⟩, oo⟩
theorem X0wh : Q 218 X0g6 := w [(103, [e45]), (118, [e42]), (124, [e43]), (126, [e44]), (145, [e40]), (206, [e10])] ⟨⟨m45, oo⟩, ⟨m42, oo⟩, ⟨m43, oo⟩, ⟨m44, oo⟩, ⟨m40, oo⟩, ⟨m10, oo⟩, oo⟩
theorem X0wc : Q 218 X0g1 := w [(103, [e45]), (118, [e42]), (124, [e43]), (126, [e44]), (145, [e40]), (206, [e10])] ⟨⟨m45, oo⟩, ⟨m42, oo⟩, ⟨m43, oo⟩, ⟨m44, oo⟩, ⟨m40, oo⟩, ⟨m10, oo⟩, oo⟩
theorem X06a : Q 198 Xsa := w [] oo
theorem X069 : Q 198 Xs9 := w [] oo
theorem X068 : Q 198 Xs8 := w [] oo
theorem Xo3 : Q 198 Xjg := w [] oo
theorem X0vv : Q 21 X0fk := w [(44, [e11]), (104, [e13]), (206, [X1z])] ⟨⟨m11, oo⟩, ⟨m13, oo⟩, ⟨X21, oo⟩, oo⟩
theorem X2r : Q 107 X2q := w [] oo
theorem X1h : Q 93 X1e := w [] oo
theorem X15 : Q 111 X0z := w [] oo
theorem X1g : Q 93 X1d := w [] oo
theorem X14 : Q 111 X0y := w [] oo
theorem X13 : Q 93 X0x := w [] oo
theorem X12 : Q 111 X0w := w [] oo
theorem X11 : Q 93 X0v := w [] oo
theorem X10 : Q 111 X0u := w [] oo
theorem X0n : Q 93 X0m := w [] oo
theorem X0r : Q 111 X0q := w [] oo
theorem X1b : Q 93 X19 := w [] oo
theorem X1f : Q 111 X1c := w [] oo
theorem X0vt : Q 90 X0fi := w [(103, [e45]), (118, [e42]), (124, [e43]), (126, [e44]), (145, [e40]), (146, [e41]), (147, [e46])] ⟨⟨m45, oo⟩, ⟨m42, oo⟩, ⟨m43, oo⟩, ⟨m44, oo⟩, ⟨m40, oo⟩, ⟨m41, oo⟩, ⟨m46, oo⟩, oo⟩
end Go.Av.Tryz
