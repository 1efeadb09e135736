/- A closed run: some of its parts. -/
import Derived.Test.YtmodjehiebcejaaGreatDoorMemo1a
import Derived.Test.YtmodjehiebcejaaGreatDoorMemo1b
import Derived.Test.YtmodjehiebcejaaGreatDoorMemoQ
set_option linter.all false

set_option maxRecDepth 1000000
namespace Go.Av.Tryz
open Go.Av Go.Av.X Go.Proofs Go.D Go.Av.Tryz
set_option maxHeartbeats 4000000
theorem X0qv : Q 90 X0ak := w [(92, q134), (103, [e45]), (111, [X0c]), (118, [e42]), (124, [e43]), (126, [e44]), (145, [e40]), (146, [e41]), (147, [e46])] ⟨Xn4, ⟨m45, oo⟩, ⟨X0e, oo⟩, ⟨m42, oo⟩, ⟨m43, oo⟩, ⟨m44, oo⟩, ⟨m40, oo⟩, ⟨m41, oo⟩, ⟨m46, oo⟩, oo⟩
theorem X045 : Q 25 Xq5 := w [(93, [X0d, Xv, Xz, Xy, X07, X06]), (111, [Xp, X00, Xg, X08, X0c, X0g]), (35, [X1l]), (107, [X23]), (108, [X1y])] ⟨⟨X0f, Xx, X03, X02, X0a, X09, oo⟩, ⟨Xs, X04, Xi, X0b, X0e, X0h, oo⟩, ⟨X1p, oo⟩, ⟨X25, oo⟩, ⟨X20, oo⟩, oo⟩
theorem X0qt : Q 94 X0ai := w [(93, [X06]), (103, [e45]), (118, [e42]), (124, [e43]), (126, [e44]), (145, [e40]), (146, [e41]), (147, [e46])] ⟨⟨X09, oo⟩, ⟨m45, oo⟩, ⟨m42, oo⟩, ⟨m43, oo⟩, ⟨m44, oo⟩, ⟨m40, oo⟩, ⟨m41, oo⟩, ⟨m46, oo⟩, oo⟩
theorem X044 : Q 25 Xq4 := w [(93, [X0d, Xv, Xz, Xy, X07, X06]), (111, [Xp, X00, Xg, X08, X0c, X0g]), (35, [X1l]), (107, [X23]), (108, [X1y])] ⟨⟨X0f, Xx, X03, X02, X0a, X09, oo⟩, ⟨Xs, X04, Xi, X0b, X0e, X0h, oo⟩, ⟨X1p, oo⟩, ⟨X25, oo⟩, ⟨X20, oo⟩, oo⟩
theorem X0qp : Q 75 X0ae := w [(198, [e4, Xjg, X0af])] ⟨⟨m4, Xo3, X0qq, oo⟩, oo⟩
theorem Xfv : Q 25 Xed := w [(93, [Xo, X8, X6, Xm]), (111, [X9, X7, Xj, Xu]), (108, [X1w]), (206, [X16])] ⟨⟨Xr, Xd, Xb, Xn, oo⟩, ⟨Xe, Xc, Xl, Xw, oo⟩, ⟨X1x, oo⟩, ⟨X17, oo⟩, oo⟩
theorem X043 : Q 25 Xq3 := w [(93, [Xo, X8, X6, Xm]), (111, [X9, X7, Xj, Xu]), (108, [X1w]), (206, [X16])] ⟨⟨Xr, Xd, Xb, Xn, oo⟩, ⟨Xe, Xc, Xl, Xw, oo⟩, ⟨X1x, oo⟩, ⟨X17, oo⟩, oo⟩
theorem X0qf : Q 90 X0a4 := w [(92, q138), (103, [e45]), (111, [X9]), (118, [e42]), (124, [e43]), (126, [e44]), (145, [e40]), (146, [e41]), (147, [e46])] ⟨Xn3, ⟨m45, oo⟩, ⟨Xe, oo⟩, ⟨m42, oo⟩, ⟨m43, oo⟩, ⟨m44, oo⟩, ⟨m40, oo⟩, ⟨m41, oo⟩, ⟨m46, oo⟩, oo⟩
theorem X042 : Q 25 Xq2 := w [(93, [Xo, X8, X6, Xm]), (111, [X9, X7, Xj, Xu]), (108, [X1w]), (206, [X16])] ⟨⟨Xr, Xd, Xb, Xn, oo⟩, ⟨Xe, Xc, Xl, Xw, oo⟩, ⟨X1x, oo⟩, ⟨X17, oo⟩, oo⟩
theorem X0qd : Q 94 X0a2 := w [(93, [X8]), (103, [e45]), (118, [e42]), (124, [e43]), (126, [e44]), (145, [e40]), (146, [e41]), (147, [e46]), (206, [X16])] ⟨⟨Xd, oo⟩, ⟨m45, oo⟩, ⟨m42, oo⟩, ⟨m43, oo⟩, ⟨m44, oo⟩, ⟨m40, oo⟩, ⟨m41, oo⟩, ⟨m46, oo⟩, ⟨X17, oo⟩, oo⟩
theorem X041 : Q 25 Xq1 := w [(93, [Xo, X8, X6, Xm]), (111, [X9, X7, Xj, Xu]), (108, [X1w]), (206, [X16])] ⟨⟨Xr, Xd, Xb, Xn, oo⟩, ⟨Xe, Xc, Xl, Xw, oo⟩, ⟨X1x, oo⟩, ⟨X17, oo⟩, oo⟩
theorem X040 : Q 25 Xq0 := w [(93, [Xo, X8, X6, Xm]), (111, [X9, X7, Xj, Xu]), (108, [X1w]), (206, [X16])] ⟨⟨Xr, Xd, Xb, Xn, oo⟩, ⟨Xe, Xc, Xl, Xw, oo⟩, ⟨X1x, oo⟩, ⟨X17, oo⟩, oo⟩
theorem X0q9 : Q 90 X09y := w [(92, q141), (103, [e45]), (111, [X7]), (118, [e42]), (124, [e43]), (126, [e44]), (145, [e40]), (146, [e41]), (147, [e46])] ⟨Xn2, ⟨m45, oo⟩, ⟨Xc, oo⟩, ⟨m42, oo⟩, ⟨m43, oo⟩, ⟨m44, oo⟩, ⟨m40, oo⟩, ⟨m41, oo⟩, ⟨m46, oo⟩, oo⟩
theorem X03z : Q 25 Xpz := w [(93, [Xo, X8, X6, Xm]), (111, [X9, X7, Xj, Xu]), (108, [X1w]), (206, [X16])] ⟨⟨Xr, Xd, Xb, Xn, oo⟩, ⟨Xe, Xc, Xl, Xw, oo⟩, ⟨X1x, oo⟩, ⟨X17, oo⟩, oo⟩
theorem X0q7 : Q 94 X09w := w [(93, [X6]), (103, [e45]), (118, [e42]), (124, [e43]), (126, [e44]), (145, [e40]), (146, [e41]), (147, [e46]), (206, [X16])] ⟨⟨Xb, oo⟩, ⟨m45, oo⟩, ⟨m42, oo⟩, ⟨m43, oo⟩, ⟨m44, oo⟩, ⟨m40, oo⟩, ⟨m41, oo⟩, ⟨m46, oo⟩, ⟨X17, oo⟩, oo⟩
theorem X03y : Q 25 Xpy := w [(93, [Xo, X8, X6, Xm]), (111, [X9, X7, Xj, Xu]), (108, [X1w]), (206, [X16])] ⟨⟨Xr, Xd, Xb, Xn, oo⟩, ⟨Xe, Xc, Xl, Xw, oo⟩, ⟨X1x, oo⟩, ⟨X17, oo⟩, oo⟩
theorem X0q5 : Q 90 X09u := w [(92, q143), (103, [e45]), (111, [X9]), (118, [e42]), (124, [e43]), (126, [e44]), (145, [e40]), (146, [e41]), (147, [e46])] ⟨Xn1, ⟨m45, oo⟩, ⟨Xe, oo⟩, ⟨m42, oo⟩, ⟨m43, oo⟩, ⟨m44, oo⟩, ⟨m40, oo⟩, ⟨m41, oo⟩, ⟨m46, oo⟩, oo⟩
theorem X03x : Q 25 Xpx := w [(93, [Xo, X8, X6, Xm]), (111, [X9, X7, Xj, Xu]), (108, [X1w]), (206, [X16])] ⟨⟨Xr, Xd, Xb, Xn, oo⟩, ⟨Xe, Xc, Xl, Xw, oo⟩, ⟨X1x, oo⟩, ⟨X17, oo⟩, oo⟩
theorem X0q3 : Q 94 X09s := w [(93, [X8]), (103, [e45]), (118, [e42]), (124, [e43]), (126, [e44]), (145, [e40]), (146, [e41]), (147, [e46]), (206, [X16])] ⟨⟨Xd, oo⟩, ⟨m45, oo⟩, ⟨m42, oo⟩, ⟨m43, oo⟩, ⟨m44, oo⟩, ⟨m40, oo⟩, ⟨m41, oo⟩, ⟨m46, oo⟩, ⟨X17, oo⟩, oo⟩
theorem X03w : Q 25 Xpw := w [(93, [Xo, X8, X6, Xm]), (111, [X9, X7, Xj, Xu]), (108, [X1w]), (206, [X16])] ⟨⟨Xr, Xd, Xb, Xn, oo⟩, ⟨Xe, Xc, Xl, Xw, oo⟩, ⟨X1x, oo⟩, ⟨X17, oo⟩, oo⟩
theorem X0q1 : Q 90 X09q := w [(92, q145), (103, [e45]), (111, [X7]), (118, [e42]), (124, [e43]), (126, [e44]), (145, [e40]), (146, [e41]), (147, [e46])] ⟨Xn0, ⟨m45, oo⟩, ⟨Xc, oo⟩, ⟨m42, oo⟩, ⟨m43, oo⟩, ⟨m44, oo⟩, ⟨m40, oo⟩, ⟨m41, oo⟩, ⟨m46, oo⟩, oo⟩
theorem X03v : Q 25 Xpv := w [(93, [Xo, X8, X6, Xm]), (111, [X9, X7, Xj, Xu]), (108, [X1w]), (206, [X16])] ⟨⟨Xr, Xd, Xb, Xn, oo⟩, ⟨Xe, Xc, Xl, Xw, oo⟩, ⟨X1x, oo⟩, ⟨X17, oo⟩, oo⟩
theorem X0py : Q 94 X09n := w [(93, [X6]), (103, [e45]), (118, [e42]), (124, [e43]), (126, [e44]), (145, [e40]), (146, [e41]), (147, [e46]), (218, [X09o])] ⟨⟨Xb, oo⟩, ⟨m45, oo⟩, ⟨m42, oo⟩, ⟨m43, oo⟩, ⟨m44, oo⟩, ⟨m40, oo⟩, ⟨m41, oo⟩, ⟨m46, oo⟩, ⟨X0pz, oo⟩, oo⟩
theorem X03u : Q 25 Xpu := w [(93, [Xo, X8, X6, Xm]), (111, [X9, X7, Xj, Xu]), (108, [X1w]), (206, [X16])] ⟨⟨Xr, Xd, Xb, Xn, oo⟩, ⟨Xe, Xc, Xl, Xw, oo⟩, ⟨X1x, oo⟩, ⟨X17, oo⟩, oo⟩
theorem X0pw : Q 90 X09l := w [(92, q147), (103, [e45]), (111, [Xj]), (118, [e42]), (124, [e43]), (126, [e44]), (145, [e40]), (146, [e41]), (147, [e46])] ⟨Xmz, ⟨m45, oo⟩, ⟨Xl, oo⟩, ⟨m42, oo⟩, ⟨m43, oo⟩, ⟨m44, oo⟩, ⟨m40, oo⟩, ⟨m41, oo⟩, ⟨m46, oo⟩, oo⟩
theorem X03t : Q 25 Xpt := w [(93, [Xo, X8, X6, Xm]), (111, [X9, X7, Xj, Xu]), (108, [X1w]), (206, [X16])] ⟨⟨Xr, Xd, Xb, Xn, oo⟩, ⟨Xe, Xc, Xl, Xw, oo⟩, ⟨X1x, oo⟩, ⟨X17, oo⟩, oo⟩
theorem X0pu : Q 94 X09j := w [(93, [Xm]), (103, [e45]), (118, [e42]), (124, [e43]), (126, [e44]), (145, [e40]), (146, [e41]), (147, [e46])] ⟨⟨Xn, oo⟩, ⟨m45, oo⟩, ⟨m42, oo⟩, ⟨m43, oo⟩, ⟨m44, oo⟩, ⟨m40, oo⟩, ⟨m41, oo⟩, ⟨m46, oo⟩, oo⟩
theorem X03s : Q 25 Xps := w [(93, [Xo, X8, X6, Xm]), (111, [X9, X7, Xj, Xu]), (108, [X1w]), (206, [X16])] ⟨⟨Xr, Xd, Xb, Xn, oo⟩, ⟨Xe, Xc, Xl, Xw, oo⟩, ⟨X1x, oo⟩, ⟨X17, oo⟩, oo⟩
theorem Xnw : Q 25 Xj9 := w [(93, [Xo, X8, X6, Xm]), (111, [X9, X7, Xj, Xu]), (108, [X1w]), (206, [X16])] ⟨⟨Xr, Xd, Xb, Xn, oo⟩, ⟨Xe, Xc, Xl, Xw, oo⟩, ⟨X1x, oo⟩, ⟨X17, oo⟩, oo⟩
theorem X03p : Q 25 Xpp := w [(93, [Xo, X8, X6, Xm]), (111, [X9, X7, Xj, Xu]), (108, [X1w]), (206, [X16])] ⟨⟨Xr, Xd, Xb, Xn, oo⟩, ⟨Xe, Xc, Xl, Xw, oo⟩, ⟨X1x, oo⟩, ⟨X17, oo⟩, oo⟩
theorem X0pn : Q 90 X09c := w [(92, q151), (103, [e45]), (111, [X9]), (118, [e42]), (124, [e43]), (126, [e44]), (145, [e40]), (146, [e41]), (147, [e46])] ⟨Xmy, ⟨m45, oo⟩, ⟨Xe, oo⟩, ⟨m42, oo⟩, ⟨m43, oo⟩, ⟨m44, oo⟩, ⟨m40, oo⟩, ⟨m41, oo⟩, ⟨m46, oo⟩, oo⟩
theorem X03o : Q 25 Xpo := w [(93, [Xo, X8, X6, Xm]), (111, [X9, X7, Xj, Xu]), (108, [X1w]), (206, [X16])] ⟨⟨Xr, Xd, Xb, Xn, oo⟩, ⟨Xe, Xc, Xl, Xw, oo⟩, ⟨X1x, oo⟩, ⟨X17, oo⟩, oo⟩
theorem X0pl : Q 94 X09a := w [(93, [X8]), (103, [e45]), (118, [e42]), (124, [e43]), (126, [e44]), (145, [e40]), (146, [e41]), (147, [e46]), (206, [X16])] ⟨⟨Xd, oo⟩, ⟨m45, oo⟩, ⟨m42, oo⟩, ⟨m43, oo⟩, ⟨m44, oo⟩, ⟨m40, oo⟩, ⟨m41, oo⟩, ⟨m46, oo⟩, ⟨X17, oo⟩, oo⟩
theorem X03n : Q 25 Xpn := w [(93, [Xo, X8, X6, Xm]), (111, [X9, X7, Xj, Xu]), (108, [X1w]), (206, [X16])] ⟨⟨Xr, Xd, Xb, Xn, oo⟩, ⟨Xe, Xc, Xl, Xw, oo⟩, ⟨X1x, oo⟩, ⟨X17, oo⟩, oo⟩
theorem X03m : Q 25 Xpm := w [(93, [Xo, X8, X6, Xm]), (111, [X9, X7, Xj, Xu]), (108, [X1w]), (206, [X16])] ⟨⟨Xr, Xd, Xb, Xn, oo⟩, ⟨Xe, Xc, Xl, Xw, oo⟩, ⟨X1x, oo⟩, ⟨X17, oo⟩, oo⟩
theorem X0ph : Q 90 X096 := w [(92, q154), (103, [e45]), (111, [X7]), (118, [e42]), (124, [e43]), (126, [e44]), (145, [e40]), (146, [e41]), (147, [e46])] ⟨Xmx, ⟨m45, oo⟩, ⟨Xc, oo⟩, ⟨m42, oo⟩, ⟨m43, oo⟩, ⟨m44, oo⟩, ⟨m40, oo⟩, ⟨m41, oo⟩, ⟨m46, oo⟩, oo⟩
theorem X03l : Q 25 Xpl := w [(93, [Xo, X8, X6, Xm]), (111, [X9, X7, Xj, Xu]), (108, [X1w]), (206, [X16])] ⟨⟨Xr, Xd, Xb, Xn, oo⟩, ⟨Xe, Xc, Xl, Xw, oo⟩, ⟨X1x, oo⟩, ⟨X17, oo⟩, oo⟩
theorem X0pf : Q 94 X094 := w [(93, [X6]), (103, [e45]), (118, [e42]), (124, [e43]), (126, [e44]), (145, [e40]), (146, [e41]), (147, [e46]), (206, [X16])] ⟨⟨Xb, oo⟩, ⟨m45, oo⟩, ⟨m42, oo⟩, ⟨m43, oo⟩, ⟨m44, oo⟩, ⟨m40, oo⟩, ⟨m41, oo⟩, ⟨m46, oo⟩, ⟨X17, oo⟩, oo⟩
theorem X03k : Q 25 Xpk := w [(93, [Xo, X8, X6, Xm]), (111, [X9, X7, Xj, Xu]), (108, [X1w]), (206, [X16])] ⟨⟨Xr, Xd, Xb, Xn, oo⟩, ⟨Xe, Xc, Xl, Xw, oo⟩, ⟨X1x, oo⟩, ⟨X17, oo⟩, oo⟩
theorem X0pd : Q 90 X092 := w [(92, q156), (103, [e45]), (111, [X9]), (118, [e42]), (124, [e43]), (126, [e44]), (145, [e40]), (146, [e41]), (147, [e46])] ⟨Xmw, ⟨m45, oo⟩, ⟨Xe, oo⟩, ⟨m42, oo⟩, ⟨m43, oo⟩, ⟨m44, oo⟩, ⟨m40, oo⟩, ⟨m41, oo⟩, ⟨m46, oo⟩, oo⟩
theorem X03j : Q 25 Xpj := w [(93, [Xo, X8, X6, Xm]), (111, [X9, X7, Xj, Xu]), (108, [X1w]), (206, [X16])] ⟨⟨Xr, Xd, Xb, Xn, oo⟩, ⟨Xe, Xc, Xl, Xw, oo⟩, ⟨X1x, oo⟩, ⟨X17, oo⟩, oo⟩
theorem X0pb : Q 94 X090 := w [(93, [X8]), (103, [e45]), (118, [e42]), (124, [e43]), (126, [e44]), (145, [e40]), (146, [e41]), (147, [e46]), (206, [X16])] ⟨⟨Xd, oo⟩, ⟨m45, oo⟩, ⟨m42, oo⟩, ⟨m43, oo⟩, ⟨m44, oo⟩, ⟨m40, oo⟩, ⟨m41, oo⟩, ⟨m46, oo⟩, ⟨X17, oo⟩, oo⟩
theorem X03i : Q 25 Xpi := w [(93, [Xo, X8, X6, Xm]), (111, [X9, X7, Xj, Xu]), (108, [X1w]), (206, [X16])] ⟨⟨Xr, Xd, Xb, Xn, oo⟩, ⟨Xe, Xc, Xl, Xw, oo⟩, ⟨X1x, oo⟩, ⟨X17, oo⟩, oo⟩
theorem X03h : Q 25 Xph := w [(93, [Xo, X8, X6, Xm]), (111, [X9, X7, Xj, Xu]), (108, [X1w]), (206, [X16])] ⟨⟨Xr, Xd, Xb, Xn, oo⟩, ⟨Xe, Xc, Xl, Xw, oo⟩, ⟨X1x, oo⟩, ⟨X17, oo⟩, oo⟩
theorem X0p7 : Q 90 X08w := w [(92, q159), (103, [e45]), (111, [X7]), (118, [e42]), (124, [e43]), (126, [e44]), (145, [e40]), (146, [e41]), (147, [e46])] ⟨Xmv, ⟨m45, oo⟩, ⟨Xc, oo⟩, ⟨m42, oo⟩, ⟨m43, oo⟩, ⟨m44, oo⟩, ⟨m40, oo⟩, ⟨m41, oo⟩, ⟨m46, oo⟩, oo⟩
theorem X03g : Q 25 Xpg := w [(93, [Xo, X8, X6, Xm]), (111, [X9, X7, Xj, Xu]), (108, [X1w]), (206, [X16])] ⟨⟨Xr, Xd, Xb, Xn, oo⟩, ⟨Xe, Xc, Xl, Xw, oo⟩, ⟨X1x, oo⟩, ⟨X17, oo⟩, oo⟩
theorem X0p5 : Q 94 X08u := w [(93, [X6]), (103, [e45]), (118, [e42]), (124, [e43]), (126, [e44]), (145, [e40]), (146, [e41]), (147, [e46]), (218, [Xpf])] ⟨⟨Xb, oo⟩, ⟨m45, oo⟩, ⟨m42, oo⟩, ⟨m43, oo⟩, ⟨m44, oo⟩, ⟨m40, oo⟩, ⟨m41, oo⟩, ⟨m46, oo⟩, ⟨X03f, oo⟩, oo⟩
theorem X03e : Q 25 Xpe := w [(93, [Xo, X8, X6, Xm]), (111, [X9, X7, Xj, Xu]), (108, [X1w]), (206, [X16])] ⟨⟨Xr, Xd, Xb, Xn, oo⟩, ⟨Xe, Xc, Xl, Xw, oo⟩, ⟨X1x, oo⟩, ⟨X17, oo⟩, oo⟩
end Go.Av.Tryz
