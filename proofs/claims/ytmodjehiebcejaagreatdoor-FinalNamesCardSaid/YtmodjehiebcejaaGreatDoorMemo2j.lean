/- A closed run: some of its parts. -/
import Derived.Test.YtmodjehiebcejaaGreatDoorMemo1b
import Derived.Test.YtmodjehiebcejaaGreatDoorMemoQ
set_option linter.all false

set_option maxRecDepth 1000000
namespace Go.Av.Tryz
open Go.Av Go.Av.X Go.Proofs Go.D Go.Av.Tryz
set_option maxHeartbeats 4000000
theorem X0p3 : Q 90 X08s := w [(92, q161), (103, [e45]), (111, [X9]), (118, [e42]), (124, [e43]), (126, [e44]), (145, [e40]), (146, [e41]), (147, [e46])] ⟨Xmu, ⟨m45, oo⟩, ⟨Xe, oo⟩, ⟨m42, oo⟩, ⟨m43, oo⟩, ⟨m44, oo⟩, ⟨m40, oo⟩, ⟨m41, oo⟩, ⟨m46, oo⟩, oo⟩
theorem X03d : Q 25 Xpd := w [(93, [Xo, X8, X6, Xm]), (111, [X9, X7, Xj, Xu]), (108, [X1w]), (206, [X16])] ⟨⟨Xr, Xd, Xb, Xn, oo⟩, ⟨Xe, Xc, Xl, Xw, oo⟩, ⟨X1x, oo⟩, ⟨X17, oo⟩, oo⟩
theorem X0p1 : Q 94 X08q := w [(93, [X8]), (103, [e45]), (118, [e42]), (124, [e43]), (126, [e44]), (145, [e40]), (146, [e41]), (147, [e46]), (206, [X16])] ⟨⟨Xd, oo⟩, ⟨m45, oo⟩, ⟨m42, oo⟩, ⟨m43, oo⟩, ⟨m44, oo⟩, ⟨m40, oo⟩, ⟨m41, oo⟩, ⟨m46, oo⟩, ⟨X17, oo⟩, oo⟩
theorem X03c : Q 25 Xpc := w [(93, [Xo, X8, X6, Xm]), (111, [X9, X7, Xj, Xu]), (108, [X1w]), (206, [X16])] ⟨⟨Xr, Xd, Xb, Xn, oo⟩, ⟨Xe, Xc, Xl, Xw, oo⟩, ⟨X1x, oo⟩, ⟨X17, oo⟩, oo⟩
theorem X0oz : Q 90 X08o := w [(92, q163), (103, [e45]), (111, [X7]), (118, [e42]), (124, [e43]), (126, [e44]), (145, [e40]), (146, [e41]), (147, [e46])] ⟨Xmt, ⟨m45, oo⟩, ⟨Xc, oo⟩, ⟨m42, oo⟩, ⟨m43, oo⟩, ⟨m44, oo⟩, ⟨m40, oo⟩, ⟨m41, oo⟩, ⟨m46, oo⟩, oo⟩
theorem X03b : Q 25 Xpb := w [(93, [Xo, X8, X6, Xm]), (111, [X9, X7, Xj, Xu]), (108, [X1w]), (206, [X16])] ⟨⟨Xr, Xd, Xb, Xn, oo⟩, ⟨Xe, Xc, Xl, Xw, oo⟩, ⟨X1x, oo⟩, ⟨X17, oo⟩, oo⟩
theorem X0ow : Q 94 X08l := w [(93, [X6]), (103, [e45]), (118, [e42]), (124, [e43]), (126, [e44]), (145, [e40]), (146, [e41]), (147, [e46]), (218, [X08m])] ⟨⟨Xb, oo⟩, ⟨m45, oo⟩, ⟨m42, oo⟩, ⟨m43, oo⟩, ⟨m44, oo⟩, ⟨m40, oo⟩, ⟨m41, oo⟩, ⟨m46, oo⟩, ⟨X0ox, oo⟩, oo⟩
theorem X03a : Q 25 Xpa := w [(93, [Xo, X8, X6, Xm]), (111, [X9, X7, Xj, Xu]), (108, [X1w]), (206, [X16])] ⟨⟨Xr, Xd, Xb, Xn, oo⟩, ⟨Xe, Xc, Xl, Xw, oo⟩, ⟨X1x, oo⟩, ⟨X17, oo⟩, oo⟩
theorem X0ou : Q 90 X08j := w [(92, q165), (103, [e45]), (111, [Xj]), (118, [e42]), (124, [e43]), (126, [e44]), (145, [e40]), (146, [e41]), (147, [e46])] ⟨Xms, ⟨m45, oo⟩, ⟨Xl, oo⟩, ⟨m42, oo⟩, ⟨m43, oo⟩, ⟨m44, oo⟩, ⟨m40, oo⟩, ⟨m41, oo⟩, ⟨m46, oo⟩, oo⟩
theorem X039 : Q 25 Xp9 := w [(93, [Xo, X8, X6, Xm]), (111, [X9, X7, Xj, Xu]), (108, [X1w]), (206, [X16])] ⟨⟨Xr, Xd, Xb, Xn, oo⟩, ⟨Xe, Xc, Xl, Xw, oo⟩, ⟨X1x, oo⟩, ⟨X17, oo⟩, oo⟩
theorem X0os : Q 94 X08h := w [(93, [Xm]), (103, [e45]), (118, [e42]), (124, [e43]), (126, [e44]), (145, [e40]), (146, [e41]), (147, [e46])] ⟨⟨Xn, oo⟩, ⟨m45, oo⟩, ⟨m42, oo⟩, ⟨m43, oo⟩, ⟨m44, oo⟩, ⟨m40, oo⟩, ⟨m41, oo⟩, ⟨m46, oo⟩, oo⟩
theorem X038 : Q 25 Xp8 := w [(93, [Xo, X8, X6, Xm]), (111, [X9, X7, Xj, Xu]), (108, [X1w]), (206, [X16])] ⟨⟨Xr, Xd, Xb, Xn, oo⟩, ⟨Xe, Xc, Xl, Xw, oo⟩, ⟨X1x, oo⟩, ⟨X17, oo⟩, oo⟩
theorem Xnv : Q 25 Xj8 := w [(93, [Xo, X8, X6, Xm]), (111, [X9, X7, Xj, Xu]), (108, [X1w]), (206, [X16])] ⟨⟨Xr, Xd, Xb, Xn, oo⟩, ⟨Xe, Xc, Xl, Xw, oo⟩, ⟨X1x, oo⟩, ⟨X17, oo⟩, oo⟩
theorem X036 : Q 25 Xp6 := w [(93, [Xo, X8, X6, Xm]), (111, [X9, X7, Xj, Xu]), (108, [X1w]), (206, [X16])] ⟨⟨Xr, Xd, Xb, Xn, oo⟩, ⟨Xe, Xc, Xl, Xw, oo⟩, ⟨X1x, oo⟩, ⟨X17, oo⟩, oo⟩
theorem X0ol : Q 90 X08a := w [(92, q169), (103, [e45]), (111, [X9]), (118, [e42]), (124, [e43]), (126, [e44]), (145, [e40]), (146, [e41]), (147, [e46])] ⟨Xmr, ⟨m45, oo⟩, ⟨Xe, oo⟩, ⟨m42, oo⟩, ⟨m43, oo⟩, ⟨m44, oo⟩, ⟨m40, oo⟩, ⟨m41, oo⟩, ⟨m46, oo⟩, oo⟩
theorem X035 : Q 25 Xp5 := w [(93, [Xo, X8, X6, Xm]), (111, [X9, X7, Xj, Xu]), (108, [X1w]), (206, [X16])] ⟨⟨Xr, Xd, Xb, Xn, oo⟩, ⟨Xe, Xc, Xl, Xw, oo⟩, ⟨X1x, oo⟩, ⟨X17, oo⟩, oo⟩
theorem X0oj : Q 94 X088 := w [(93, [X8]), (103, [e45]), (118, [e42]), (124, [e43]), (126, [e44]), (145, [e40]), (146, [e41]), (147, [e46]), (206, [X16])] ⟨⟨Xd, oo⟩, ⟨m45, oo⟩, ⟨m42, oo⟩, ⟨m43, oo⟩, ⟨m44, oo⟩, ⟨m40, oo⟩, ⟨m41, oo⟩, ⟨m46, oo⟩, ⟨X17, oo⟩, oo⟩
theorem X034 : Q 25 Xp4 := w [(93, [Xo, X8, X6, Xm]), (111, [X9, X7, Xj, Xu]), (108, [X1w]), (206, [X16])] ⟨⟨Xr, Xd, Xb, Xn, oo⟩, ⟨Xe, Xc, Xl, Xw, oo⟩, ⟨X1x, oo⟩, ⟨X17, oo⟩, oo⟩
theorem X033 : Q 25 Xp3 := w [(93, [Xo, X8, X6, Xm]), (111, [X9, X7, Xj, Xu]), (108, [X1w]), (206, [X16])] ⟨⟨Xr, Xd, Xb, Xn, oo⟩, ⟨Xe, Xc, Xl, Xw, oo⟩, ⟨X1x, oo⟩, ⟨X17, oo⟩, oo⟩
theorem X0of : Q 90 X084 := w [(92, q172), (103, [e45]), (111, [X7]), (118, [e42]), (124, [e43]), (126, [e44]), (145, [e40]), (146, [e41]), (147, [e46])] ⟨Xmq, ⟨m45, oo⟩, ⟨Xc, oo⟩, ⟨m42, oo⟩, ⟨m43, oo⟩, ⟨m44, oo⟩, ⟨m40, oo⟩, ⟨m41, oo⟩, ⟨m46, oo⟩, oo⟩
theorem X032 : Q 25 Xp2 := w [(93, [Xo, X8, X6, Xm]), (111, [X9, X7, Xj, Xu]), (108, [X1w]), (206, [X16])] ⟨⟨Xr, Xd, Xb, Xn, oo⟩, ⟨Xe, Xc, Xl, Xw, oo⟩, ⟨X1x, oo⟩, ⟨X17, oo⟩, oo⟩
theorem X0od : Q 94 X082 := w [(93, [X6]), (103, [e45]), (118, [e42]), (124, [e43]), (126, [e44]), (145, [e40]), (146, [e41]), (147, [e46]), (206, [X16])] ⟨⟨Xb, oo⟩, ⟨m45, oo⟩, ⟨m42, oo⟩, ⟨m43, oo⟩, ⟨m44, oo⟩, ⟨m40, oo⟩, ⟨m41, oo⟩, ⟨m46, oo⟩, ⟨X17, oo⟩, oo⟩
theorem X031 : Q 25 Xp1 := w [(93, [Xo, X8, X6, Xm]), (111, [X9, X7, Xj, Xu]), (108, [X1w]), (206, [X16])] ⟨⟨Xr, Xd, Xb, Xn, oo⟩, ⟨Xe, Xc, Xl, Xw, oo⟩, ⟨X1x, oo⟩, ⟨X17, oo⟩, oo⟩
theorem X0ob : Q 90 X080 := w [(92, q174), (103, [e45]), (111, [X9]), (118, [e42]), (124, [e43]), (126, [e44]), (145, [e40]), (146, [e41]), (147, [e46])] ⟨Xmp, ⟨m45, oo⟩, ⟨Xe, oo⟩, ⟨m42, oo⟩, ⟨m43, oo⟩, ⟨m44, oo⟩, ⟨m40, oo⟩, ⟨m41, oo⟩, ⟨m46, oo⟩, oo⟩
theorem X030 : Q 25 Xp0 := w [(93, [Xo, X8, X6, Xm]), (111, [X9, X7, Xj, Xu]), (108, [X1w]), (206, [X16])] ⟨⟨Xr, Xd, Xb, Xn, oo⟩, ⟨Xe, Xc, Xl, Xw, oo⟩, ⟨X1x, oo⟩, ⟨X17, oo⟩, oo⟩
theorem X0o9 : Q 94 X07y := w [(93, [X8]), (103, [e45]), (118, [e42]), (124, [e43]), (126, [e44]), (145, [e40]), (146, [e41]), (147, [e46]), (206, [X16])] ⟨⟨Xd, oo⟩, ⟨m45, oo⟩, ⟨m42, oo⟩, ⟨m43, oo⟩, ⟨m44, oo⟩, ⟨m40, oo⟩, ⟨m41, oo⟩, ⟨m46, oo⟩, ⟨X17, oo⟩, oo⟩
theorem X02z : Q 25 Xoz := w [(93, [Xo, X8, X6, Xm]), (111, [X9, X7, Xj, Xu]), (108, [X1w]), (206, [X16])] ⟨⟨Xr, Xd, Xb, Xn, oo⟩, ⟨Xe, Xc, Xl, Xw, oo⟩, ⟨X1x, oo⟩, ⟨X17, oo⟩, oo⟩
theorem X02y : Q 25 Xoy := w [(93, [Xo, X8, X6, Xm]), (111, [X9, X7, Xj, Xu]), (108, [X1w]), (206, [X16])] ⟨⟨Xr, Xd, Xb, Xn, oo⟩, ⟨Xe, Xc, Xl, Xw, oo⟩, ⟨X1x, oo⟩, ⟨X17, oo⟩, oo⟩
theorem X0o5 : Q 90 X07u := w [(92, q177), (103, [e45]), (111, [X7]), (118, [e42]), (124, [e43]), (126, [e44]), (145, [e40]), (146, [e41]), (147, [e46])] ⟨Xmo, ⟨m45, oo⟩, ⟨Xc, oo⟩, ⟨m42, oo⟩, ⟨m43, oo⟩, ⟨m44, oo⟩, ⟨m40, oo⟩, ⟨m41, oo⟩, ⟨m46, oo⟩, oo⟩
theorem X02x : Q 25 Xox := w [(93, [Xo, X8, X6, Xm]), (111, [X9, X7, Xj, Xu]), (108, [X1w]), (206, [X16])] ⟨⟨Xr, Xd, Xb, Xn, oo⟩, ⟨Xe, Xc, Xl, Xw, oo⟩, ⟨X1x, oo⟩, ⟨X17, oo⟩, oo⟩
theorem X0o3 : Q 94 X07s := w [(93, [X6]), (103, [e45]), (118, [e42]), (124, [e43]), (126, [e44]), (145, [e40]), (146, [e41]), (147, [e46]), (218, [Xpf])] ⟨⟨Xb, oo⟩, ⟨m45, oo⟩, ⟨m42, oo⟩, ⟨m43, oo⟩, ⟨m44, oo⟩, ⟨m40, oo⟩, ⟨m41, oo⟩, ⟨m46, oo⟩, ⟨X03f, oo⟩, oo⟩
theorem X02w : Q 25 Xow := w [(93, [Xo, X8, X6, Xm]), (111, [X9, X7, Xj, Xu]), (108, [X1w]), (206, [X16])] ⟨⟨Xr, Xd, Xb, Xn, oo⟩, ⟨Xe, Xc, Xl, Xw, oo⟩, ⟨X1x, oo⟩, ⟨X17, oo⟩, oo⟩
theorem X0o1 : Q 90 X07q := w [(92, q179), (103, [e45]), (111, [X9]), (118, [e42]), (124, [e43]), (126, [e44]), (145, [e40]), (146, [e41]), (147, [e46])] ⟨Xmn, ⟨m45, oo⟩, ⟨Xe, oo⟩, ⟨m42, oo⟩, ⟨m43, oo⟩, ⟨m44, oo⟩, ⟨m40, oo⟩, ⟨m41, oo⟩, ⟨m46, oo⟩, oo⟩
theorem X02v : Q 25 Xov := w [(93, [Xo, X8, X6, Xm]), (111, [X9, X7, Xj, Xu]), (108, [X1w]), (206, [X16])] ⟨⟨Xr, Xd, Xb, Xn, oo⟩, ⟨Xe, Xc, Xl, Xw, oo⟩, ⟨X1x, oo⟩, ⟨X17, oo⟩, oo⟩
theorem X0nz : Q 94 X07o := w [(93, [X8]), (103, [e45]), (118, [e42]), (124, [e43]), (126, [e44]), (145, [e40]), (146, [e41]), (147, [e46]), (206, [X16])] ⟨⟨Xd, oo⟩, ⟨m45, oo⟩, ⟨m42, oo⟩, ⟨m43, oo⟩, ⟨m44, oo⟩, ⟨m40, oo⟩, ⟨m41, oo⟩, ⟨m46, oo⟩, ⟨X17, oo⟩, oo⟩
theorem X02u : Q 25 Xou := w [(93, [Xo, X8, X6, Xm]), (111, [X9, X7, Xj, Xu]), (108, [X1w]), (206, [X16])] ⟨⟨Xr, Xd, Xb, Xn, oo⟩, ⟨Xe, Xc, Xl, Xw, oo⟩, ⟨X1x, oo⟩, ⟨X17, oo⟩, oo⟩
theorem X0nx : Q 90 X07m := w [(92, q181), (103, [e45]), (111, [X7]), (118, [e42]), (124, [e43]), (126, [e44]), (145, [e40]), (146, [e41]), (147, [e46])] ⟨Xmm, ⟨m45, oo⟩, ⟨Xc, oo⟩, ⟨m42, oo⟩, ⟨m43, oo⟩, ⟨m44, oo⟩, ⟨m40, oo⟩, ⟨m41, oo⟩, ⟨m46, oo⟩, oo⟩
theorem X02t : Q 25 Xot := w [(93, [Xo, X8, X6, Xm]), (111, [X9, X7, Xj, Xu]), (108, [X1w]), (206, [X16])] ⟨⟨Xr, Xd, Xb, Xn, oo⟩, ⟨Xe, Xc, Xl, Xw, oo⟩, ⟨X1x, oo⟩, ⟨X17, oo⟩, oo⟩
theorem X0nu : Q 94 X07j := w [(93, [X6]), (103, [e45]), (118, [e42]), (124, [e43]), (126, [e44]), (145, [e40]), (146, [e41]), (147, [e46]), (218, [X07k])] ⟨⟨Xb, oo⟩, ⟨m45, oo⟩, ⟨m42, oo⟩, ⟨m43, oo⟩, ⟨m44, oo⟩, ⟨m40, oo⟩, ⟨m41, oo⟩, ⟨m46, oo⟩, ⟨X0nv, oo⟩, oo⟩
theorem X02s : Q 25 Xos := w [(93, [Xo, X8, X6, Xm]), (111, [X9, X7, Xj, Xu]), (108, [X1w]), (206, [X16])] ⟨⟨Xr, Xd, Xb, Xn, oo⟩, ⟨Xe, Xc, Xl, Xw, oo⟩, ⟨X1x, oo⟩, ⟨X17, oo⟩, oo⟩
end Go.Av.Tryz
