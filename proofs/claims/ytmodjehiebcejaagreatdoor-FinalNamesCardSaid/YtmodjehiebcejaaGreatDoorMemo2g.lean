/- A closed run: some of its parts. -/
import Derived.Test.YtmodjehiebcejaaGreatDoorMemo1a
import Derived.Test.YtmodjehiebcejaaGreatDoorMemo1b
import Derived.Test.YtmodjehiebcejaaGreatDoorMemoQ
set_option linter.all false

set_option maxRecDepth 1000000
namespace Go.Av.Tryz
open Go.Av Go.Av.X Go.Proofs Go.D Go.Av.Tryz
set_option maxHeartbeats 4000000
theorem X0tr : Q 90 X0dg := w [(92, q89), (103, [e45]), (111, [X0q]), (118, [e42]), (124, [e43]), (126, [e44]), (145, [e40]), (146, [e41]), (147, [e46])] ⟨qk89, ⟨m45, oo⟩, ⟨X0r, oo⟩, ⟨m42, oo⟩, ⟨m43, oo⟩, ⟨m44, oo⟩, ⟨m40, oo⟩, ⟨m41, oo⟩, ⟨m46, oo⟩, oo⟩
theorem X05c : Q 25 Xrc := w [(93, [X1e, X1d, X0x, X0v, X0m, X19]), (111, [X0z, X0y, X0w, X0u, X0q, X1c]), (107, [X2q]), (108, [X2g]), (206, [X1z])] ⟨⟨X1h, X1g, X13, X11, X0n, X1b, oo⟩, ⟨X15, X14, X12, X10, X0r, X1f, oo⟩, ⟨X2r, oo⟩, ⟨X2m, oo⟩, ⟨X21, oo⟩, oo⟩
theorem X0tp : Q 94 X0de := w [(93, [X19]), (103, [e45]), (118, [e42]), (124, [e43]), (126, [e44]), (145, [e40]), (146, [e41]), (147, [e46])] ⟨⟨X1b, oo⟩, ⟨m45, oo⟩, ⟨m42, oo⟩, ⟨m43, oo⟩, ⟨m44, oo⟩, ⟨m40, oo⟩, ⟨m41, oo⟩, ⟨m46, oo⟩, oo⟩
theorem X05b : Q 25 Xrb := w [(93, [X1e, X1d, X0x, X0v, X0m, X19]), (111, [X0z, X0y, X0w, X0u, X0q, X1c]), (107, [X2q]), (108, [X2g]), (206, [X1z])] ⟨⟨X1h, X1g, X13, X11, X0n, X1b, oo⟩, ⟨X15, X14, X12, X10, X0r, X1f, oo⟩, ⟨X2r, oo⟩, ⟨X2m, oo⟩, ⟨X21, oo⟩, oo⟩
theorem X0tm : Q 75 X0db := w [(198, [e1, Xje, Xjd, Xjc, Xjb])] ⟨⟨m1, Xo1, Xo0, Xnz, Xny, oo⟩, oo⟩
theorem X0tl : Q 199 X0da := w [(198, [e1, Xje, Xjd, Xjc, Xjb])] ⟨⟨m1, Xo1, Xo0, Xnz, Xny, oo⟩, oo⟩
theorem X0tk : Q 199 X0d9 := w [(198, [e1, Xje, Xjd, Xjc, Xjb])] ⟨⟨m1, Xo1, Xo0, Xnz, Xny, oo⟩, oo⟩
theorem X0ti : Q 21 X0d7 := w [(35, [X1l])] ⟨⟨X1p, oo⟩, oo⟩
theorem X0th : Q 25 X0d6 := w [(93, [X0d, Xv, Xz, Xy, X07, X06]), (111, [Xp, X00, Xg, X08, X0c, X0g]), (35, [X1l]), (107, [X23]), (108, [X1y])] ⟨⟨X0f, Xx, X03, X02, X0a, X09, oo⟩, ⟨Xs, X04, Xi, X0b, X0e, X0h, oo⟩, ⟨X1p, oo⟩, ⟨X25, oo⟩, ⟨X20, oo⟩, oo⟩
theorem Xnx : Q 25 Xja := w [(93, [X0d, Xv, Xz, Xy, X07, X06]), (111, [Xp, X00, Xg, X08, X0c, X0g]), (35, [X1l]), (107, [X23]), (108, [X1y])] ⟨⟨X0f, Xx, X03, X02, X0a, X09, oo⟩, ⟨Xs, X04, Xi, X0b, X0e, X0h, oo⟩, ⟨X1p, oo⟩, ⟨X25, oo⟩, ⟨X20, oo⟩, oo⟩
theorem X0tc : Q 90 X0d1 := w [(92, q93), (103, [e45]), (111, [Xp]), (118, [e42]), (124, [e43]), (126, [e44]), (145, [e40]), (146, [e41]), (147, [e46])] ⟨qk93, ⟨m45, oo⟩, ⟨Xs, oo⟩, ⟨m42, oo⟩, ⟨m43, oo⟩, ⟨m44, oo⟩, ⟨m40, oo⟩, ⟨m41, oo⟩, ⟨m46, oo⟩, oo⟩
theorem X05a : Q 25 Xra := w [(93, [X0d, Xv, Xz, Xy, X07, X06]), (111, [Xp, X00, Xg, X08, X0c, X0g]), (35, [X1l]), (107, [X23]), (108, [X1y])] ⟨⟨X0f, Xx, X03, X02, X0a, X09, oo⟩, ⟨Xs, X04, Xi, X0b, X0e, X0h, oo⟩, ⟨X1p, oo⟩, ⟨X25, oo⟩, ⟨X20, oo⟩, oo⟩
theorem X0ta : Q 216 X0cz := w [(35, [X1l]), (103, [e45]), (118, [e42]), (124, [e43]), (126, [e44]), (145, [e40])] ⟨⟨X1p, oo⟩, ⟨m45, oo⟩, ⟨m42, oo⟩, ⟨m43, oo⟩, ⟨m44, oo⟩, ⟨m40, oo⟩, oo⟩
theorem X059 : Q 25 Xr9 := w [(93, [X0d, Xv, Xz, Xy, X07, X06]), (111, [Xp, X00, Xg, X08, X0c, X0g]), (35, [X1l]), (107, [X23]), (108, [X1y])] ⟨⟨X0f, Xx, X03, X02, X0a, X09, oo⟩, ⟨Xs, X04, Xi, X0b, X0e, X0h, oo⟩, ⟨X1p, oo⟩, ⟨X25, oo⟩, ⟨X20, oo⟩, oo⟩
theorem X058 : Q 25 Xr8 := w [(93, [X0d, Xv, Xz, Xy, X07, X06]), (111, [Xp, X00, Xg, X08, X0c, X0g]), (35, [X1l]), (107, [X23]), (108, [X1y])] ⟨⟨X0f, Xx, X03, X02, X0a, X09, oo⟩, ⟨Xs, X04, Xi, X0b, X0e, X0h, oo⟩, ⟨X1p, oo⟩, ⟨X25, oo⟩, ⟨X20, oo⟩, oo⟩
theorem X0t5 : Q 90 X0cu := w [(92, q96), (103, [e45]), (111, [X00]), (118, [e42]), (124, [e43]), (126, [e44]), (145, [e40]), (146, [e41]), (147, [e46])] ⟨qk96, ⟨m45, oo⟩, ⟨X04, oo⟩, ⟨m42, oo⟩, ⟨m43, oo⟩, ⟨m44, oo⟩, ⟨m40, oo⟩, ⟨m41, oo⟩, ⟨m46, oo⟩, oo⟩
theorem X057 : Q 25 Xr7 := w [(93, [X0d, Xv, Xz, Xy, X07, X06]), (111, [Xp, X00, Xg, X08, X0c, X0g]), (35, [X1l]), (107, [X23]), (108, [X1y])] ⟨⟨X0f, Xx, X03, X02, X0a, X09, oo⟩, ⟨Xs, X04, Xi, X0b, X0e, X0h, oo⟩, ⟨X1p, oo⟩, ⟨X25, oo⟩, ⟨X20, oo⟩, oo⟩
theorem X0t3 : Q 94 X0cs := w [(93, [Xz]), (103, [e45]), (111, [Xg]), (118, [e42]), (124, [e43]), (126, [e44]), (145, [e40]), (146, [e41]), (147, [e46])] ⟨⟨X03, oo⟩, ⟨m45, oo⟩, ⟨Xi, oo⟩, ⟨m42, oo⟩, ⟨m43, oo⟩, ⟨m44, oo⟩, ⟨m40, oo⟩, ⟨m41, oo⟩, ⟨m46, oo⟩, oo⟩
theorem X056 : Q 25 Xr6 := w [(93, [X0d, Xv, Xz, Xy, X07, X06]), (111, [Xp, X00, Xg, X08, X0c, X0g]), (35, [X1l]), (107, [X23]), (108, [X1y])] ⟨⟨X0f, Xx, X03, X02, X0a, X09, oo⟩, ⟨Xs, X04, Xi, X0b, X0e, X0h, oo⟩, ⟨X1p, oo⟩, ⟨X25, oo⟩, ⟨X20, oo⟩, oo⟩
theorem X0t1 : Q 90 X0cq := w [(92, q98), (103, [e45]), (111, [Xp]), (118, [e42]), (124, [e43]), (126, [e44]), (145, [e40]), (146, [e41]), (147, [e46])] ⟨qk98, ⟨m45, oo⟩, ⟨Xs, oo⟩, ⟨m42, oo⟩, ⟨m43, oo⟩, ⟨m44, oo⟩, ⟨m40, oo⟩, ⟨m41, oo⟩, ⟨m46, oo⟩, oo⟩
theorem X055 : Q 25 Xr5 := w [(93, [X0d, Xv, Xz, Xy, X07, X06]), (111, [Xp, X00, Xg, X08, X0c, X0g]), (35, [X1l]), (107, [X23]), (108, [X1y])] ⟨⟨X0f, Xx, X03, X02, X0a, X09, oo⟩, ⟨Xs, X04, Xi, X0b, X0e, X0h, oo⟩, ⟨X1p, oo⟩, ⟨X25, oo⟩, ⟨X20, oo⟩, oo⟩
theorem X0sz : Q 216 X0co := w [(35, [X1l]), (103, [e45]), (118, [e42]), (124, [e43]), (126, [e44]), (145, [e40])] ⟨⟨X1p, oo⟩, ⟨m45, oo⟩, ⟨m42, oo⟩, ⟨m43, oo⟩, ⟨m44, oo⟩, ⟨m40, oo⟩, oo⟩
theorem X054 : Q 25 Xr4 := w [(93, [X0d, Xv, Xz, Xy, X07, X06]), (111, [Xp, X00, Xg, X08, X0c, X0g]), (35, [X1l]), (107, [X23]), (108, [X1y])] ⟨⟨X0f, Xx, X03, X02, X0a, X09, oo⟩, ⟨Xs, X04, Xi, X0b, X0e, X0h, oo⟩, ⟨X1p, oo⟩, ⟨X25, oo⟩, ⟨X20, oo⟩, oo⟩
theorem X0sw : Q 90 X0cl := w [(92, q100), (103, [e45]), (111, [Xg]), (118, [e42]), (124, [e43]), (126, [e44]), (145, [e40]), (146, [e41]), (147, [e46])] ⟨Xnj, ⟨m45, oo⟩, ⟨Xi, oo⟩, ⟨m42, oo⟩, ⟨m43, oo⟩, ⟨m44, oo⟩, ⟨m40, oo⟩, ⟨m41, oo⟩, ⟨m46, oo⟩, oo⟩
theorem X053 : Q 25 Xr3 := w [(93, [X0d, Xv, Xz, Xy, X07, X06]), (111, [Xp, X00, Xg, X08, X0c, X0g]), (35, [X1l]), (107, [X23]), (108, [X1y])] ⟨⟨X0f, Xx, X03, X02, X0a, X09, oo⟩, ⟨Xs, X04, Xi, X0b, X0e, X0h, oo⟩, ⟨X1p, oo⟩, ⟨X25, oo⟩, ⟨X20, oo⟩, oo⟩
theorem X0su : Q 94 X0cj := w [(35, [X1l]), (93, [Xy]), (103, [e45]), (118, [e42]), (124, [e43]), (126, [e44]), (145, [e40]), (146, [e41]), (147, [e46])] ⟨⟨X1p, oo⟩, ⟨X02, oo⟩, ⟨m45, oo⟩, ⟨m42, oo⟩, ⟨m43, oo⟩, ⟨m44, oo⟩, ⟨m40, oo⟩, ⟨m41, oo⟩, ⟨m46, oo⟩, oo⟩
theorem X052 : Q 25 Xr2 := w [(93, [X0d, Xv, Xz, Xy, X07, X06]), (111, [Xp, X00, Xg, X08, X0c, X0g]), (35, [X1l]), (107, [X23]), (108, [X1y])] ⟨⟨X0f, Xx, X03, X02, X0a, X09, oo⟩, ⟨Xs, X04, Xi, X0b, X0e, X0h, oo⟩, ⟨X1p, oo⟩, ⟨X25, oo⟩, ⟨X20, oo⟩, oo⟩
theorem X051 : Q 25 Xr1 := w [(93, [X0d, Xv, Xz, Xy, X07, X06]), (111, [Xp, X00, Xg, X08, X0c, X0g]), (35, [X1l]), (107, [X23]), (108, [X1y])] ⟨⟨X0f, Xx, X03, X02, X0a, X09, oo⟩, ⟨Xs, X04, Xi, X0b, X0e, X0h, oo⟩, ⟨X1p, oo⟩, ⟨X25, oo⟩, ⟨X20, oo⟩, oo⟩
theorem X0sq : Q 90 X0cf := w [(92, q103), (103, [e45]), (111, [X00]), (118, [e42]), (124, [e43]), (126, [e44]), (145, [e40]), (146, [e41]), (147, [e46])] ⟨Xni, ⟨m45, oo⟩, ⟨X04, oo⟩, ⟨m42, oo⟩, ⟨m43, oo⟩, ⟨m44, oo⟩, ⟨m40, oo⟩, ⟨m41, oo⟩, ⟨m46, oo⟩, oo⟩
theorem X050 : Q 25 Xr0 := w [(93, [X0d, Xv, Xz, Xy, X07, X06]), (111, [Xp, X00, Xg, X08, X0c, X0g]), (35, [X1l]), (107, [X23]), (108, [X1y])] ⟨⟨X0f, Xx, X03, X02, X0a, X09, oo⟩, ⟨Xs, X04, Xi, X0b, X0e, X0h, oo⟩, ⟨X1p, oo⟩, ⟨X25, oo⟩, ⟨X20, oo⟩, oo⟩
theorem X0so : Q 94 X0cd := w [(93, [Xz]), (103, [e45]), (111, [Xg]), (118, [e42]), (124, [e43]), (126, [e44]), (145, [e40]), (146, [e41]), (147, [e46])] ⟨⟨X03, oo⟩, ⟨m45, oo⟩, ⟨Xi, oo⟩, ⟨m42, oo⟩, ⟨m43, oo⟩, ⟨m44, oo⟩, ⟨m40, oo⟩, ⟨m41, oo⟩, ⟨m46, oo⟩, oo⟩
theorem X04z : Q 25 Xqz := w [(93, [X0d, Xv, Xz, Xy, X07, X06]), (111, [Xp, X00, Xg, X08, X0c, X0g]), (35, [X1l]), (107, [X23]), (108, [X1y])] ⟨⟨X0f, Xx, X03, X02, X0a, X09, oo⟩, ⟨Xs, X04, Xi, X0b, X0e, X0h, oo⟩, ⟨X1p, oo⟩, ⟨X25, oo⟩, ⟨X20, oo⟩, oo⟩
theorem X0sm : Q 90 X0cb := w [(92, q105), (103, [e45]), (111, [Xp]), (118, [e42]), (124, [e43]), (126, [e44]), (145, [e40]), (146, [e41]), (147, [e46])] ⟨Xnh, ⟨m45, oo⟩, ⟨Xs, oo⟩, ⟨m42, oo⟩, ⟨m43, oo⟩, ⟨m44, oo⟩, ⟨m40, oo⟩, ⟨m41, oo⟩, ⟨m46, oo⟩, oo⟩
theorem X04y : Q 25 Xqy := w [(93, [X0d, Xv, Xz, Xy, X07, X06]), (111, [Xp, X00, Xg, X08, X0c, X0g]), (35, [X1l]), (107, [X23]), (108, [X1y])] ⟨⟨X0f, Xx, X03, X02, X0a, X09, oo⟩, ⟨Xs, X04, Xi, X0b, X0e, X0h, oo⟩, ⟨X1p, oo⟩, ⟨X25, oo⟩, ⟨X20, oo⟩, oo⟩
theorem X0sk : Q 216 X0c9 := w [(35, [X1l]), (103, [e45]), (118, [e42]), (124, [e43]), (126, [e44]), (145, [e40])] ⟨⟨X1p, oo⟩, ⟨m45, oo⟩, ⟨m42, oo⟩, ⟨m43, oo⟩, ⟨m44, oo⟩, ⟨m40, oo⟩, oo⟩
theorem X04x : Q 25 Xqx := w [(93, [X0d, Xv, Xz, Xy, X07, X06]), (111, [Xp, X00, Xg, X08, X0c, X0g]), (35, [X1l]), (107, [X23]), (108, [X1y])] ⟨⟨X0f, Xx, X03, X02, X0a, X09, oo⟩, ⟨Xs, X04, Xi, X0b, X0e, X0h, oo⟩, ⟨X1p, oo⟩, ⟨X25, oo⟩, ⟨X20, oo⟩, oo⟩
theorem X0sh : Q 90 X0c6 := w [(92, q107), (103, [e45]), (111, [Xg]), (118, [e42]), (124, [e43]), (126, [e44]), (145, [e40]), (146, [e41]), (147, [e46])] ⟨Xng, ⟨m45, oo⟩, ⟨Xi, oo⟩, ⟨m42, oo⟩, ⟨m43, oo⟩, ⟨m44, oo⟩, ⟨m40, oo⟩, ⟨m41, oo⟩, ⟨m46, oo⟩, oo⟩
theorem X04w : Q 25 Xqw := w [(93, [X0d, Xv, Xz, Xy, X07, X06]), (111, [Xp, X00, Xg, X08, X0c, X0g]), (35, [X1l]), (107, [X23]), (108, [X1y])] ⟨⟨X0f, Xx, X03, X02, X0a, X09, oo⟩, ⟨Xs, X04, Xi, X0b, X0e, X0h, oo⟩, ⟨X1p, oo⟩, ⟨X25, oo⟩, ⟨X20, oo⟩, oo⟩
theorem X0sf : Q 218 X0c4 := w [(35, [X1l]), (103, [e45]), (124, [e43]), (126, [e44]), (145, [e40])] ⟨⟨X1p, oo⟩, ⟨m45, oo⟩, ⟨m43, oo⟩, ⟨m44, oo⟩, ⟨m40, oo⟩, oo⟩
theorem X04v : Q 25 Xqv := w [(93, [X0d, Xv, Xz, Xy, X07, X06]), (111, [Xp, X00, Xg, X08, X0c, X0g]), (35, [X1l]), (107, [X23]), (108, [X1y])] ⟨⟨X0f, Xx, X03, X02, X0a, X09, oo⟩, ⟨Xs, X04, Xi, X0b, X0e, X0h, oo⟩, ⟨X1p, oo⟩, ⟨X25, oo⟩, ⟨X20, oo⟩, oo⟩
theorem X04u : Q 25 Xqu := w [(93, [X0d, Xv, Xz, Xy, X07, X06]), (111, [Xp, X00, Xg, X08, X0c, X0g]), (35, [X1l]), (107, [X23]), (108, [X1y])] ⟨⟨X0f, Xx, X03, X02, X0a, X09, oo⟩, ⟨Xs, X04, Xi, X0b, X0e, X0h, oo⟩, ⟨X1p, oo⟩, ⟨X25, oo⟩, ⟨X20, oo⟩, oo⟩
end Go.Av.Tryz
