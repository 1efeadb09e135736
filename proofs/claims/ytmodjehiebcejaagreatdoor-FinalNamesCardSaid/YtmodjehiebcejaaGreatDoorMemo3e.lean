/- A closed run: some of its parts. -/
import Derived.Test.YtmodjehiebcejaaGreatDoorMemo2f
import Derived.Test.YtmodjehiebcejaaGreatDoorMemo2g
set_option linter.all false

set_option maxRecDepth 1000000
namespace Go.Av.Tryz
open Go.Av Go.Av.X Go.Proofs Go.D Go.Av.Tryz
set_option maxHeartbeats 4000000
theorem X0uq : Q 87 X0ef := w [(92, q76), (93, [X1e, X1d, X0x, X0v, X0m, X19]), (111, [X0z, X0y, X0w, X0u, X0q, X1c]), (25, [Xrq])] ⟨qk76, ⟨X1h, X1g, X13, X11, X0n, X1b, oo⟩, ⟨X15, X14, X12, X10, X0r, X1f, oo⟩, ⟨X05q, oo⟩, oo⟩
theorem X0uo : Q 87 X0ed := w [(92, q77), (93, [X1e, X1d, X0x, X0v, X0m, X19]), (111, [X0z, X0y, X0w, X0u, X0q, X1c]), (25, [Xrp])] ⟨qk77, ⟨X1h, X1g, X13, X11, X0n, X1b, oo⟩, ⟨X15, X14, X12, X10, X0r, X1f, oo⟩, ⟨X05p, oo⟩, oo⟩
theorem X0um : Q 87 X0eb := w [(92, q78), (93, [X1e, X1d, X0x, X0v, X0m, X19]), (111, [X0z, X0y, X0w, X0u, X0q, X1c]), (25, [Xro])] ⟨qk78, ⟨X1h, X1g, X13, X11, X0n, X1b, oo⟩, ⟨X15, X14, X12, X10, X0r, X1f, oo⟩, ⟨X05o, oo⟩, oo⟩
theorem X0uk : Q 87 X0e9 := w [(92, q79), (93, [X1e, X1d, X0x, X0v, X0m, X19]), (111, [X0z, X0y, X0w, X0u, X0q, X1c]), (25, [Xrn])] ⟨qk79, ⟨X1h, X1g, X13, X11, X0n, X1b, oo⟩, ⟨X15, X14, X12, X10, X0r, X1f, oo⟩, ⟨X05n, oo⟩, oo⟩
theorem X0uh : Q 40 X0e6 := w [(92, q79), (25, [Xrn]), (93, [X0m]), (94, [X0e7]), (103, [e45]), (111, [X0q]), (124, [e43]), (126, [e44]), (145, [e40])] ⟨qk79, ⟨X05n, oo⟩, ⟨X0n, oo⟩, ⟨X0ui, oo⟩, ⟨m45, oo⟩, ⟨X0r, oo⟩, ⟨m43, oo⟩, ⟨m44, oo⟩, ⟨m40, oo⟩, oo⟩
theorem X0ug : Q 87 X0e5 := w [(92, q80), (93, [X1e, X1d, X0x, X0v, X0m, X19]), (111, [X0z, X0y, X0w, X0u, X0q, X1c]), (25, [Xrm])] ⟨qk80, ⟨X1h, X1g, X13, X11, X0n, X1b, oo⟩, ⟨X15, X14, X12, X10, X0r, X1f, oo⟩, ⟨X05m, oo⟩, oo⟩
theorem X0ue : Q 87 X0e3 := w [(92, q81), (93, [X1e, X1d, X0x, X0v, X0m, X19]), (111, [X0z, X0y, X0w, X0u, X0q, X1c]), (25, [Xrl])] ⟨qk81, ⟨X1h, X1g, X13, X11, X0n, X1b, oo⟩, ⟨X15, X14, X12, X10, X0r, X1f, oo⟩, ⟨X05l, oo⟩, oo⟩
theorem X0uc : Q 87 X0e1 := w [(92, q82), (93, [X1e, X1d, X0x, X0v, X0m, X19]), (111, [X0z, X0y, X0w, X0u, X0q, X1c]), (25, [Xrk])] ⟨qk82, ⟨X1h, X1g, X13, X11, X0n, X1b, oo⟩, ⟨X15, X14, X12, X10, X0r, X1f, oo⟩, ⟨X05k, oo⟩, oo⟩
theorem X0ua : Q 87 X0dz := w [(92, q83), (93, [X1e, X1d, X0x, X0v, X0m, X19]), (111, [X0z, X0y, X0w, X0u, X0q, X1c]), (25, [Xrj])] ⟨qk83, ⟨X1h, X1g, X13, X11, X0n, X1b, oo⟩, ⟨X15, X14, X12, X10, X0r, X1f, oo⟩, ⟨X05j, oo⟩, oo⟩
theorem X0u8 : Q 87 X0dx := w [(92, q84), (93, [X1e, X1d, X0x, X0v, X0m, X19]), (111, [X0z, X0y, X0w, X0u, X0q, X1c]), (25, [Xri])] ⟨qk84, ⟨X1h, X1g, X13, X11, X0n, X1b, oo⟩, ⟨X15, X14, X12, X10, X0r, X1f, oo⟩, ⟨X05i, oo⟩, oo⟩
theorem X0u5 : Q 40 X0du := w [(92, q84), (25, [Xri]), (93, [X0m]), (94, [X0dv]), (103, [e45]), (111, [X0q]), (124, [e43]), (126, [e44]), (145, [e40])] ⟨qk84, ⟨X05i, oo⟩, ⟨X0n, oo⟩, ⟨X0u6, oo⟩, ⟨m45, oo⟩, ⟨X0r, oo⟩, ⟨m43, oo⟩, ⟨m44, oo⟩, ⟨m40, oo⟩, oo⟩
theorem X0u4 : Q 87 X0dt := w [(92, q85), (93, [X1e, X1d, X0x, X0v, X0m, X19]), (111, [X0z, X0y, X0w, X0u, X0q, X1c]), (25, [Xrh])] ⟨qk85, ⟨X1h, X1g, X13, X11, X0n, X1b, oo⟩, ⟨X15, X14, X12, X10, X0r, X1f, oo⟩, ⟨X05h, oo⟩, oo⟩
theorem X0u2 : Q 87 X0dr := w [(92, q86), (93, [X1e, X1d, X0x, X0v, X0m, X19]), (111, [X0z, X0y, X0w, X0u, X0q, X1c]), (25, [Xrg])] ⟨qk86, ⟨X1h, X1g, X13, X11, X0n, X1b, oo⟩, ⟨X15, X14, X12, X10, X0r, X1f, oo⟩, ⟨X05g, oo⟩, oo⟩
theorem X0u0 : Q 87 X0dp := w [(92, q87), (93, [X1e, X1d, X0x, X0v, X0m, X19]), (111, [X0z, X0y, X0w, X0u, X0q, X1c]), (25, [Xrf])] ⟨qk87, ⟨X1h, X1g, X13, X11, X0n, X1b, oo⟩, ⟨X15, X14, X12, X10, X0r, X1f, oo⟩, ⟨X05f, oo⟩, oo⟩
theorem X0tx : Q 40 X0dm := w [(92, q87), (25, [Xrf]), (93, [X0m]), (94, [X0dn]), (103, [e45]), (111, [X0q]), (124, [e43]), (126, [e44]), (145, [e40])] ⟨qk87, ⟨X05f, oo⟩, ⟨X0n, oo⟩, ⟨X0ty, oo⟩, ⟨m45, oo⟩, ⟨X0r, oo⟩, ⟨m43, oo⟩, ⟨m44, oo⟩, ⟨m40, oo⟩, oo⟩
theorem X0tw : Q 87 X0dl := w [(92, q88), (93, [X1e, X1d, X0x, X0v, X0m, X19]), (111, [X0z, X0y, X0w, X0u, X0q, X1c]), (25, [Xre])] ⟨qk88, ⟨X1h, X1g, X13, X11, X0n, X1b, oo⟩, ⟨X15, X14, X12, X10, X0r, X1f, oo⟩, ⟨X05e, oo⟩, oo⟩
theorem X0tt : Q 40 X0di := w [(92, q88), (25, [Xre]), (93, [X0m]), (94, [X0dj]), (103, [e45]), (111, [X0q]), (124, [e43]), (126, [e44]), (145, [e40])] ⟨qk88, ⟨X05e, oo⟩, ⟨X0n, oo⟩, ⟨X0tu, oo⟩, ⟨m45, oo⟩, ⟨X0r, oo⟩, ⟨m43, oo⟩, ⟨m44, oo⟩, ⟨m40, oo⟩, oo⟩
theorem X0ts : Q 87 X0dh := w [(92, q89), (93, [X1e, X1d, X0x, X0v, X0m, X19]), (111, [X0z, X0y, X0w, X0u, X0q, X1c]), (25, [Xrd])] ⟨qk89, ⟨X1h, X1g, X13, X11, X0n, X1b, oo⟩, ⟨X15, X14, X12, X10, X0r, X1f, oo⟩, ⟨X05d, oo⟩, oo⟩
theorem X0tq : Q 87 X0df := w [(92, q90), (93, [X1e, X1d, X0x, X0v, X0m, X19]), (111, [X0z, X0y, X0w, X0u, X0q, X1c]), (25, [Xrc])] ⟨qk90, ⟨X1h, X1g, X13, X11, X0n, X1b, oo⟩, ⟨X15, X14, X12, X10, X0r, X1f, oo⟩, ⟨X05c, oo⟩, oo⟩
theorem X0to : Q 87 X0dd := w [(92, q91), (93, [X1e, X1d, X0x, X0v, X0m, X19]), (111, [X0z, X0y, X0w, X0u, X0q, X1c]), (25, [Xrb])] ⟨qk91, ⟨X1h, X1g, X13, X11, X0n, X1b, oo⟩, ⟨X15, X14, X12, X10, X0r, X1f, oo⟩, ⟨X05b, oo⟩, oo⟩
theorem X0tj : Q 34 X0d8 := w [(199, [X0da, X0d9]), (75, [X0db])] ⟨⟨X0tl, X0tk, oo⟩, ⟨X0tm, oo⟩, oo⟩
theorem X0tf : Q 36 X0d4 := w [(92, q92), (25, [X0d6]), (90, [X0d5]), (93, [X0d]), (103, [e45]), (111, [Xp]), (118, [e42]), (124, [e43]), (126, [e44]), (145, [e40]), (146, [e41]), (147, [e46])] ⟨qk92, ⟨X0th, oo⟩, ⟨X0tg, oo⟩, ⟨X0f, oo⟩, ⟨m45, oo⟩, ⟨Xs, oo⟩, ⟨m42, oo⟩, ⟨m43, oo⟩, ⟨m44, oo⟩, ⟨m40, oo⟩, ⟨m41, oo⟩, ⟨m46, oo⟩, oo⟩
theorem X0te : Q 36 X0d3 := w [(25, [Xja]), (103, [e45]), (118, [e42]), (124, [e43]), (126, [e44]), (145, [e40]), (146, [e41]), (147, [e46])] ⟨⟨Xnx, oo⟩, ⟨m45, oo⟩, ⟨m42, oo⟩, ⟨m43, oo⟩, ⟨m44, oo⟩, ⟨m40, oo⟩, ⟨m41, oo⟩, ⟨m46, oo⟩, oo⟩
theorem X0td : Q 87 X0d2 := w [(92, q93), (93, [X0d, Xv, Xz, Xy, X07, X06]), (111, [Xp, X00, Xg, X08, X0c, X0g]), (25, [Xja])] ⟨qk93, ⟨X0f, Xx, X03, X02, X0a, X09, oo⟩, ⟨Xs, X04, Xi, X0b, X0e, X0h, oo⟩, ⟨Xnx, oo⟩, oo⟩
theorem X0tb : Q 87 X0d0 := w [(92, q94), (93, [X0d, Xv, Xz, Xy, X07, X06]), (111, [Xp, X00, Xg, X08, X0c, X0g]), (25, [Xra])] ⟨qk94, ⟨X0f, Xx, X03, X02, X0a, X09, oo⟩, ⟨Xs, X04, Xi, X0b, X0e, X0h, oo⟩, ⟨X05a, oo⟩, oo⟩
theorem X0t9 : Q 94 X0cy := w [(93, [Xv]), (103, [e45]), (118, [e42]), (124, [e43]), (126, [e44]), (145, [e40]), (146, [e41]), (147, [e46]), (216, [X0cz])] ⟨⟨Xx, oo⟩, ⟨m45, oo⟩, ⟨m42, oo⟩, ⟨m43, oo⟩, ⟨m44, oo⟩, ⟨m40, oo⟩, ⟨m41, oo⟩, ⟨m46, oo⟩, ⟨X0ta, oo⟩, oo⟩
theorem X0t8 : Q 87 X0cx := w [(92, q95), (93, [X0d, Xv, Xz, Xy, X07, X06]), (111, [Xp, X00, Xg, X08, X0c, X0g]), (25, [Xr9])] ⟨qk95, ⟨X0f, Xx, X03, X02, X0a, X09, oo⟩, ⟨Xs, X04, Xi, X0b, X0e, X0h, oo⟩, ⟨X059, oo⟩, oo⟩
theorem X0t6 : Q 87 X0cv := w [(92, q96), (93, [X0d, Xv, Xz, Xy, X07, X06]), (111, [Xp, X00, Xg, X08, X0c, X0g]), (25, [Xr8])] ⟨qk96, ⟨X0f, Xx, X03, X02, X0a, X09, oo⟩, ⟨Xs, X04, Xi, X0b, X0e, X0h, oo⟩, ⟨X058, oo⟩, oo⟩
theorem X0t4 : Q 87 X0ct := w [(92, q97), (93, [X0d, Xv, Xz, Xy, X07, X06]), (111, [Xp, X00, Xg, X08, X0c, X0g]), (25, [Xr7])] ⟨qk97, ⟨X0f, Xx, X03, X02, X0a, X09, oo⟩, ⟨Xs, X04, Xi, X0b, X0e, X0h, oo⟩, ⟨X057, oo⟩, oo⟩
theorem X0t2 : Q 87 X0cr := w [(92, q98), (93, [X0d, Xv, Xz, Xy, X07, X06]), (111, [Xp, X00, Xg, X08, X0c, X0g]), (25, [Xr6])] ⟨qk98, ⟨X0f, Xx, X03, X02, X0a, X09, oo⟩, ⟨Xs, X04, Xi, X0b, X0e, X0h, oo⟩, ⟨X056, oo⟩, oo⟩
theorem X0t0 : Q 87 X0cp := w [(92, q99), (93, [X0d, Xv, Xz, Xy, X07, X06]), (111, [Xp, X00, Xg, X08, X0c, X0g]), (25, [Xr5])] ⟨qk99, ⟨X0f, Xx, X03, X02, X0a, X09, oo⟩, ⟨Xs, X04, Xi, X0b, X0e, X0h, oo⟩, ⟨X055, oo⟩, oo⟩
theorem X0sy : Q 94 X0cn := w [(93, [Xv]), (103, [e45]), (118, [e42]), (124, [e43]), (126, [e44]), (145, [e40]), (146, [e41]), (147, [e46]), (216, [X0co])] ⟨⟨Xx, oo⟩, ⟨m45, oo⟩, ⟨m42, oo⟩, ⟨m43, oo⟩, ⟨m44, oo⟩, ⟨m40, oo⟩, ⟨m41, oo⟩, ⟨m46, oo⟩, ⟨X0sz, oo⟩, oo⟩
theorem X0sx : Q 87 X0cm := w [(92, q100), (93, [X0d, Xv, Xz, Xy, X07, X06]), (111, [Xp, X00, Xg, X08, X0c, X0g]), (25, [Xr4])] ⟨Xnj, ⟨X0f, Xx, X03, X02, X0a, X09, oo⟩, ⟨Xs, X04, Xi, X0b, X0e, X0h, oo⟩, ⟨X054, oo⟩, oo⟩
theorem X0sv : Q 87 X0ck := w [(92, q101), (93, [X0d, Xv, Xz, Xy, X07, X06]), (111, [Xp, X00, Xg, X08, X0c, X0g]), (25, [Xr3])] ⟨X029, ⟨X0f, Xx, X03, X02, X0a, X09, oo⟩, ⟨Xs, X04, Xi, X0b, X0e, X0h, oo⟩, ⟨X053, oo⟩, oo⟩
theorem X0st : Q 87 X0ci := w [(92, q102), (93, [X0d, Xv, Xz, Xy, X07, X06]), (111, [Xp, X00, Xg, X08, X0c, X0g]), (25, [Xr2])] ⟨X028, ⟨X0f, Xx, X03, X02, X0a, X09, oo⟩, ⟨Xs, X04, Xi, X0b, X0e, X0h, oo⟩, ⟨X052, oo⟩, oo⟩
theorem X0sr : Q 87 X0cg := w [(92, q103), (93, [X0d, Xv, Xz, Xy, X07, X06]), (111, [Xp, X00, Xg, X08, X0c, X0g]), (25, [Xr1])] ⟨Xni, ⟨X0f, Xx, X03, X02, X0a, X09, oo⟩, ⟨Xs, X04, Xi, X0b, X0e, X0h, oo⟩, ⟨X051, oo⟩, oo⟩
theorem X0sp : Q 87 X0ce := w [(92, q104), (93, [X0d, Xv, Xz, Xy, X07, X06]), (111, [Xp, X00, Xg, X08, X0c, X0g]), (25, [Xr0])] ⟨X027, ⟨X0f, Xx, X03, X02, X0a, X09, oo⟩, ⟨Xs, X04, Xi, X0b, X0e, X0h, oo⟩, ⟨X050, oo⟩, oo⟩
theorem X0sn : Q 87 X0cc := w [(92, q105), (93, [X0d, Xv, Xz, Xy, X07, X06]), (111, [Xp, X00, Xg, X08, X0c, X0g]), (25, [Xqz])] ⟨Xnh, ⟨X0f, Xx, X03, X02, X0a, X09, oo⟩, ⟨Xs, X04, Xi, X0b, X0e, X0h, oo⟩, ⟨X04z, oo⟩, oo⟩
end Go.Av.Tryz
