/- A closed run: some of its parts. -/
import Derived.Test.YtmodjehiebcejaaGreatDoorMemo5a
set_option linter.all false

set_option maxRecDepth 1000000
namespace Go.Av.Tryz
open Go.Av Go.Av.X Go.Proofs Go.D Go.Av.Tryz
set_option maxHeartbeats 4000000
theorem X0nr : Q 4 X0yx := w [(36, [Xs7, X0d4, X0ab, X0aa, X0a9, X09h, Xpq, Xp7, e47]), (20, [X0dc, X0ag, X09i, X08f, X07h, X0fo]), (21, [X0fk, X0d7, X0ac, X09g, X08e, e14]), (25, [Xrb, Xq4, Xp8, Xos, Xsb]), (108, [e16, X2g, X1y, X1w]), (206, [e10, X1z, Xgs, X16]), (34, [X0fl, X0d8, X0ad, e9]), (35, [X1l]), (44, [e11]), (87, [Xpr]), (103, [e45]), (104, [e13]), (118, [e42]), (124, [e43]), (126, [e44]), (145, [e40]), (146, [e41]), (147, [e46])] ⟨⟨X067, X0tf, X0qm, X0ql, X0qk, X0ps, X03q, X037, m47, oo⟩, ⟨X0tn, X0qr, X0pt, X0oq, X0ns, X0vz, oo⟩, ⟨X0vv, X0ti, X0qn, X0pr, X0op, m14, oo⟩, ⟨X05b, X044, X038, X02s, X06b, oo⟩, ⟨m16, X2m, X20, X1x, oo⟩, ⟨m10, X21, Xin, X17, oo⟩, ⟨X0vw, X0tj, X0qo, m9, oo⟩, ⟨X1p, oo⟩, ⟨m11, oo⟩, ⟨X03r, oo⟩, ⟨m45, oo⟩, ⟨m13, oo⟩, ⟨m42, oo⟩, ⟨m43, oo⟩, ⟨m44, oo⟩, ⟨m40, oo⟩, ⟨m41, oo⟩, ⟨m46, oo⟩, oo⟩
end Go.Av.Tryz
