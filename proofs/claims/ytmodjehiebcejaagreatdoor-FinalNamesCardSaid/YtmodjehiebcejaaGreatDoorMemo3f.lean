/- A closed run: some of its parts. -/
import Derived.Test.YtmodjehiebcejaaGreatDoorMemo2g
import Derived.Test.YtmodjehiebcejaaGreatDoorMemo2h
import Derived.Test.YtmodjehiebcejaaGreatDoorMemo2i
set_option linter.all false

set_option maxRecDepth 1000000
namespace Go.Av.Tryz
open Go.Av Go.Av.X Go.Proofs Go.D Go.Av.Tryz
set_option maxHeartbeats 4000000
theorem X0sl : Q 87 X0ca := w [(92, q106), (93, [X0d, Xv, Xz, Xy, X07, X06]), (111, [Xp, X00, Xg, X08, X0c, X0g]), (25, [Xqy])] ⟨X026, ⟨X0f, Xx, X03, X02, X0a, X09, oo⟩, ⟨Xs, X04, Xi, X0b, X0e, X0h, oo⟩, ⟨X04y, oo⟩, oo⟩
theorem X0sj : Q 94 X0c8 := w [(93, [Xv]), (103, [e45]), (118, [e42]), (124, [e43]), (126, [e44]), (145, [e40]), (146, [e41]), (147, [e46]), (216, [X0c9])] ⟨⟨Xx, oo⟩, ⟨m45, oo⟩, ⟨m42, oo⟩, ⟨m43, oo⟩, ⟨m44, oo⟩, ⟨m40, oo⟩, ⟨m41, oo⟩, ⟨m46, oo⟩, ⟨X0sk, oo⟩, oo⟩
theorem X0si : Q 87 X0c7 := w [(92, q107), (93, [X0d, Xv, Xz, Xy, X07, X06]), (111, [Xp, X00, Xg, X08, X0c, X0g]), (25, [Xqx])] ⟨Xng, ⟨X0f, Xx, X03, X02, X0a, X09, oo⟩, ⟨Xs, X04, Xi, X0b, X0e, X0h, oo⟩, ⟨X04x, oo⟩, oo⟩
theorem X0sg : Q 87 X0c5 := w [(92, q108), (93, [X0d, Xv, Xz, Xy, X07, X06]), (111, [Xp, X00, Xg, X08, X0c, X0g]), (25, [Xqw])] ⟨X025, ⟨X0f, Xx, X03, X02, X0a, X09, oo⟩, ⟨Xs, X04, Xi, X0b, X0e, X0h, oo⟩, ⟨X04w, oo⟩, oo⟩
theorem X0se : Q 94 X0c3 := w [(93, [Xy]), (103, [e45]), (118, [e42]), (124, [e43]), (126, [e44]), (145, [e40]), (146, [e41]), (147, [e46]), (218, [X0c4])] ⟨⟨X02, oo⟩, ⟨m45, oo⟩, ⟨m42, oo⟩, ⟨m43, oo⟩, ⟨m44, oo⟩, ⟨m40, oo⟩, ⟨m41, oo⟩, ⟨m46, oo⟩, ⟨X0sf, oo⟩, oo⟩
theorem X0sd : Q 87 X0c2 := w [(92, q109), (93, [X0d, Xv, Xz, Xy, X07, X06]), (111, [Xp, X00, Xg, X08, X0c, X0g]), (25, [Xqv])] ⟨X024, ⟨X0f, Xx, X03, X02, X0a, X09, oo⟩, ⟨Xs, X04, Xi, X0b, X0e, X0h, oo⟩, ⟨X04v, oo⟩, oo⟩
theorem X0sb : Q 87 X0c0 := w [(92, q110), (93, [X0d, Xv, Xz, Xy, X07, X06]), (111, [Xp, X00, Xg, X08, X0c, X0g]), (25, [Xqu])] ⟨Xnf, ⟨X0f, Xx, X03, X02, X0a, X09, oo⟩, ⟨Xs, X04, Xi, X0b, X0e, X0h, oo⟩, ⟨X04u, oo⟩, oo⟩
theorem X0s9 : Q 87 X0by := w [(92, q111), (93, [X0d, Xv, Xz, Xy, X07, X06]), (111, [Xp, X00, Xg, X08, X0c, X0g]), (25, [Xqt])] ⟨X023, ⟨X0f, Xx, X03, X02, X0a, X09, oo⟩, ⟨Xs, X04, Xi, X0b, X0e, X0h, oo⟩, ⟨X04t, oo⟩, oo⟩
theorem X0s7 : Q 87 X0bw := w [(92, q112), (93, [X0d, Xv, Xz, Xy, X07, X06]), (111, [Xp, X00, Xg, X08, X0c, X0g]), (25, [Xqs])] ⟨Xne, ⟨X0f, Xx, X03, X02, X0a, X09, oo⟩, ⟨Xs, X04, Xi, X0b, X0e, X0h, oo⟩, ⟨X04s, oo⟩, oo⟩
theorem X0s5 : Q 87 X0bu := w [(92, q113), (93, [X0d, Xv, Xz, Xy, X07, X06]), (111, [Xp, X00, Xg, X08, X0c, X0g]), (25, [Xqr])] ⟨X022, ⟨X0f, Xx, X03, X02, X0a, X09, oo⟩, ⟨Xs, X04, Xi, X0b, X0e, X0h, oo⟩, ⟨X04r, oo⟩, oo⟩
theorem X0s3 : Q 87 X0bs := w [(92, q114), (93, [X0d, Xv, Xz, Xy, X07, X06]), (111, [Xp, X00, Xg, X08, X0c, X0g]), (25, [Xqq])] ⟨Xnd, ⟨X0f, Xx, X03, X02, X0a, X09, oo⟩, ⟨Xs, X04, Xi, X0b, X0e, X0h, oo⟩, ⟨X04q, oo⟩, oo⟩
theorem X0s1 : Q 87 X0bq := w [(92, q115), (93, [X0d, Xv, Xz, Xy, X07, X06]), (111, [Xp, X00, Xg, X08, X0c, X0g]), (25, [Xqp])] ⟨X021, ⟨X0f, Xx, X03, X02, X0a, X09, oo⟩, ⟨Xs, X04, Xi, X0b, X0e, X0h, oo⟩, ⟨X04p, oo⟩, oo⟩
theorem X0rz : Q 94 X0bo := w [(93, [Xy]), (103, [e45]), (118, [e42]), (124, [e43]), (126, [e44]), (145, [e40]), (146, [e41]), (147, [e46]), (218, [X0bp])] ⟨⟨X02, oo⟩, ⟨m45, oo⟩, ⟨m42, oo⟩, ⟨m43, oo⟩, ⟨m44, oo⟩, ⟨m40, oo⟩, ⟨m41, oo⟩, ⟨m46, oo⟩, ⟨X0s0, oo⟩, oo⟩
theorem X0rx : Q 87 X0bm := w [(92, q116), (93, [X0d, Xv, Xz, Xy, X07, X06]), (111, [Xp, X00, Xg, X08, X0c, X0g]), (25, [Xqo])] ⟨X020, ⟨X0f, Xx, X03, X02, X0a, X09, oo⟩, ⟨Xs, X04, Xi, X0b, X0e, X0h, oo⟩, ⟨X04o, oo⟩, oo⟩
theorem X0rv : Q 87 X0bk := w [(92, q117), (93, [X0d, Xv, Xz, Xy, X07, X06]), (111, [Xp, X00, Xg, X08, X0c, X0g]), (25, [Xqn])] ⟨Xnc, ⟨X0f, Xx, X03, X02, X0a, X09, oo⟩, ⟨Xs, X04, Xi, X0b, X0e, X0h, oo⟩, ⟨X04n, oo⟩, oo⟩
theorem X0rt : Q 87 X0bi := w [(92, q118), (93, [X0d, Xv, Xz, Xy, X07, X06]), (111, [Xp, X00, Xg, X08, X0c, X0g]), (25, [Xqm])] ⟨X01z, ⟨X0f, Xx, X03, X02, X0a, X09, oo⟩, ⟨Xs, X04, Xi, X0b, X0e, X0h, oo⟩, ⟨X04m, oo⟩, oo⟩
theorem X0rr : Q 94 X0bg := w [(93, [Xv]), (103, [e45]), (118, [e42]), (124, [e43]), (126, [e44]), (145, [e40]), (146, [e41]), (147, [e46]), (216, [X0bh])] ⟨⟨Xx, oo⟩, ⟨m45, oo⟩, ⟨m42, oo⟩, ⟨m43, oo⟩, ⟨m44, oo⟩, ⟨m40, oo⟩, ⟨m41, oo⟩, ⟨m46, oo⟩, ⟨X0rs, oo⟩, oo⟩
theorem X0rq : Q 87 X0bf := w [(92, q119), (93, [X0d, Xv, Xz, Xy, X07, X06]), (111, [Xp, X00, Xg, X08, X0c, X0g]), (25, [Xql])] ⟨X01y, ⟨X0f, Xx, X03, X02, X0a, X09, oo⟩, ⟨Xs, X04, Xi, X0b, X0e, X0h, oo⟩, ⟨X04l, oo⟩, oo⟩
theorem X0ro : Q 87 X0bd := w [(92, q120), (93, [X0d, Xv, Xz, Xy, X07, X06]), (111, [Xp, X00, Xg, X08, X0c, X0g]), (25, [Xqk])] ⟨Xnb, ⟨X0f, Xx, X03, X02, X0a, X09, oo⟩, ⟨Xs, X04, Xi, X0b, X0e, X0h, oo⟩, ⟨X04k, oo⟩, oo⟩
theorem X0rm : Q 87 X0bb := w [(92, q121), (93, [X0d, Xv, Xz, Xy, X07, X06]), (111, [Xp, X00, Xg, X08, X0c, X0g]), (25, [Xqj])] ⟨X01x, ⟨X0f, Xx, X03, X02, X0a, X09, oo⟩, ⟨Xs, X04, Xi, X0b, X0e, X0h, oo⟩, ⟨X04j, oo⟩, oo⟩
theorem X0rk : Q 87 X0b9 := w [(92, q122), (93, [X0d, Xv, Xz, Xy, X07, X06]), (111, [Xp, X00, Xg, X08, X0c, X0g]), (25, [Xqi])] ⟨Xna, ⟨X0f, Xx, X03, X02, X0a, X09, oo⟩, ⟨Xs, X04, Xi, X0b, X0e, X0h, oo⟩, ⟨X04i, oo⟩, oo⟩
theorem X0ri : Q 87 X0b7 := w [(92, q123), (93, [X0d, Xv, Xz, Xy, X07, X06]), (111, [Xp, X00, Xg, X08, X0c, X0g]), (25, [Xqh])] ⟨X01w, ⟨X0f, Xx, X03, X02, X0a, X09, oo⟩, ⟨Xs, X04, Xi, X0b, X0e, X0h, oo⟩, ⟨X04h, oo⟩, oo⟩
theorem X0rg : Q 87 X0b5 := w [(92, q124), (93, [X0d, Xv, Xz, Xy, X07, X06]), (111, [Xp, X00, Xg, X08, X0c, X0g]), (25, [Xqg])] ⟨Xn9, ⟨X0f, Xx, X03, X02, X0a, X09, oo⟩, ⟨Xs, X04, Xi, X0b, X0e, X0h, oo⟩, ⟨X04g, oo⟩, oo⟩
theorem X0re : Q 87 X0b3 := w [(92, q125), (93, [X0d, Xv, Xz, Xy, X07, X06]), (111, [Xp, X00, Xg, X08, X0c, X0g]), (25, [Xqf])] ⟨X01v, ⟨X0f, Xx, X03, X02, X0a, X09, oo⟩, ⟨Xs, X04, Xi, X0b, X0e, X0h, oo⟩, ⟨X04f, oo⟩, oo⟩
theorem X0rc : Q 87 X0b1 := w [(92, q126), (93, [X0d, Xv, Xz, Xy, X07, X06]), (111, [Xp, X00, Xg, X08, X0c, X0g]), (25, [Xqe])] ⟨Xn8, ⟨X0f, Xx, X03, X02, X0a, X09, oo⟩, ⟨Xs, X04, Xi, X0b, X0e, X0h, oo⟩, ⟨X04e, oo⟩, oo⟩
theorem X0ra : Q 87 X0az := w [(92, q127), (93, [X0d, Xv, Xz, Xy, X07, X06]), (111, [Xp, X00, Xg, X08, X0c, X0g]), (25, [Xqd])] ⟨X01u, ⟨X0f, Xx, X03, X02, X0a, X09, oo⟩, ⟨Xs, X04, Xi, X0b, X0e, X0h, oo⟩, ⟨X04d, oo⟩, oo⟩
theorem X0r8 : Q 87 X0ax := w [(92, q128), (93, [X0d, Xv, Xz, Xy, X07, X06]), (111, [Xp, X00, Xg, X08, X0c, X0g]), (25, [Xqc])] ⟨Xn7, ⟨X0f, Xx, X03, X02, X0a, X09, oo⟩, ⟨Xs, X04, Xi, X0b, X0e, X0h, oo⟩, ⟨X04c, oo⟩, oo⟩
theorem X0r6 : Q 87 X0av := w [(92, q129), (93, [X0d, Xv, Xz, Xy, X07, X06]), (111, [Xp, X00, Xg, X08, X0c, X0g]), (25, [Xqb])] ⟨X01t, ⟨X0f, Xx, X03, X02, X0a, X09, oo⟩, ⟨Xs, X04, Xi, X0b, X0e, X0h, oo⟩, ⟨X04b, oo⟩, oo⟩
theorem X0r4 : Q 87 X0at := w [(92, q130), (93, [X0d, Xv, Xz, Xy, X07, X06]), (111, [Xp, X00, Xg, X08, X0c, X0g]), (25, [Xqa])] ⟨Xn6, ⟨X0f, Xx, X03, X02, X0a, X09, oo⟩, ⟨Xs, X04, Xi, X0b, X0e, X0h, oo⟩, ⟨X04a, oo⟩, oo⟩
theorem X0r2 : Q 87 X0ar := w [(92, q131), (93, [X0d, Xv, Xz, Xy, X07, X06]), (111, [Xp, X00, Xg, X08, X0c, X0g]), (25, [Xq9])] ⟨Xn5, ⟨X0f, Xx, X03, X02, X0a, X09, oo⟩, ⟨Xs, X04, Xi, X0b, X0e, X0h, oo⟩, ⟨X049, oo⟩, oo⟩
theorem X0r0 : Q 87 X0ap := w [(92, q132), (93, [X0d, Xv, Xz, Xy, X07, X06]), (111, [Xp, X00, Xg, X08, X0c, X0g]), (25, [Xq8])] ⟨X01s, ⟨X0f, Xx, X03, X02, X0a, X09, oo⟩, ⟨Xs, X04, Xi, X0b, X0e, X0h, oo⟩, ⟨X048, oo⟩, oo⟩
theorem X0qy : Q 87 X0an := w [(92, q133), (93, [X0d, Xv, Xz, Xy, X07, X06]), (111, [Xp, X00, Xg, X08, X0c, X0g]), (25, [Xq7])] ⟨X01r, ⟨X0f, Xx, X03, X02, X0a, X09, oo⟩, ⟨Xs, X04, Xi, X0b, X0e, X0h, oo⟩, ⟨X047, oo⟩, oo⟩
theorem X0qw : Q 87 X0al := w [(92, q134), (93, [X0d, Xv, Xz, Xy, X07, X06]), (111, [Xp, X00, Xg, X08, X0c, X0g]), (25, [Xq6])] ⟨Xn4, ⟨X0f, Xx, X03, X02, X0a, X09, oo⟩, ⟨Xs, X04, Xi, X0b, X0e, X0h, oo⟩, ⟨X046, oo⟩, oo⟩
theorem X0qu : Q 87 X0aj := w [(92, q135), (93, [X0d, Xv, Xz, Xy, X07, X06]), (111, [Xp, X00, Xg, X08, X0c, X0g]), (25, [Xq5])] ⟨X01q, ⟨X0f, Xx, X03, X02, X0a, X09, oo⟩, ⟨Xs, X04, Xi, X0b, X0e, X0h, oo⟩, ⟨X045, oo⟩, oo⟩
theorem X0qs : Q 87 X0ah := w [(92, q136), (93, [X0d, Xv, Xz, Xy, X07, X06]), (111, [Xp, X00, Xg, X08, X0c, X0g]), (25, [Xq4])] ⟨X0m7, ⟨X0f, Xx, X03, X02, X0a, X09, oo⟩, ⟨Xs, X04, Xi, X0b, X0e, X0h, oo⟩, ⟨X044, oo⟩, oo⟩
theorem X0qo : Q 34 X0ad := w [(75, [X0ae])] ⟨⟨X0qp, oo⟩, oo⟩
end Go.Av.Tryz
