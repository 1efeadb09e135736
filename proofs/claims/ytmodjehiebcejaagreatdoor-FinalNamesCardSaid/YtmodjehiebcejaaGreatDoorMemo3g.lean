/- A closed run: some of its parts. -/
import Derived.Test.YtmodjehiebcejaaGreatDoorMemo2i
import Derived.Test.YtmodjehiebcejaaGreatDoorMemo2j
set_option linter.all false

set_option maxRecDepth 1000000
namespace Go.Av.Tryz
open Go.Av Go.Av.X Go.Proofs Go.D Go.Av.Tryz
set_option maxHeartbeats 4000000
theorem X0qm : Q 36 X0ab := w [(25, [Xed])] ⟨⟨Xfv, oo⟩, oo⟩
theorem X0ql : Q 36 X0aa := w [(25, [Xed])] ⟨⟨Xfv, oo⟩, oo⟩
theorem X0qj : Q 36 X0a8 := w [(25, [Xed]), (103, [e45]), (118, [e42]), (124, [e43]), (126, [e44]), (145, [e40]), (146, [e41]), (147, [e46])] ⟨⟨Xfv, oo⟩, ⟨m45, oo⟩, ⟨m42, oo⟩, ⟨m43, oo⟩, ⟨m44, oo⟩, ⟨m40, oo⟩, ⟨m41, oo⟩, ⟨m46, oo⟩, oo⟩
theorem X0qi : Q 87 X0a7 := w [(92, q137), (93, [Xo, X8, X6, Xm]), (111, [X9, X7, Xj, Xu]), (25, [Xed])] ⟨X01p, ⟨Xr, Xd, Xb, Xn, oo⟩, ⟨Xe, Xc, Xl, Xw, oo⟩, ⟨Xfv, oo⟩, oo⟩
theorem X0qg : Q 87 X0a5 := w [(92, q138), (93, [Xo, X8, X6, Xm]), (111, [X9, X7, Xj, Xu]), (25, [Xq3])] ⟨Xn3, ⟨Xr, Xd, Xb, Xn, oo⟩, ⟨Xe, Xc, Xl, Xw, oo⟩, ⟨X043, oo⟩, oo⟩
theorem X0qe : Q 87 X0a3 := w [(92, q139), (93, [Xo, X8, X6, Xm]), (111, [X9, X7, Xj, Xu]), (25, [Xq2])] ⟨X01o, ⟨Xr, Xd, Xb, Xn, oo⟩, ⟨Xe, Xc, Xl, Xw, oo⟩, ⟨X042, oo⟩, oo⟩
theorem X0qc : Q 87 X0a1 := w [(92, q140), (93, [Xo, X8, X6, Xm]), (111, [X9, X7, Xj, Xu]), (25, [Xq1])] ⟨X01n, ⟨Xr, Xd, Xb, Xn, oo⟩, ⟨Xe, Xc, Xl, Xw, oo⟩, ⟨X041, oo⟩, oo⟩
theorem X0qa : Q 87 X09z := w [(92, q141), (93, [Xo, X8, X6, Xm]), (111, [X9, X7, Xj, Xu]), (25, [Xq0])] ⟨Xn2, ⟨Xr, Xd, Xb, Xn, oo⟩, ⟨Xe, Xc, Xl, Xw, oo⟩, ⟨X040, oo⟩, oo⟩
theorem X0q8 : Q 87 X09x := w [(92, q142), (93, [Xo, X8, X6, Xm]), (111, [X9, X7, Xj, Xu]), (25, [Xpz])] ⟨X01m, ⟨Xr, Xd, Xb, Xn, oo⟩, ⟨Xe, Xc, Xl, Xw, oo⟩, ⟨X03z, oo⟩, oo⟩
theorem X0q6 : Q 87 X09v := w [(92, q143), (93, [Xo, X8, X6, Xm]), (111, [X9, X7, Xj, Xu]), (25, [Xpy])] ⟨Xn1, ⟨Xr, Xd, Xb, Xn, oo⟩, ⟨Xe, Xc, Xl, Xw, oo⟩, ⟨X03y, oo⟩, oo⟩
theorem X0q4 : Q 87 X09t := w [(92, q144), (93, [Xo, X8, X6, Xm]), (111, [X9, X7, Xj, Xu]), (25, [Xpx])] ⟨X01l, ⟨Xr, Xd, Xb, Xn, oo⟩, ⟨Xe, Xc, Xl, Xw, oo⟩, ⟨X03x, oo⟩, oo⟩
theorem X0q2 : Q 87 X09r := w [(92, q145), (93, [Xo, X8, X6, Xm]), (111, [X9, X7, Xj, Xu]), (25, [Xpw])] ⟨Xn0, ⟨Xr, Xd, Xb, Xn, oo⟩, ⟨Xe, Xc, Xl, Xw, oo⟩, ⟨X03w, oo⟩, oo⟩
theorem X0q0 : Q 87 X09p := w [(92, q146), (93, [Xo, X8, X6, Xm]), (111, [X9, X7, Xj, Xu]), (25, [Xpv])] ⟨X01k, ⟨Xr, Xd, Xb, Xn, oo⟩, ⟨Xe, Xc, Xl, Xw, oo⟩, ⟨X03v, oo⟩, oo⟩
theorem X0px : Q 87 X09m := w [(92, q147), (93, [Xo, X8, X6, Xm]), (111, [X9, X7, Xj, Xu]), (25, [Xpu])] ⟨Xmz, ⟨Xr, Xd, Xb, Xn, oo⟩, ⟨Xe, Xc, Xl, Xw, oo⟩, ⟨X03u, oo⟩, oo⟩
theorem X0pv : Q 87 X09k := w [(92, q148), (93, [Xo, X8, X6, Xm]), (111, [X9, X7, Xj, Xu]), (25, [Xpt])] ⟨X01j, ⟨Xr, Xd, Xb, Xn, oo⟩, ⟨Xe, Xc, Xl, Xw, oo⟩, ⟨X03t, oo⟩, oo⟩
theorem X03r : Q 87 Xpr := w [(92, q149), (93, [Xo, X8, X6, Xm]), (111, [X9, X7, Xj, Xu]), (25, [Xps])] ⟨X0m6, ⟨Xr, Xd, Xb, Xn, oo⟩, ⟨Xe, Xc, Xl, Xw, oo⟩, ⟨X03s, oo⟩, oo⟩
theorem X0ps : Q 36 X09h := w [(25, [Xps]), (103, [e45]), (118, [e42]), (124, [e43]), (126, [e44]), (145, [e40]), (146, [e41]), (147, [e46])] ⟨⟨X03s, oo⟩, ⟨m45, oo⟩, ⟨m42, oo⟩, ⟨m43, oo⟩, ⟨m44, oo⟩, ⟨m40, oo⟩, ⟨m41, oo⟩, ⟨m46, oo⟩, oo⟩
theorem X03q : Q 36 Xpq := w [(25, [Xj9]), (103, [e45]), (118, [e42]), (124, [e43]), (126, [e44]), (145, [e40]), (146, [e41]), (147, [e46])] ⟨⟨Xnw, oo⟩, ⟨m45, oo⟩, ⟨m42, oo⟩, ⟨m43, oo⟩, ⟨m44, oo⟩, ⟨m40, oo⟩, ⟨m41, oo⟩, ⟨m46, oo⟩, oo⟩
theorem X0pq : Q 87 X09f := w [(92, q150), (93, [Xo, X8, X6, Xm]), (111, [X9, X7, Xj, Xu]), (25, [Xj9])] ⟨X01i, ⟨Xr, Xd, Xb, Xn, oo⟩, ⟨Xe, Xc, Xl, Xw, oo⟩, ⟨Xnw, oo⟩, oo⟩
theorem X0po : Q 87 X09d := w [(92, q151), (93, [Xo, X8, X6, Xm]), (111, [X9, X7, Xj, Xu]), (25, [Xpp])] ⟨Xmy, ⟨Xr, Xd, Xb, Xn, oo⟩, ⟨Xe, Xc, Xl, Xw, oo⟩, ⟨X03p, oo⟩, oo⟩
theorem X0pm : Q 87 X09b := w [(92, q152), (93, [Xo, X8, X6, Xm]), (111, [X9, X7, Xj, Xu]), (25, [Xpo])] ⟨X01h, ⟨Xr, Xd, Xb, Xn, oo⟩, ⟨Xe, Xc, Xl, Xw, oo⟩, ⟨X03o, oo⟩, oo⟩
theorem X0pk : Q 87 X099 := w [(92, q153), (93, [Xo, X8, X6, Xm]), (111, [X9, X7, Xj, Xu]), (25, [Xpn])] ⟨X01g, ⟨Xr, Xd, Xb, Xn, oo⟩, ⟨Xe, Xc, Xl, Xw, oo⟩, ⟨X03n, oo⟩, oo⟩
theorem X0pi : Q 87 X097 := w [(92, q154), (93, [Xo, X8, X6, Xm]), (111, [X9, X7, Xj, Xu]), (25, [Xpm])] ⟨Xmx, ⟨Xr, Xd, Xb, Xn, oo⟩, ⟨Xe, Xc, Xl, Xw, oo⟩, ⟨X03m, oo⟩, oo⟩
theorem X0pg : Q 87 X095 := w [(92, q155), (93, [Xo, X8, X6, Xm]), (111, [X9, X7, Xj, Xu]), (25, [Xpl])] ⟨X01f, ⟨Xr, Xd, Xb, Xn, oo⟩, ⟨Xe, Xc, Xl, Xw, oo⟩, ⟨X03l, oo⟩, oo⟩
theorem X0pe : Q 87 X093 := w [(92, q156), (93, [Xo, X8, X6, Xm]), (111, [X9, X7, Xj, Xu]), (25, [Xpk])] ⟨Xmw, ⟨Xr, Xd, Xb, Xn, oo⟩, ⟨Xe, Xc, Xl, Xw, oo⟩, ⟨X03k, oo⟩, oo⟩
theorem X0pc : Q 87 X091 := w [(92, q157), (93, [Xo, X8, X6, Xm]), (111, [X9, X7, Xj, Xu]), (25, [Xpj])] ⟨X01e, ⟨Xr, Xd, Xb, Xn, oo⟩, ⟨Xe, Xc, Xl, Xw, oo⟩, ⟨X03j, oo⟩, oo⟩
theorem X0pa : Q 87 X08z := w [(92, q158), (93, [Xo, X8, X6, Xm]), (111, [X9, X7, Xj, Xu]), (25, [Xpi])] ⟨X01d, ⟨Xr, Xd, Xb, Xn, oo⟩, ⟨Xe, Xc, Xl, Xw, oo⟩, ⟨X03i, oo⟩, oo⟩
theorem X0p8 : Q 87 X08x := w [(92, q159), (93, [Xo, X8, X6, Xm]), (111, [X9, X7, Xj, Xu]), (25, [Xph])] ⟨Xmv, ⟨Xr, Xd, Xb, Xn, oo⟩, ⟨Xe, Xc, Xl, Xw, oo⟩, ⟨X03h, oo⟩, oo⟩
theorem X0p6 : Q 87 X08v := w [(92, q160), (93, [Xo, X8, X6, Xm]), (111, [X9, X7, Xj, Xu]), (25, [Xpg])] ⟨X01c, ⟨Xr, Xd, Xb, Xn, oo⟩, ⟨Xe, Xc, Xl, Xw, oo⟩, ⟨X03g, oo⟩, oo⟩
theorem X0p4 : Q 87 X08t := w [(92, q161), (93, [Xo, X8, X6, Xm]), (111, [X9, X7, Xj, Xu]), (25, [Xpe])] ⟨Xmu, ⟨Xr, Xd, Xb, Xn, oo⟩, ⟨Xe, Xc, Xl, Xw, oo⟩, ⟨X03e, oo⟩, oo⟩
theorem X0p2 : Q 87 X08r := w [(92, q162), (93, [Xo, X8, X6, Xm]), (111, [X9, X7, Xj, Xu]), (25, [Xpd])] ⟨X01b, ⟨Xr, Xd, Xb, Xn, oo⟩, ⟨Xe, Xc, Xl, Xw, oo⟩, ⟨X03d, oo⟩, oo⟩
theorem X0p0 : Q 87 X08p := w [(92, q163), (93, [Xo, X8, X6, Xm]), (111, [X9, X7, Xj, Xu]), (25, [Xpc])] ⟨Xmt, ⟨Xr, Xd, Xb, Xn, oo⟩, ⟨Xe, Xc, Xl, Xw, oo⟩, ⟨X03c, oo⟩, oo⟩
theorem X0oy : Q 87 X08n := w [(92, q164), (93, [Xo, X8, X6, Xm]), (111, [X9, X7, Xj, Xu]), (25, [Xpb])] ⟨X01a, ⟨Xr, Xd, Xb, Xn, oo⟩, ⟨Xe, Xc, Xl, Xw, oo⟩, ⟨X03b, oo⟩, oo⟩
theorem X0ov : Q 87 X08k := w [(92, q165), (93, [Xo, X8, X6, Xm]), (111, [X9, X7, Xj, Xu]), (25, [Xpa])] ⟨Xms, ⟨Xr, Xd, Xb, Xn, oo⟩, ⟨Xe, Xc, Xl, Xw, oo⟩, ⟨X03a, oo⟩, oo⟩
theorem X0ot : Q 87 X08i := w [(92, q166), (93, [Xo, X8, X6, Xm]), (111, [X9, X7, Xj, Xu]), (25, [Xp9])] ⟨X019, ⟨Xr, Xd, Xb, Xn, oo⟩, ⟨Xe, Xc, Xl, Xw, oo⟩, ⟨X039, oo⟩, oo⟩
theorem X0or : Q 87 X08g := w [(92, q167), (93, [Xo, X8, X6, Xm]), (111, [X9, X7, Xj, Xu]), (25, [Xp8])] ⟨X0m4, ⟨Xr, Xd, Xb, Xn, oo⟩, ⟨Xe, Xc, Xl, Xw, oo⟩, ⟨X038, oo⟩, oo⟩
theorem X037 : Q 36 Xp7 := w [(25, [Xj8]), (103, [e45]), (118, [e42]), (124, [e43]), (126, [e44]), (145, [e40]), (146, [e41]), (147, [e46])] ⟨⟨Xnv, oo⟩, ⟨m45, oo⟩, ⟨m42, oo⟩, ⟨m43, oo⟩, ⟨m44, oo⟩, ⟨m40, oo⟩, ⟨m41, oo⟩, ⟨m46, oo⟩, oo⟩
theorem X0oo : Q 87 X08d := w [(92, q168), (93, [Xo, X8, X6, Xm]), (111, [X9, X7, Xj, Xu]), (25, [Xj8])] ⟨X018, ⟨Xr, Xd, Xb, Xn, oo⟩, ⟨Xe, Xc, Xl, Xw, oo⟩, ⟨Xnv, oo⟩, oo⟩
theorem X0om : Q 87 X08b := w [(92, q169), (93, [Xo, X8, X6, Xm]), (111, [X9, X7, Xj, Xu]), (25, [Xp6])] ⟨Xmr, ⟨Xr, Xd, Xb, Xn, oo⟩, ⟨Xe, Xc, Xl, Xw, oo⟩, ⟨X036, oo⟩, oo⟩
theorem X0ok : Q 87 X089 := w [(92, q170), (93, [Xo, X8, X6, Xm]), (111, [X9, X7, Xj, Xu]), (25, [Xp5])] ⟨X017, ⟨Xr, Xd, Xb, Xn, oo⟩, ⟨Xe, Xc, Xl, Xw, oo⟩, ⟨X035, oo⟩, oo⟩
theorem X0oi : Q 87 X087 := w [(92, q171), (93, [Xo, X8, X6, Xm]), (111, [X9, X7, Xj, Xu]), (25, [Xp4])] ⟨X016, ⟨Xr, Xd, Xb, Xn, oo⟩, ⟨Xe, Xc, Xl, Xw, oo⟩, ⟨X034, oo⟩, oo⟩
theorem X0og : Q 87 X085 := w [(92, q172), (93, [Xo, X8, X6, Xm]), (111, [X9, X7, Xj, Xu]), (25, [Xp3])] ⟨Xmq, ⟨Xr, Xd, Xb, Xn, oo⟩, ⟨Xe, Xc, Xl, Xw, oo⟩, ⟨X033, oo⟩, oo⟩
theorem X0oe : Q 87 X083 := w [(92, q173), (93, [Xo, X8, X6, Xm]), (111, [X9, X7, Xj, Xu]), (25, [Xp2])] ⟨X015, ⟨Xr, Xd, Xb, Xn, oo⟩, ⟨Xe, Xc, Xl, Xw, oo⟩, ⟨X032, oo⟩, oo⟩
theorem X0oc : Q 87 X081 := w [(92, q174), (93, [Xo, X8, X6, Xm]), (111, [X9, X7, Xj, Xu]), (25, [Xp1])] ⟨Xmp, ⟨Xr, Xd, Xb, Xn, oo⟩, ⟨Xe, Xc, Xl, Xw, oo⟩, ⟨X031, oo⟩, oo⟩
theorem X0oa : Q 87 X07z := w [(92, q175), (93, [Xo, X8, X6, Xm]), (111, [X9, X7, Xj, Xu]), (25, [Xp0])] ⟨X014, ⟨Xr, Xd, Xb, Xn, oo⟩, ⟨Xe, Xc, Xl, Xw, oo⟩, ⟨X030, oo⟩, oo⟩
theorem X0o8 : Q 87 X07x := w [(92, q176), (93, [Xo, X8, X6, Xm]), (111, [X9, X7, Xj, Xu]), (25, [Xoz])] ⟨X013, ⟨Xr, Xd, Xb, Xn, oo⟩, ⟨Xe, Xc, Xl, Xw, oo⟩, ⟨X02z, oo⟩, oo⟩
theorem X0o6 : Q 87 X07v := w [(92, q177), (93, [Xo, X8, X6, Xm]), (111, [X9, X7, Xj, Xu]), (25, [Xoy])] ⟨Xmo, ⟨Xr, Xd, Xb, Xn, oo⟩, ⟨Xe, Xc, Xl, Xw, oo⟩, ⟨X02y, oo⟩, oo⟩
theorem X0o4 : Q 87 X07t := w [(92, q178), (93, [Xo, X8, X6, Xm]), (111, [X9, X7, Xj, Xu]), (25, [Xox])] ⟨X012, ⟨Xr, Xd, Xb, Xn, oo⟩, ⟨Xe, Xc, Xl, Xw, oo⟩, ⟨X02x, oo⟩, oo⟩
theorem X0o2 : Q 87 X07r := w [(92, q179), (93, [Xo, X8, X6, Xm]), (111, [X9, X7, Xj, Xu]), (25, [Xow])] ⟨Xmn, ⟨Xr, Xd, Xb, Xn, oo⟩, ⟨Xe, Xc, Xl, Xw, oo⟩, ⟨X02w, oo⟩, oo⟩
theorem X0o0 : Q 87 X07p := w [(92, q180), (93, [Xo, X8, X6, Xm]), (111, [X9, X7, Xj, Xu]), (25, [Xov])] ⟨X011, ⟨Xr, Xd, Xb, Xn, oo⟩, ⟨Xe, Xc, Xl, Xw, oo⟩, ⟨X02v, oo⟩, oo⟩
theorem X0ny : Q 87 X07n := w [(92, q181), (93, [Xo, X8, X6, Xm]), (111, [X9, X7, Xj, Xu]), (25, [Xou])] ⟨Xmm, ⟨Xr, Xd, Xb, Xn, oo⟩, ⟨Xe, Xc, Xl, Xw, oo⟩, ⟨X02u, oo⟩, oo⟩
theorem X0nw : Q 87 X07l := w [(92, q182), (93, [Xo, X8, X6, Xm]), (111, [X9, X7, Xj, Xu]), (25, [Xot])] ⟨X010, ⟨Xr, Xd, Xb, Xn, oo⟩, ⟨Xe, Xc, Xl, Xw, oo⟩, ⟨X02t, oo⟩, oo⟩
theorem X0nt : Q 87 X07i := w [(92, q183), (93, [Xo, X8, X6, Xm]), (111, [X9, X7, Xj, Xu]), (25, [Xos])] ⟨X0m2, ⟨Xr, Xd, Xb, Xn, oo⟩, ⟨Xe, Xc, Xl, Xw, oo⟩, ⟨X02s, oo⟩, oo⟩
end Go.Av.Tryz
