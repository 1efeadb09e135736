/- A closed run: some of its parts. -/
import Derived.Test.YtmodjehiebcejaaGreatDoorMemoB
set_option linter.all false

set_option maxRecDepth 1000000
namespace Go.Av.Tryz
open Go.Av Go.Av.X Go.Proofs Go.D Go.Av.Tryz
set_option maxHeartbeats 4000000
theorem X0vr : Q 90 X0fg := w [(103, [e45]), (118, [e42]), (124, [e43]), (126, [e44]), (145, [e40]), (146, [e41]), (147, [e46])] ⟨⟨m45, oo⟩, ⟨m42, oo⟩, ⟨m43, oo⟩, ⟨m44, oo⟩, ⟨m40, oo⟩, ⟨m41, oo⟩, ⟨m46, oo⟩, oo⟩
theorem X0vl : Q 216 X0fa := w [(103, [e45]), (118, [e42]), (124, [e43]), (126, [e44]), (145, [e40]), (206, [X1z])] ⟨⟨m45, oo⟩, ⟨m42, oo⟩, ⟨m43, oo⟩, ⟨m44, oo⟩, ⟨m40, oo⟩, ⟨X21, oo⟩, oo⟩
theorem X0vi : Q 216 X0f7 := w [(103, [e45]), (118, [e42]), (124, [e43]), (126, [e44]), (145, [e40]), (206, [X1z])] ⟨⟨m45, oo⟩, ⟨m42, oo⟩, ⟨m43, oo⟩, ⟨m44, oo⟩, ⟨m40, oo⟩, ⟨X21, oo⟩, oo⟩
theorem X0vf : Q 90 X0f4 := w [(103, [e45]), (118, [e42]), (124, [e43]), (126, [e44]), (145, [e40]), (146, [e41]), (147, [e46])] ⟨⟨m45, oo⟩, ⟨m42, oo⟩, ⟨m43, oo⟩, ⟨m44, oo⟩, ⟨m40, oo⟩, ⟨m41, oo⟩, ⟨m46, oo⟩, oo⟩
theorem X0vd : Q 90 X0f2 := w [(103, [e45]), (118, [e42]), (124, [e43]), (126, [e44]), (145, [e40]), (146, [e41]), (147, [e46])] ⟨⟨m45, oo⟩, ⟨m42, oo⟩, ⟨m43, oo⟩, ⟨m44, oo⟩, ⟨m40, oo⟩, ⟨m41, oo⟩, ⟨m46, oo⟩, oo⟩
theorem X0v7 : Q 219 X0ew := w [(103, [e45]), (118, [e42]), (124, [e43]), (126, [e44]), (145, [e40]), (206, [X1z])] ⟨⟨m45, oo⟩, ⟨m42, oo⟩, ⟨m43, oo⟩, ⟨m44, oo⟩, ⟨m40, oo⟩, ⟨X21, oo⟩, oo⟩
theorem X0v0 : Q 216 X0ep := w [(103, [e45]), (118, [e42]), (124, [e43]), (126, [e44]), (145, [e40]), (206, [X1z])] ⟨⟨m45, oo⟩, ⟨m42, oo⟩, ⟨m43, oo⟩, ⟨m44, oo⟩, ⟨m40, oo⟩, ⟨X21, oo⟩, oo⟩
theorem X0ux : Q 216 X0em := w [(103, [e45]), (118, [e42]), (124, [e43]), (126, [e44]), (145, [e40]), (206, [X1z])] ⟨⟨m45, oo⟩, ⟨m42, oo⟩, ⟨m43, oo⟩, ⟨m44, oo⟩, ⟨m40, oo⟩, ⟨X21, oo⟩, oo⟩
theorem X0uu : Q 219 X0ej := w [(103, [e45]), (124, [e43]), (126, [e44]), (145, [e40]), (206, [X1z])] ⟨⟨m45, oo⟩, ⟨m43, oo⟩, ⟨m44, oo⟩, ⟨m40, oo⟩, ⟨X21, oo⟩, oo⟩
theorem X0ur : Q 90 X0eg := w [(103, [e45]), (118, [e42]), (124, [e43]), (126, [e44]), (145, [e40]), (146, [e41]), (147, [e46])] ⟨⟨m45, oo⟩, ⟨m42, oo⟩, ⟨m43, oo⟩, ⟨m44, oo⟩, ⟨m40, oo⟩, ⟨m41, oo⟩, ⟨m46, oo⟩, oo⟩
theorem X0up : Q 90 X0ee := w [(103, [e45]), (118, [e42]), (124, [e43]), (126, [e44]), (145, [e40]), (146, [e41]), (147, [e46])] ⟨⟨m45, oo⟩, ⟨m42, oo⟩, ⟨m43, oo⟩, ⟨m44, oo⟩, ⟨m40, oo⟩, ⟨m41, oo⟩, ⟨m46, oo⟩, oo⟩
theorem X0uj : Q 219 X0e8 := w [(103, [e45]), (124, [e43]), (126, [e44]), (145, [e40]), (206, [X1z])] ⟨⟨m45, oo⟩, ⟨m43, oo⟩, ⟨m44, oo⟩, ⟨m40, oo⟩, ⟨X21, oo⟩, oo⟩
theorem X0u7 : Q 219 X0dw := w [(103, [e45]), (124, [e43]), (126, [e44]), (145, [e40]), (206, [X1z])] ⟨⟨m45, oo⟩, ⟨m43, oo⟩, ⟨m44, oo⟩, ⟨m40, oo⟩, ⟨X21, oo⟩, oo⟩
theorem X0tz : Q 219 X0do := w [(103, [e45]), (124, [e43]), (126, [e44]), (145, [e40]), (206, [X1z])] ⟨⟨m45, oo⟩, ⟨m43, oo⟩, ⟨m44, oo⟩, ⟨m40, oo⟩, ⟨X21, oo⟩, oo⟩
theorem X0tv : Q 219 X0dk := w [(103, [e45]), (118, [e42]), (124, [e43]), (126, [e44]), (145, [e40]), (206, [X1z])] ⟨⟨m45, oo⟩, ⟨m42, oo⟩, ⟨m43, oo⟩, ⟨m44, oo⟩, ⟨m40, oo⟩, ⟨X21, oo⟩, oo⟩
theorem Xo1 : Q 198 Xje := w [] oo
theorem Xo0 : Q 198 Xjd := w [] oo
theorem Xnz : Q 198 Xjc := w [] oo
theorem Xny : Q 198 Xjb := w [] oo
theorem X1p : Q 35 X1l := w [(206, [Xgs])] ⟨⟨Xin, oo⟩, oo⟩
theorem X25 : Q 107 X23 := w [] oo
theorem X0f : Q 93 X0d := w [] oo
theorem Xs : Q 111 Xp := w [] oo
theorem Xx : Q 93 Xv := w [] oo
theorem X04 : Q 111 X00 := w [] oo
theorem X03 : Q 93 Xz := w [] oo
theorem Xi : Q 111 Xg := w [] oo
theorem X02 : Q 93 Xy := w [] oo
theorem X0b : Q 111 X08 := w [] oo
theorem X0a : Q 93 X07 := w [] oo
theorem X0e : Q 111 X0c := w [] oo
theorem X09 : Q 93 X06 := w [] oo
theorem X0h : Q 111 X0g := w [] oo
theorem X0tg : Q 90 X0d5 := w [(103, [e45]), (118, [e42]), (124, [e43]), (126, [e44]), (145, [e40]), (146, [e41]), (147, [e46])] ⟨⟨m45, oo⟩, ⟨m42, oo⟩, ⟨m43, oo⟩, ⟨m44, oo⟩, ⟨m40, oo⟩, ⟨m41, oo⟩, ⟨m46, oo⟩, oo⟩
theorem X0t7 : Q 90 X0cw := w [(103, [e45]), (118, [e42]), (124, [e43]), (126, [e44]), (145, [e40]), (146, [e41]), (147, [e46])] ⟨⟨m45, oo⟩, ⟨m42, oo⟩, ⟨m43, oo⟩, ⟨m44, oo⟩, ⟨m40, oo⟩, ⟨m41, oo⟩, ⟨m46, oo⟩, oo⟩
theorem X0ss : Q 90 X0ch := w [(103, [e45]), (118, [e42]), (124, [e43]), (126, [e44]), (145, [e40]), (146, [e41]), (147, [e46])] ⟨⟨m45, oo⟩, ⟨m42, oo⟩, ⟨m43, oo⟩, ⟨m44, oo⟩, ⟨m40, oo⟩, ⟨m41, oo⟩, ⟨m46, oo⟩, oo⟩
theorem X0sc : Q 90 X0c1 := w [(103, [e45]), (118, [e42]), (124, [e43]), (126, [e44]), (145, [e40]), (146, [e41]), (147, [e46])] ⟨⟨m45, oo⟩, ⟨m42, oo⟩, ⟨m43, oo⟩, ⟨m44, oo⟩, ⟨m40, oo⟩, ⟨m41, oo⟩, ⟨m46, oo⟩, oo⟩
theorem X0rw : Q 90 X0bl := w [(103, [e45]), (118, [e42]), (124, [e43]), (126, [e44]), (145, [e40]), (146, [e41]), (147, [e46])] ⟨⟨m45, oo⟩, ⟨m42, oo⟩, ⟨m43, oo⟩, ⟨m44, oo⟩, ⟨m40, oo⟩, ⟨m41, oo⟩, ⟨m46, oo⟩, oo⟩
theorem X0rp : Q 90 X0be := w [(103, [e45]), (118, [e42]), (124, [e43]), (126, [e44]), (145, [e40]), (146, [e41]), (147, [e46])] ⟨⟨m45, oo⟩, ⟨m42, oo⟩, ⟨m43, oo⟩, ⟨m44, oo⟩, ⟨m40, oo⟩, ⟨m41, oo⟩, ⟨m46, oo⟩, oo⟩
theorem X0qq : Q 198 X0af := w [] oo
theorem X0qn : Q 21 X0ac := w [(44, [e11]), (206, [X16])] ⟨⟨m11, oo⟩, ⟨X17, oo⟩, oo⟩
theorem Xr : Q 93 Xo := w [] oo
theorem Xe : Q 111 X9 := w [] oo
theorem Xd : Q 93 X8 := w [] oo
theorem Xc : Q 111 X7 := w [] oo
theorem Xb : Q 93 X6 := w [] oo
theorem Xl : Q 111 Xj := w [] oo
theorem Xn : Q 93 Xm := w [] oo
theorem Xw : Q 111 Xu := w [] oo
theorem X0qk : Q 36 X0a9 := w [] oo
theorem X0qh : Q 90 X0a6 := w [(103, [e45]), (118, [e42]), (124, [e43]), (126, [e44]), (145, [e40]), (146, [e41]), (147, [e46])] ⟨⟨m45, oo⟩, ⟨m42, oo⟩, ⟨m43, oo⟩, ⟨m44, oo⟩, ⟨m40, oo⟩, ⟨m41, oo⟩, ⟨m46, oo⟩, oo⟩
theorem X0qb : Q 90 X0a0 := w [(103, [e45]), (118, [e42]), (124, [e43]), (126, [e44]), (145, [e40]), (146, [e41]), (147, [e46])] ⟨⟨m45, oo⟩, ⟨m42, oo⟩, ⟨m43, oo⟩, ⟨m44, oo⟩, ⟨m40, oo⟩, ⟨m41, oo⟩, ⟨m46, oo⟩, oo⟩
theorem X0pz : Q 218 X09o := w [(103, [e45]), (118, [e42]), (124, [e43]), (126, [e44]), (145, [e40]), (206, [X16])] ⟨⟨m45, oo⟩, ⟨m42, oo⟩, ⟨m43, oo⟩, ⟨m44, oo⟩, ⟨m40, oo⟩, ⟨X17, oo⟩, oo⟩
theorem X0pr : Q 21 X09g := w [(44, [e11]), (206, [X16])] ⟨⟨m11, oo⟩, ⟨X17, oo⟩, oo⟩
theorem X0pp : Q 90 X09e := w [(103, [e45]), (118, [e42]), (124, [e43]), (126, [e44]), (145, [e40]), (146, [e41]), (147, [e46])] ⟨⟨m45, oo⟩, ⟨m42, oo⟩, ⟨m43, oo⟩, ⟨m44, oo⟩, ⟨m40, oo⟩, ⟨m41, oo⟩, ⟨m46, oo⟩, oo⟩
theorem X0pj : Q 90 X098 := w [(103, [e45]), (118, [e42]), (124, [e43]), (126, [e44]), (145, [e40]), (146, [e41]), (147, [e46])] ⟨⟨m45, oo⟩, ⟨m42, oo⟩, ⟨m43, oo⟩, ⟨m44, oo⟩, ⟨m40, oo⟩, ⟨m41, oo⟩, ⟨m46, oo⟩, oo⟩
theorem X0p9 : Q 90 X08y := w [(103, [e45]), (118, [e42]), (124, [e43]), (126, [e44]), (145, [e40]), (146, [e41]), (147, [e46])] ⟨⟨m45, oo⟩, ⟨m42, oo⟩, ⟨m43, oo⟩, ⟨m44, oo⟩, ⟨m40, oo⟩, ⟨m41, oo⟩, ⟨m46, oo⟩, oo⟩
theorem X03f : Q 218 Xpf := w [(103, [e45]), (124, [e43]), (126, [e44]), (145, [e40]), (206, [X16])] ⟨⟨m45, oo⟩, ⟨m43, oo⟩, ⟨m44, oo⟩, ⟨m40, oo⟩, ⟨X17, oo⟩, oo⟩
theorem X0ox : Q 218 X08m := w [(103, [e45]), (118, [e42]), (124, [e43]), (126, [e44]), (145, [e40]), (206, [X16])] ⟨⟨m45, oo⟩, ⟨m42, oo⟩, ⟨m43, oo⟩, ⟨m44, oo⟩, ⟨m40, oo⟩, ⟨X17, oo⟩, oo⟩
theorem X0op : Q 21 X08e := w [(44, [e11]), (206, [X16])] ⟨⟨m11, oo⟩, ⟨X17, oo⟩, oo⟩
theorem X0on : Q 90 X08c := w [(103, [e45]), (118, [e42]), (124, [e43]), (126, [e44]), (145, [e40]), (146, [e41]), (147, [e46])] ⟨⟨m45, oo⟩, ⟨m42, oo⟩, ⟨m43, oo⟩, ⟨m44, oo⟩, ⟨m40, oo⟩, ⟨m41, oo⟩, ⟨m46, oo⟩, oo⟩
theorem X0oh : Q 90 X086 := w [(103, [e45]), (118, [e42]), (124, [e43]), (126, [e44]), (145, [e40]), (146, [e41]), (147, [e46])] ⟨⟨m45, oo⟩, ⟨m42, oo⟩, ⟨m43, oo⟩, ⟨m44, oo⟩, ⟨m40, oo⟩, ⟨m41, oo⟩, ⟨m46, oo⟩, oo⟩
theorem X0o7 : Q 90 X07w := w [(103, [e45]), (118, [e42]), (124, [e43]), (126, [e44]), (145, [e40]), (146, [e41]), (147, [e46])] ⟨⟨m45, oo⟩, ⟨m42, oo⟩, ⟨m43, oo⟩, ⟨m44, oo⟩, ⟨m40, oo⟩, ⟨m41, oo⟩, ⟨m46, oo⟩, oo⟩
theorem X0nv : Q 218 X07k := w [(103, [e45]), (124, [e43]), (126, [e44]), (145, [e40]), (206, [X16])] ⟨⟨m45, oo⟩, ⟨m43, oo⟩, ⟨m44, oo⟩, ⟨m40, oo⟩, ⟨X17, oo⟩, oo⟩
end Go.Av.Tryz
