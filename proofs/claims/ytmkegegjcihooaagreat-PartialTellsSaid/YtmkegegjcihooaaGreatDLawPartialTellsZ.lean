/- Printed by decomp.py: the law PartialTells, from its arguments as they lie. -/
import Derived.Test.YtmkegegjcihooaaGreatDCertZ
import Derived.Test.YtmkegegjcihooaaGreatPza
set_option linter.all false

namespace Go.Av.Tryz
open Go.Proofs Go.D
set_option maxRecDepth 100000
theorem Xo3 {n:Nat} {a:AV} (h:X0s Tryz.prog (n+1) 5 a):∃ x:Int,a=(aI .u8 x)/\wfI .u8 x:=by
 unfold X0s at h;simp only[Tryz.underlying5] at h;obtain⟨z,rfl,h⟩:=h;exact⟨z,rfl,h⟩
theorem X8i {n:Nat} {a:AV} (h:X0s Tryz.prog (n+1) 2 a):∃ x:Int,a=(aI .i64 x)/\wfI .i64 x:=by
 unfold X0s at h;simp only[Tryz.underlying2] at h;obtain⟨z,rfl,h⟩:=h;exact⟨z,rfl,h⟩
theorem Xdd {n:Nat} {a:AV} (h:X0s Tryz.prog (n+1) 3 a):∃ x:Int,a=(aI .i64 x)/\wfI .i64 x:=by
 unfold X0s at h;simp only[Tryz.underlying3] at h;obtain⟨z,rfl,h⟩:=h;exact⟨z,rfl,h⟩
theorem X02k {n:Nat} {a:AV} (h:X0s Tryz.prog (n+2) 220 a):∃ x:X02,a=(X2 x)/\Xkt x:=by
 unfold X0s at h;simp only[Tryz.underlying220] at h;obtain⟨l,rfl,g0⟩:=h;obtain⟨y0,r0,rfl,h0,g1⟩:=Xn g0;obtain⟨x0,rfl,w0⟩:=Xo3 (n:=n+0) h0;obtain⟨y1,r1,rfl,h1,g2⟩:=Xn g1;obtain⟨x1,rfl,w1⟩:=X8i (n:=n+0) h1;obtain⟨y2,r2,rfl,h2,g3⟩:=Xn g2;obtain⟨x2,rfl,w2⟩:=Xdd (n:=n+0) h2;obtain⟨y3,r3,rfl,h3,g4⟩:=Xn g3;obtain⟨x3,rfl,w3⟩:=Xdd (n:=n+0) h3;obtain⟨y4,r4,rfl,h4,g5⟩:=Xn g4;obtain⟨x4,rfl,w4⟩:=Xdd (n:=n+0) h4;obtain rfl:=X3j g5;exact⟨X02.mk x0 x1 x2 x3 x4,rfl,⟨w0,w1,w2,w3,w4⟩⟩
theorem Xxk {n:Nat} {a:AV} (h:X0s Tryz.prog (n+3) 22 a):∃ x:(List X02),a=(AV.list false (List.map X2 x))/\(List.length x<=maxLen/\∀ y∈x,Xkt y):=by
 unfold X0s at h;simp only[Tryz.underlying22] at h;obtain⟨es,rfl,hl,hs⟩:=h;obtain⟨l,rfl,hw⟩:=X3c λx hx=>X02k (n:=n) (hs x hx);exact⟨l,rfl,by simpa using hl,hw⟩
theorem X068 {n:Nat} {a:AV} (h:X0s Tryz.prog (n+2) 23 a):∃ x:(List Int),a=(AV.list false (List.map (aI .i64) x))/\(List.length x<=maxLen/\∀ y∈x,wfI .i64 y):=by
 unfold X0s at h;simp only[Tryz.underlying23] at h;obtain⟨es,rfl,hl,hs⟩:=h;obtain⟨l,rfl,hw⟩:=X3c λx hx=>Xdd (n:=n) (hs x hx);exact⟨l,rfl,by simpa using hl,hw⟩
theorem Xxj {n:Nat} {a:AV} (h:X0s Tryz.prog (n+1) 4 a):∃ x:Bool,a=(aB x)/\True:=by
 unfold X0s at h;simp only[Tryz.underlying4] at h;obtain⟨b,rfl⟩:=h;exact⟨b,rfl,trivial⟩
theorem X067 {n:Nat} {a:AV} (h:X0s Tryz.prog (n+2) 25 a):∃ x:X5v,a=(Xa2 x)/\Xnz x:=by
 unfold X0s at h;simp only[Tryz.underlying25] at h;obtain⟨l,rfl,g0⟩:=h;obtain⟨y0,r0,rfl,h0,g1⟩:=Xn g0;obtain⟨x0,rfl,w0⟩:=Xo3 (n:=n+0) h0;obtain⟨y1,r1,rfl,h1,g2⟩:=Xn g1;obtain⟨x1,rfl,w1⟩:=X8i (n:=n+0) h1;obtain⟨y2,r2,rfl,h2,g3⟩:=Xn g2;obtain⟨x2,rfl,w2⟩:=X8i (n:=n+0) h2;obtain rfl:=X3j g3;exact⟨X5v.mk x0 x1 x2,rfl,⟨w0,w1,w2⟩⟩
theorem X066 {n:Nat} {a:AV} (h:X0s Tryz.prog (n+4) 27 a):∃ x:X1t,a=(X22 false x)/\Xle x:=by
 unfold X0s at h;simp only[Tryz.underlying27] at h;obtain⟨l,rfl,g0⟩:=h;obtain⟨y0,r0,rfl,h0,g1⟩:=Xn g0;obtain⟨x0,rfl,w0⟩:=Xo3 (n:=n+2) h0;obtain⟨y1,r1,rfl,h1,g2⟩:=Xn g1;obtain⟨x1,rfl,w1⟩:=Xxk (n:=n+0) h1;obtain⟨y2,r2,rfl,h2,g3⟩:=Xn g2;obtain⟨x2,rfl,w2⟩:=X068 (n:=n+1) h2;obtain⟨y3,r3,rfl,h3,g4⟩:=Xn g3;obtain⟨x3,rfl,w3⟩:=Xxj (n:=n+2) h3;obtain⟨y4,r4,rfl,h4,g5⟩:=Xn g4;obtain⟨x4,rfl,w4⟩:=Xxk (n:=n+0) h4;obtain⟨y5,r5,rfl,h5,g6⟩:=Xn g5;obtain⟨x5,rfl,w5⟩:=X067 (n:=n+1) h5;obtain⟨y6,r6,rfl,h6,g7⟩:=Xn g6;obtain⟨x6,rfl,w6⟩:=Xxj (n:=n+2) h6;obtain⟨y7,r7,rfl,h7,g8⟩:=Xn g7;obtain⟨x7,rfl,w7⟩:=Xo3 (n:=n+2) h7;obtain rfl:=X3j g8;exact⟨X1t.mk x0 x1 x2 x3 x4 x5 x6 x7,rfl,⟨w0,w1,w2,w3,w4,w5,w6,w7⟩⟩
theorem Xxi {n:Nat} {a:AV} (h:X0s Tryz.prog (n+2) 67 a):∃ x:GOp,a=(X2g x)/\Xte x:=by
 unfold X0s at h;simp only[Tryz.underlying67] at h;obtain⟨l,rfl,g0⟩:=h;obtain⟨y0,r0,rfl,h0,g1⟩:=Xn g0;obtain⟨x0,rfl,w0⟩:=Xo3 (n:=n+0) h0;obtain⟨y1,r1,rfl,h1,g2⟩:=Xn g1;obtain⟨x1,rfl,w1⟩:=Xdd (n:=n+0) h1;obtain rfl:=X3j g2;exact⟨GOp.mk x0 x1,rfl,⟨w0,w1⟩⟩
theorem X065 {n:Nat} {a:AV} (h:X0s Tryz.prog (n+3) 28 a):∃ x:(List GOp),a=(AV.list false (List.map X2g x))/\(List.length x<=maxLen/\∀ y∈x,Xte y):=by
 unfold X0s at h;simp only[Tryz.underlying28] at h;obtain⟨es,rfl,hl,hs⟩:=h;obtain⟨l,rfl,hw⟩:=X3c λx hx=>Xxi (n:=n) (hs x hx);exact⟨l,rfl,by simpa using hl,hw⟩
theorem X05q {n:Nat} {a:AV} (h:X0s Tryz.prog (n+2) 81 a):∃ x:Xk,a=(X8 x)/\Xgq x:=by
 unfold X0s at h;simp only[Tryz.underlying81] at h;obtain⟨l,rfl,g0⟩:=h;obtain⟨y0,r0,rfl,h0,g1⟩:=Xn g0;obtain⟨x0,rfl,w0⟩:=Xdd (n:=n+0) h0;obtain⟨y1,r1,rfl,h1,g2⟩:=Xn g1;obtain⟨x1,rfl,w1⟩:=Xdd (n:=n+0) h1;obtain⟨y2,r2,rfl,h2,g3⟩:=Xn g2;obtain⟨x2,rfl,w2⟩:=Xdd (n:=n+0) h2;obtain⟨y3,r3,rfl,h3,g4⟩:=Xn g3;obtain⟨x3,rfl,w3⟩:=Xdd (n:=n+0) h3;obtain⟨y4,r4,rfl,h4,g5⟩:=Xn g4;obtain⟨x4,rfl,w4⟩:=Xdd (n:=n+0) h4;obtain rfl:=X3j g5;exact⟨Xk.mk x0 x1 x2 x3 x4,rfl,⟨w0,w1,w2,w3,w4⟩⟩
theorem X064 {n:Nat} {a:AV} (h:X0s Tryz.prog (n+3) 29 a):∃ x:(List Xk),a=(AV.list false (List.map X8 x))/\(List.length x<=maxLen/\∀ y∈x,Xgq y):=by
 unfold X0s at h;simp only[Tryz.underlying29] at h;obtain⟨es,rfl,hl,hs⟩:=h;obtain⟨l,rfl,hw⟩:=X3c λx hx=>X05q (n:=n) (hs x hx);exact⟨l,rfl,by simpa using hl,hw⟩
theorem X063 {n:Nat} {a:AV} (h:X0s Tryz.prog (n+4) 31 a):∃ x:Xt,a=(Xb false x)/\Xqd x:=by
 unfold X0s at h;simp only[Tryz.underlying31] at h;obtain⟨l,rfl,g0⟩:=h;obtain⟨y0,r0,rfl,h0,g1⟩:=Xn g0;obtain⟨x0,rfl,w0⟩:=X065 (n:=n+0) h0;obtain⟨y1,r1,rfl,h1,g2⟩:=Xn g1;obtain⟨x1,rfl,w1⟩:=X064 (n:=n+0) h1;obtain rfl:=X3j g2;exact⟨Xt.mk x0 x1,rfl,⟨w0,w1⟩⟩
theorem Xp7 {n:Nat} {a:AV} (h:X0s Tryz.prog (n+2) 126 a):∃ x:X07,a=(X1b x)/\Xd8 x:=by
 unfold X0s at h;simp only[Tryz.underlying126] at h;obtain⟨l,rfl,g0⟩:=h;obtain⟨y0,r0,rfl,h0,g1⟩:=Xn g0;obtain⟨x0,rfl,w0⟩:=X8i (n:=n+0) h0;obtain⟨y1,r1,rfl,h1,g2⟩:=Xn g1;obtain⟨x1,rfl,w1⟩:=X8i (n:=n+0) h1;obtain⟨y2,r2,rfl,h2,g3⟩:=Xn g2;obtain⟨x2,rfl,w2⟩:=X8i (n:=n+0) h2;obtain rfl:=X3j g3;exact⟨X07.mk x0 x1 x2,rfl,⟨w0,w1,w2⟩⟩
theorem Xxh {n:Nat} {a:AV} (h:X0s Tryz.prog (n+2) 96 a):∃ x:X5w,a=(X004 x)/\Xoy x:=by
 unfold X0s at h;simp only[Tryz.underlying96] at h;obtain⟨l,rfl,g0⟩:=h;obtain⟨y0,r0,rfl,h0,g1⟩:=Xn g0;obtain⟨x0,rfl,w0⟩:=X8i (n:=n+0) h0;obtain⟨y1,r1,rfl,h1,g2⟩:=Xn g1;obtain⟨x1,rfl,w1⟩:=X8i (n:=n+0) h1;obtain rfl:=X3j g2;exact⟨X5w.mk x0 x1,rfl,⟨w0,w1⟩⟩
theorem X02n {n:Nat} {a:AV} (h:X0s Tryz.prog (n+2) 127 a):∃ x:(V2 Int),a=(X1k x)/\Xtd x:=by
 unfold X0s at h;simp only[Tryz.underlying127] at h;obtain⟨l,rfl,hm,hs⟩:=h;obtain⟨y0,y1,rfl⟩:∃ y0 y1,l=[y0,y1]:=by
  match l,hm with
  |[y0,y1],_=>exact⟨y0,y1,rfl⟩
 obtain⟨x0,rfl,w0⟩:=X8i (n:=n) (hs y0 (by simp));obtain⟨x1,rfl,w1⟩:=X8i (n:=n) (hs y1 (by simp));exact⟨V2.mk x0 x1,rfl,⟨w0,w1⟩⟩
theorem Xtm {n:Nat} {a:AV} (h:X0s Tryz.prog (n+3) 129 a):∃ x:X9f,a=(X3z x)/\Xp0 x:=by
 unfold X0s at h;simp only[Tryz.underlying129] at h;obtain⟨l,rfl,g0⟩:=h;obtain⟨y0,r0,rfl,h0,g1⟩:=Xn g0;obtain⟨x0,rfl,w0⟩:=X8i (n:=n+1) h0;obtain⟨y1,r1,rfl,h1,g2⟩:=Xn g1;obtain⟨x1,rfl,w1⟩:=Xxh (n:=n+0) h1;obtain⟨y2,r2,rfl,h2,g3⟩:=Xn g2;obtain⟨x2,rfl,w2⟩:=X02n (n:=n+0) h2;obtain rfl:=X3j g3;exact⟨X9f.mk x0 x1 x2,rfl,⟨w0,w1,w2⟩⟩
theorem Xtl {n:Nat} {a:AV} (h:X0s Tryz.prog (n+4) 131 a):∃ x:Xo,a=(Xw x)/\Xe5 x:=by
 unfold X0s at h;simp only[Tryz.underlying131] at h;obtain⟨l,rfl,g0⟩:=h;obtain⟨y0,r0,rfl,h0,g1⟩:=Xn g0;obtain⟨x0,rfl,w0⟩:=Xo3 (n:=n+2) h0;obtain⟨y1,r1,rfl,h1,g2⟩:=Xn g1;obtain⟨x1,rfl,w1⟩:=Xp7 (n:=n+1) h1;obtain⟨y2,r2,rfl,h2,g3⟩:=Xn g2;obtain⟨x2,rfl,w2⟩:=X8i (n:=n+2) h2;obtain⟨y3,r3,rfl,h3,g4⟩:=Xn g3;obtain⟨x3,rfl,w3⟩:=Xtm (n:=n+0) h3;obtain rfl:=X3j g4;exact⟨Xo.mk x0 x1 x2 x3,rfl,⟨w0,w1,w2,w3⟩⟩
theorem X02l {n:Nat} {a:AV} (h:X0s Tryz.prog (n+5) 172 a):∃ x:X3i,a=(X0i x)/\Xoz x:=by
 unfold X0s at h;simp only[Tryz.underlying172] at h;obtain⟨l,rfl,g0⟩:=h;obtain⟨y0,r0,rfl,h0,g1⟩:=Xn g0;obtain⟨x0,rfl,w0⟩:=Xdd (n:=n+3) h0;obtain⟨y1,r1,rfl,h1,g2⟩:=Xn g1;obtain⟨x1,rfl,w1⟩:=Xtl (n:=n+0) h1;obtain rfl:=X3j g2;exact⟨X3i.mk x0 x1,rfl,⟨w0,w1⟩⟩
theorem X05y {n:Nat} {a:AV} (h:X0s Tryz.prog (n+6) 68 a):∃ x:(List X3i),a=(AV.list false (List.map X0i x))/\(List.length x<=maxLen/\∀ y∈x,Xoz y):=by
 unfold X0s at h;simp only[Tryz.underlying68] at h;obtain⟨es,rfl,hl,hs⟩:=h;obtain⟨l,rfl,hw⟩:=X3c λx hx=>X02l (n:=n) (hs x hx);exact⟨l,rfl,by simpa using hl,hw⟩
theorem X05x {n:Nat} {a:AV} (h:X0s Tryz.prog (n+2) 69 a):∃ x:(List Int),a=(AV.list false (List.map (aI .i64) x))/\(List.length x<=maxLen/\∀ y∈x,wfI .i64 y):=by
 unfold X0s at h;simp only[Tryz.underlying69] at h;obtain⟨es,rfl,hl,hs⟩:=h;obtain⟨l,rfl,hw⟩:=X3c λx hx=>X8i (n:=n) (hs x hx);exact⟨l,rfl,by simpa using hl,hw⟩
theorem Xxg {n:Nat} {a:AV} (h:X0s Tryz.prog (n+2) 98 a):∃ x:X4z,a=(X84 x)/\Xli x:=by
 unfold X0s at h;simp only[Tryz.underlying98] at h;obtain⟨l,rfl,g0⟩:=h;obtain⟨y0,r0,rfl,h0,g1⟩:=Xn g0;obtain⟨x0,rfl,w0⟩:=X8i (n:=n+0) h0;obtain⟨y1,r1,rfl,h1,g2⟩:=Xn g1;obtain⟨x1,rfl,w1⟩:=X8i (n:=n+0) h1;obtain⟨y2,r2,rfl,h2,g3⟩:=Xn g2;obtain⟨x2,rfl,w2⟩:=X8i (n:=n+0) h2;obtain⟨y3,r3,rfl,h3,g4⟩:=Xn g3;obtain⟨x3,rfl,w3⟩:=X8i (n:=n+0) h3;obtain rfl:=X3j g4;exact⟨X4z.mk x0 x1 x2 x3,rfl,⟨w0,w1,w2,w3⟩⟩
theorem X05p {n:Nat} {a:AV} (h:X0s Tryz.prog (n+3) 99 a):∃ x:(V2 X4z),a=(Xpz x)/\Xlc x:=by
 unfold X0s at h;simp only[Tryz.underlying99] at h;obtain⟨l,rfl,hm,hs⟩:=h;obtain⟨y0,y1,rfl⟩:∃ y0 y1,l=[y0,y1]:=by
  match l,hm with
  |[y0,y1],_=>exact⟨y0,y1,rfl⟩
 obtain⟨x0,rfl,w0⟩:=Xxg (n:=n) (hs y0 (by simp));obtain⟨x1,rfl,w1⟩:=Xxg (n:=n) (hs y1 (by simp));exact⟨V2.mk x0 x1,rfl,⟨w0,w1⟩⟩
theorem X02o {n:Nat} {a:AV} (h:X0s Tryz.prog (n+4) 101 a):∃ x:Xg,a=(X1 x)/\Xlh x:=by
 unfold X0s at h;simp only[Tryz.underlying101] at h;obtain⟨l,rfl,g0⟩:=h;obtain⟨y0,r0,rfl,h0,g1⟩:=Xn g0;obtain⟨x0,rfl,w0⟩:=X8i (n:=n+2) h0;obtain⟨y1,r1,rfl,h1,g2⟩:=Xn g1;obtain⟨x1,rfl,w1⟩:=Xxh (n:=n+1) h1;obtain⟨y2,r2,rfl,h2,g3⟩:=Xn g2;obtain⟨x2,rfl,w2⟩:=X05p (n:=n+0) h2;obtain rfl:=X3j g3;exact⟨Xg.mk x0 x1 x2,rfl,⟨w0,w1,w2⟩⟩
theorem X05z {n:Nat} {a:AV} (h:X0s Tryz.prog (n+5) 38 a):∃ x:(List Xg),a=(AV.list false (List.map X1 x))/\(List.length x<=maxLen/\∀ y∈x,Xlh y):=by
 unfold X0s at h;simp only[Tryz.underlying38] at h;obtain⟨es,rfl,hl,hs⟩:=h;obtain⟨l,rfl,hw⟩:=X3c λx hx=>X02o (n:=n) (hs x hx);exact⟨l,rfl,by simpa using hl,hw⟩
theorem X02m {n:Nat} {a:AV} (h:X0s Tryz.prog (n+3) 134 a):∃ x:X5m,a=(X0u x)/\Xlg x:=by
 unfold X0s at h;simp only[Tryz.underlying134] at h;obtain⟨l,rfl,g0⟩:=h;obtain⟨y0,r0,rfl,h0,g1⟩:=Xn g0;obtain⟨x0,rfl,w0⟩:=Xxj (n:=n+1) h0;obtain⟨y1,r1,rfl,h1,g2⟩:=Xn g1;obtain⟨x1,rfl,w1⟩:=X8i (n:=n+1) h1;obtain⟨y2,r2,rfl,h2,g3⟩:=Xn g2;obtain⟨x2,rfl,w2⟩:=Xp7 (n:=n+0) h2;obtain rfl:=X3j g3;exact⟨X5m.mk x0 x1 x2,rfl,⟨w0,w1,w2⟩⟩
theorem X05w {n:Nat} {a:AV} (h:X0s Tryz.prog (n+4) 70 a):∃ x:(List X5m),a=(AV.list false (List.map X0u x))/\(List.length x<=maxLen/\∀ y∈x,Xlg y):=by
 unfold X0s at h;simp only[Tryz.underlying70] at h;obtain⟨es,rfl,hl,hs⟩:=h;obtain⟨l,rfl,hw⟩:=X3c λx hx=>X02m (n:=n) (hs x hx);exact⟨l,rfl,by simpa using hl,hw⟩
theorem X05v {n:Nat} {a:AV} (h:X0s Tryz.prog (n+4) 71 a):∃ x:(List X9f),a=(AV.list false (List.map X3z x))/\(List.length x<=maxLen/\∀ y∈x,Xp0 y):=by
 unfold X0s at h;simp only[Tryz.underlying71] at h;obtain⟨es,rfl,hl,hs⟩:=h;obtain⟨l,rfl,hw⟩:=X3c λx hx=>Xtm (n:=n) (hs x hx);exact⟨l,rfl,by simpa using hl,hw⟩
theorem X05u {n:Nat} {a:AV} (h:X0s Tryz.prog (n+3) 72 a):∃ x:(List X07),a=(AV.list false (List.map X1b x))/\(List.length x<=maxLen/\∀ y∈x,Xd8 y):=by
 unfold X0s at h;simp only[Tryz.underlying72] at h;obtain⟨es,rfl,hl,hs⟩:=h;obtain⟨l,rfl,hw⟩:=X3c λx hx=>Xp7 (n:=n) (hs x hx);exact⟨l,rfl,by simpa using hl,hw⟩
theorem X05t {n:Nat} {a:AV} (h:X0s Tryz.prog (n+7) 74 a):∃ x:Xv,a=(Xa false x)/\Xox x:=by
 unfold X0s at h;simp only[Tryz.underlying74] at h;obtain⟨l,rfl,g0⟩:=h;obtain⟨y0,r0,rfl,h0,g1⟩:=Xn g0;obtain⟨x0,rfl,w0⟩:=Xxi (n:=n+4) h0;obtain⟨y1,r1,rfl,h1,g2⟩:=Xn g1;obtain⟨x1,rfl,w1⟩:=Xdd (n:=n+5) h1;obtain⟨y2,r2,rfl,h2,g3⟩:=Xn g2;obtain⟨x2,rfl,w2⟩:=X05y (n:=n+0) h2;obtain⟨y3,r3,rfl,h3,g4⟩:=Xn g3;obtain⟨x3,rfl,w3⟩:=X05x (n:=n+4) h3;obtain⟨y4,r4,rfl,h4,g5⟩:=Xn g4;obtain⟨x4,rfl,w4⟩:=X05z (n:=n+1) h4;obtain⟨y5,r5,rfl,h5,g6⟩:=Xn g5;obtain⟨x5,rfl,w5⟩:=X05w (n:=n+2) h5;obtain⟨y6,r6,rfl,h6,g7⟩:=Xn g6;obtain⟨x6,rfl,w6⟩:=X05v (n:=n+2) h6;obtain⟨y7,r7,rfl,h7,g8⟩:=Xn g7;obtain⟨x7,rfl,w7⟩:=X05u (n:=n+3) h7;obtain rfl:=X3j g8;exact⟨Xv.mk x0 x1 x2 x3 x4 x5 x6 x7,rfl,⟨w0,w1,w2,w3,w4,w5,w6,w7⟩⟩
theorem X062 {n:Nat} {a:AV} (h:X0s Tryz.prog (n+8) 32 a):∃ x:(List Xv),a=(AV.list false (List.map (Xa false) x))/\(List.length x<=maxLen/\∀ y∈x,Xox y):=by
 unfold X0s at h;simp only[Tryz.underlying32] at h;obtain⟨es,rfl,hl,hs⟩:=h;obtain⟨l,rfl,hw⟩:=X3c λx hx=>X05t (n:=n) (hs x hx);exact⟨l,rfl,by simpa using hl,hw⟩
theorem X05s {n:Nat} {a:AV} (h:X0s Tryz.prog (n+5) 76 a):∃ x:(List Xo),a=(AV.list false (List.map Xw x))/\(List.length x<=maxLen/\∀ y∈x,Xe5 y):=by
 unfold X0s at h;simp only[Tryz.underlying76] at h;obtain⟨es,rfl,hl,hs⟩:=h;obtain⟨l,rfl,hw⟩:=X3c λx hx=>Xtl (n:=n) (hs x hx);exact⟨l,rfl,by simpa using hl,hw⟩
theorem X05r {n:Nat} {a:AV} (h:X0s Tryz.prog (n+6) 78 a):∃ x:X0e,a=(Xq false x)/\Xld x:=by
 unfold X0s at h;simp only[Tryz.underlying78] at h;obtain⟨l,rfl,g0⟩:=h;obtain⟨y0,r0,rfl,h0,g1⟩:=Xn g0;obtain⟨x0,rfl,w0⟩:=Xdd (n:=n+4) h0;obtain⟨y1,r1,rfl,h1,g2⟩:=Xn g1;obtain⟨x1,rfl,w1⟩:=X05s (n:=n+0) h1;obtain rfl:=X3j g2;exact⟨X0e.mk x0 x1,rfl,⟨w0,w1⟩⟩
theorem X061 {n:Nat} {a:AV} (h:X0s Tryz.prog (n+7) 33 a):∃ x:(List X0e),a=(AV.list false (List.map (Xq false) x))/\(List.length x<=maxLen/\∀ y∈x,Xld y):=by
 unfold X0s at h;simp only[Tryz.underlying33] at h;obtain⟨es,rfl,hl,hs⟩:=h;obtain⟨l,rfl,hw⟩:=X3c λx hx=>X05r (n:=n) (hs x hx);exact⟨l,rfl,by simpa using hl,hw⟩
theorem X060 {n:Nat} {a:AV} (h:X0s Tryz.prog (n+9) 35 a):∃ x:Xf,a=(Xc false x)/\Xlf x:=by
 unfold X0s at h;simp only[Tryz.underlying35] at h;obtain⟨l,rfl,g0⟩:=h;obtain⟨y0,r0,rfl,h0,g1⟩:=Xn g0;obtain⟨x0,rfl,w0⟩:=X066 (n:=n+4) h0;obtain⟨y1,r1,rfl,h1,g2⟩:=Xn g1;obtain⟨x1,rfl,w1⟩:=X063 (n:=n+4) h1;obtain⟨y2,r2,rfl,h2,g3⟩:=Xn g2;obtain⟨x2,rfl,w2⟩:=X062 (n:=n+0) h2;obtain⟨y3,r3,rfl,h3,g4⟩:=Xn g3;obtain⟨x3,rfl,w3⟩:=X061 (n:=n+1) h3;obtain rfl:=X3j g4;exact⟨Xf.mk x0 x1 x2 x3,rfl,⟨w0,w1,w2,w3⟩⟩
theorem PartialTells_run (xs:List AV) (g0:Xt9 (λt a=>X0s Tryz.prog 9 t a) [35] xs):X05 Tryz.prog 3 xs (.sc (.bool true)):=by
 obtain⟨y0,r0,rfl,h0,g1⟩:=Xn g0;obtain⟨x0,rfl,w0⟩:=X060 (n:=0) h0;obtain rfl:=X3j g1;exact Xfl.ok x0 true (Xfm x0 w0)
end Go.Av.Tryz
