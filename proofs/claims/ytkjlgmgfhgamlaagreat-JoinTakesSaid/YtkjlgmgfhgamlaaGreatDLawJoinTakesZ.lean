/- Printed by decomp.py: the law JoinTakes, from its arguments as they lie. -/
import Derived.Test.YtkjlgmgfhgamlaaGreatDCertZ
import Derived.Test.YtkjlgmgfhgamlaaGreatPza
set_option linter.all false

namespace Go.Av.Tryz
open Go.Proofs Go.D
set_option maxRecDepth 100000
theorem Xne {n:Nat} {a:AV} (h:X1x Tryz.prog (n+1) 5 a):∃ x:Int,a=(aI .u8 x)/\wfI .u8 x:=by
 unfold X1x at h;simp only[Tryz.underlying5] at h;obtain⟨z,rfl,h⟩:=h;exact⟨z,rfl,h⟩
theorem X7s {n:Nat} {a:AV} (h:X1x Tryz.prog (n+1) 2 a):∃ x:Int,a=(aI .i64 x)/\wfI .i64 x:=by
 unfold X1x at h;simp only[Tryz.underlying2] at h;obtain⟨z,rfl,h⟩:=h;exact⟨z,rfl,h⟩
theorem Xgx {n:Nat} {a:AV} (h:X1x Tryz.prog (n+1) 3 a):∃ x:Int,a=(aI .i64 x)/\wfI .i64 x:=by
 unfold X1x at h;simp only[Tryz.underlying3] at h;obtain⟨z,rfl,h⟩:=h;exact⟨z,rfl,h⟩
theorem X02k {n:Nat} {a:AV} (h:X1x Tryz.prog (n+2) 147 a):∃ x:X0f,a=(X4 x)/\Xkf x:=by
 unfold X1x at h;simp only[Tryz.underlying147] at h;obtain⟨l,rfl,g0⟩:=h;obtain⟨y0,r0,rfl,h0,g1⟩:=Xx g0;obtain⟨x0,rfl,w0⟩:=Xne (n:=n+0) h0;obtain⟨y1,r1,rfl,h1,g2⟩:=Xx g1;obtain⟨x1,rfl,w1⟩:=X7s (n:=n+0) h1;obtain⟨y2,r2,rfl,h2,g3⟩:=Xx g2;obtain⟨x2,rfl,w2⟩:=Xgx (n:=n+0) h2;obtain⟨y3,r3,rfl,h3,g4⟩:=Xx g3;obtain⟨x3,rfl,w3⟩:=Xgx (n:=n+0) h3;obtain⟨y4,r4,rfl,h4,g5⟩:=Xx g4;obtain⟨x4,rfl,w4⟩:=Xgx (n:=n+0) h4;obtain rfl:=X5f g5;exact⟨X0f.mk x0 x1 x2 x3 x4,rfl,⟨w0,w1,w2,w3,w4⟩⟩
theorem Xxi {n:Nat} {a:AV} (h:X1x Tryz.prog (n+3) 22 a):∃ x:(List X0f),a=(AV.list false (List.map X4 x))/\(List.length x<=maxLen/\∀ y∈x,Xkf y):=by
 unfold X1x at h;simp only[Tryz.underlying22] at h;obtain⟨es,rfl,hl,hs⟩:=h;obtain⟨l,rfl,hw⟩:=X7b λx hx=>X02k (n:=n) (hs x hx);exact⟨l,rfl,by simpa using hl,hw⟩
theorem X061 {n:Nat} {a:AV} (h:X1x Tryz.prog (n+2) 23 a):∃ x:(List Int),a=(AV.list false (List.map (aI .i64) x))/\(List.length x<=maxLen/\∀ y∈x,wfI .i64 y):=by
 unfold X1x at h;simp only[Tryz.underlying23] at h;obtain⟨es,rfl,hl,hs⟩:=h;obtain⟨l,rfl,hw⟩:=X7b λx hx=>Xgx (n:=n) (hs x hx);exact⟨l,rfl,by simpa using hl,hw⟩
theorem Xxg {n:Nat} {a:AV} (h:X1x Tryz.prog (n+1) 4 a):∃ x:Bool,a=(aB x)/\True:=by
 unfold X1x at h;simp only[Tryz.underlying4] at h;obtain⟨b,rfl⟩:=h;exact⟨b,rfl,trivial⟩
theorem X060 {n:Nat} {a:AV} (h:X1x Tryz.prog (n+2) 25 a):∃ x:X1z,a=(X1y x)/\Xn9 x:=by
 unfold X1x at h;simp only[Tryz.underlying25] at h;obtain⟨l,rfl,g0⟩:=h;obtain⟨y0,r0,rfl,h0,g1⟩:=Xx g0;obtain⟨x0,rfl,w0⟩:=Xne (n:=n+0) h0;obtain⟨y1,r1,rfl,h1,g2⟩:=Xx g1;obtain⟨x1,rfl,w1⟩:=X7s (n:=n+0) h1;obtain⟨y2,r2,rfl,h2,g3⟩:=Xx g2;obtain⟨x2,rfl,w2⟩:=X7s (n:=n+0) h2;obtain rfl:=X5f g3;exact⟨X1z.mk x0 x1 x2,rfl,⟨w0,w1,w2⟩⟩
theorem X05z {n:Nat} {a:AV} (h:X1x Tryz.prog (n+4) 27 a):∃ x:X0g,a=(X07 false x)/\Xkw x:=by
 unfold X1x at h;simp only[Tryz.underlying27] at h;obtain⟨l,rfl,g0⟩:=h;obtain⟨y0,r0,rfl,h0,g1⟩:=Xx g0;obtain⟨x0,rfl,w0⟩:=Xne (n:=n+2) h0;obtain⟨y1,r1,rfl,h1,g2⟩:=Xx g1;obtain⟨x1,rfl,w1⟩:=Xxi (n:=n+0) h1;obtain⟨y2,r2,rfl,h2,g3⟩:=Xx g2;obtain⟨x2,rfl,w2⟩:=X061 (n:=n+1) h2;obtain⟨y3,r3,rfl,h3,g4⟩:=Xx g3;obtain⟨x3,rfl,w3⟩:=Xxg (n:=n+2) h3;obtain⟨y4,r4,rfl,h4,g5⟩:=Xx g4;obtain⟨x4,rfl,w4⟩:=Xxi (n:=n+0) h4;obtain⟨y5,r5,rfl,h5,g6⟩:=Xx g5;obtain⟨x5,rfl,w5⟩:=X060 (n:=n+1) h5;obtain⟨y6,r6,rfl,h6,g7⟩:=Xx g6;obtain⟨x6,rfl,w6⟩:=Xxg (n:=n+2) h6;obtain⟨y7,r7,rfl,h7,g8⟩:=Xx g7;obtain⟨x7,rfl,w7⟩:=Xne (n:=n+2) h7;obtain rfl:=X5f g8;exact⟨X0g.mk x0 x1 x2 x3 x4 x5 x6 x7,rfl,⟨w0,w1,w2,w3,w4,w5,w6,w7⟩⟩
theorem X05w {n:Nat} {a:AV} (h:X1x Tryz.prog (n+2) 45 a):∃ x:GOp,a=(X07w x)/\X04n x:=by
 unfold X1x at h;simp only[Tryz.underlying45] at h;obtain⟨l,rfl,g0⟩:=h;obtain⟨y0,r0,rfl,h0,g1⟩:=Xx g0;obtain⟨x0,rfl,w0⟩:=Xne (n:=n+0) h0;obtain⟨y1,r1,rfl,h1,g2⟩:=Xx g1;obtain⟨x1,rfl,w1⟩:=Xgx (n:=n+0) h1;obtain rfl:=X5f g2;exact⟨GOp.mk x0 x1,rfl,⟨w0,w1⟩⟩
theorem Xrd {n:Nat} {a:AV} (h:X1x Tryz.prog (n+2) 35 a):∃ x:Xg,a=(X5 x)/\Xcq x:=by
 unfold X1x at h;simp only[Tryz.underlying35] at h;obtain⟨l,rfl,g0⟩:=h;obtain⟨y0,r0,rfl,h0,g1⟩:=Xx g0;obtain⟨x0,rfl,w0⟩:=X7s (n:=n+0) h0;obtain⟨y1,r1,rfl,h1,g2⟩:=Xx g1;obtain⟨x1,rfl,w1⟩:=X7s (n:=n+0) h1;obtain⟨y2,r2,rfl,h2,g3⟩:=Xx g2;obtain⟨x2,rfl,w2⟩:=X7s (n:=n+0) h2;obtain rfl:=X5f g3;exact⟨Xg.mk x0 x1 x2,rfl,⟨w0,w1,w2⟩⟩
theorem Xxh {n:Nat} {a:AV} (h:X1x Tryz.prog (n+2) 37 a):∃ x:Xy,a=(Xr x)/\Xnz x:=by
 unfold X1x at h;simp only[Tryz.underlying37] at h;obtain⟨l,rfl,g0⟩:=h;obtain⟨y0,r0,rfl,h0,g1⟩:=Xx g0;obtain⟨x0,rfl,w0⟩:=X7s (n:=n+0) h0;obtain⟨y1,r1,rfl,h1,g2⟩:=Xx g1;obtain⟨x1,rfl,w1⟩:=X7s (n:=n+0) h1;obtain rfl:=X5f g2;exact⟨Xy.mk x0 x1,rfl,⟨w0,w1⟩⟩
theorem X05x {n:Nat} {a:AV} (h:X1x Tryz.prog (n+2) 38 a):∃ x:(V2 Int),a=(Xw2 x)/\Xtl x:=by
 unfold X1x at h;simp only[Tryz.underlying38] at h;obtain⟨l,rfl,hm,hs⟩:=h;obtain⟨y0,y1,rfl⟩:∃ y0 y1,l=[y0,y1]:=by
  match l,hm with
  |[y0,y1],_=>exact⟨y0,y1,rfl⟩
 obtain⟨x0,rfl,w0⟩:=X7s (n:=n) (hs y0 (by simp));obtain⟨x1,rfl,w1⟩:=X7s (n:=n) (hs y1 (by simp));exact⟨V2.mk x0 x1,rfl,⟨w0,w1⟩⟩
theorem Xxf {n:Nat} {a:AV} (h:X1x Tryz.prog (n+3) 40 a):∃ x:X1b,a=(Xf x)/\Xo1 x:=by
 unfold X1x at h;simp only[Tryz.underlying40] at h;obtain⟨l,rfl,g0⟩:=h;obtain⟨y0,r0,rfl,h0,g1⟩:=Xx g0;obtain⟨x0,rfl,w0⟩:=X7s (n:=n+1) h0;obtain⟨y1,r1,rfl,h1,g2⟩:=Xx g1;obtain⟨x1,rfl,w1⟩:=Xxh (n:=n+0) h1;obtain⟨y2,r2,rfl,h2,g3⟩:=Xx g2;obtain⟨x2,rfl,w2⟩:=X05x (n:=n+0) h2;obtain rfl:=X5f g3;exact⟨X1b.mk x0 x1 x2,rfl,⟨w0,w1,w2⟩⟩
theorem Xxe {n:Nat} {a:AV} (h:X1x Tryz.prog (n+4) 42 a):∃ x:Xp,a=(X0n x)/\Xgb x:=by
 unfold X1x at h;simp only[Tryz.underlying42] at h;obtain⟨l,rfl,g0⟩:=h;obtain⟨y0,r0,rfl,h0,g1⟩:=Xx g0;obtain⟨x0,rfl,w0⟩:=Xne (n:=n+2) h0;obtain⟨y1,r1,rfl,h1,g2⟩:=Xx g1;obtain⟨x1,rfl,w1⟩:=Xrd (n:=n+1) h1;obtain⟨y2,r2,rfl,h2,g3⟩:=Xx g2;obtain⟨x2,rfl,w2⟩:=X7s (n:=n+2) h2;obtain⟨y3,r3,rfl,h3,g4⟩:=Xx g3;obtain⟨x3,rfl,w3⟩:=Xxf (n:=n+0) h3;obtain rfl:=X5f g4;exact⟨Xp.mk x0 x1 x2 x3,rfl,⟨w0,w1,w2,w3⟩⟩
theorem X05o {n:Nat} {a:AV} (h:X1x Tryz.prog (n+5) 75 a):∃ x:X09,a=(Xc x)/\Xo0 x:=by
 unfold X1x at h;simp only[Tryz.underlying75] at h;obtain⟨l,rfl,g0⟩:=h;obtain⟨y0,r0,rfl,h0,g1⟩:=Xx g0;obtain⟨x0,rfl,w0⟩:=Xgx (n:=n+3) h0;obtain⟨y1,r1,rfl,h1,g2⟩:=Xx g1;obtain⟨x1,rfl,w1⟩:=Xxe (n:=n+0) h1;obtain rfl:=X5f g2;exact⟨X09.mk x0 x1,rfl,⟨w0,w1⟩⟩
theorem X05v {n:Nat} {a:AV} (h:X1x Tryz.prog (n+6) 46 a):∃ x:(List X09),a=(AV.list false (List.map Xc x))/\(List.length x<=maxLen/\∀ y∈x,Xo0 y):=by
 unfold X1x at h;simp only[Tryz.underlying46] at h;obtain⟨es,rfl,hl,hs⟩:=h;obtain⟨l,rfl,hw⟩:=X7b λx hx=>X05o (n:=n) (hs x hx);exact⟨l,rfl,by simpa using hl,hw⟩
theorem X05u {n:Nat} {a:AV} (h:X1x Tryz.prog (n+2) 47 a):∃ x:(List Int),a=(AV.list false (List.map (aI .i64) x))/\(List.length x<=maxLen/\∀ y∈x,wfI .i64 y):=by
 unfold X1x at h;simp only[Tryz.underlying47] at h;obtain⟨es,rfl,hl,hs⟩:=h;obtain⟨l,rfl,hw⟩:=X7b λx hx=>X7s (n:=n) (hs x hx);exact⟨l,rfl,by simpa using hl,hw⟩
theorem Xxd {n:Nat} {a:AV} (h:X1x Tryz.prog (n+2) 70 a):∃ x:Xm,a=(Xv x)/\Xkz x:=by
 unfold X1x at h;simp only[Tryz.underlying70] at h;obtain⟨l,rfl,g0⟩:=h;obtain⟨y0,r0,rfl,h0,g1⟩:=Xx g0;obtain⟨x0,rfl,w0⟩:=X7s (n:=n+0) h0;obtain⟨y1,r1,rfl,h1,g2⟩:=Xx g1;obtain⟨x1,rfl,w1⟩:=X7s (n:=n+0) h1;obtain⟨y2,r2,rfl,h2,g3⟩:=Xx g2;obtain⟨x2,rfl,w2⟩:=X7s (n:=n+0) h2;obtain⟨y3,r3,rfl,h3,g4⟩:=Xx g3;obtain⟨x3,rfl,w3⟩:=X7s (n:=n+0) h3;obtain rfl:=X5f g4;exact⟨Xm.mk x0 x1 x2 x3,rfl,⟨w0,w1,w2,w3⟩⟩
theorem X05p {n:Nat} {a:AV} (h:X1x Tryz.prog (n+3) 71 a):∃ x:(V2 Xm),a=(Xp5 x)/\Xkv x:=by
 unfold X1x at h;simp only[Tryz.underlying71] at h;obtain⟨l,rfl,hm,hs⟩:=h;obtain⟨y0,y1,rfl⟩:∃ y0 y1,l=[y0,y1]:=by
  match l,hm with
  |[y0,y1],_=>exact⟨y0,y1,rfl⟩
 obtain⟨x0,rfl,w0⟩:=Xxd (n:=n) (hs y0 (by simp));obtain⟨x1,rfl,w1⟩:=Xxd (n:=n) (hs y1 (by simp));exact⟨V2.mk x0 x1,rfl,⟨w0,w1⟩⟩
theorem Xxc {n:Nat} {a:AV} (h:X1x Tryz.prog (n+4) 73 a):∃ x:X1,a=(X0 x)/\Xky x:=by
 unfold X1x at h;simp only[Tryz.underlying73] at h;obtain⟨l,rfl,g0⟩:=h;obtain⟨y0,r0,rfl,h0,g1⟩:=Xx g0;obtain⟨x0,rfl,w0⟩:=X7s (n:=n+2) h0;obtain⟨y1,r1,rfl,h1,g2⟩:=Xx g1;obtain⟨x1,rfl,w1⟩:=Xxh (n:=n+1) h1;obtain⟨y2,r2,rfl,h2,g3⟩:=Xx g2;obtain⟨x2,rfl,w2⟩:=X05p (n:=n+0) h2;obtain rfl:=X5f g3;exact⟨X1.mk x0 x1 x2,rfl,⟨w0,w1,w2⟩⟩
theorem X05t {n:Nat} {a:AV} (h:X1x Tryz.prog (n+5) 48 a):∃ x:(List X1),a=(AV.list false (List.map X0 x))/\(List.length x<=maxLen/\∀ y∈x,Xky y):=by
 unfold X1x at h;simp only[Tryz.underlying48] at h;obtain⟨es,rfl,hl,hs⟩:=h;obtain⟨l,rfl,hw⟩:=X7b λx hx=>Xxc (n:=n) (hs x hx);exact⟨l,rfl,by simpa using hl,hw⟩
theorem X02l {n:Nat} {a:AV} (h:X1x Tryz.prog (n+3) 107 a):∃ x:X01,a=(X8 x)/\Xkx x:=by
 unfold X1x at h;simp only[Tryz.underlying107] at h;obtain⟨l,rfl,g0⟩:=h;obtain⟨y0,r0,rfl,h0,g1⟩:=Xx g0;obtain⟨x0,rfl,w0⟩:=Xxg (n:=n+1) h0;obtain⟨y1,r1,rfl,h1,g2⟩:=Xx g1;obtain⟨x1,rfl,w1⟩:=X7s (n:=n+1) h1;obtain⟨y2,r2,rfl,h2,g3⟩:=Xx g2;obtain⟨x2,rfl,w2⟩:=Xrd (n:=n+0) h2;obtain rfl:=X5f g3;exact⟨X01.mk x0 x1 x2,rfl,⟨w0,w1,w2⟩⟩
theorem X05s {n:Nat} {a:AV} (h:X1x Tryz.prog (n+4) 49 a):∃ x:(List X01),a=(AV.list false (List.map X8 x))/\(List.length x<=maxLen/\∀ y∈x,Xkx y):=by
 unfold X1x at h;simp only[Tryz.underlying49] at h;obtain⟨es,rfl,hl,hs⟩:=h;obtain⟨l,rfl,hw⟩:=X7b λx hx=>X02l (n:=n) (hs x hx);exact⟨l,rfl,by simpa using hl,hw⟩
theorem X05r {n:Nat} {a:AV} (h:X1x Tryz.prog (n+4) 50 a):∃ x:(List X1b),a=(AV.list false (List.map Xf x))/\(List.length x<=maxLen/\∀ y∈x,Xo1 y):=by
 unfold X1x at h;simp only[Tryz.underlying50] at h;obtain⟨es,rfl,hl,hs⟩:=h;obtain⟨l,rfl,hw⟩:=X7b λx hx=>Xxf (n:=n) (hs x hx);exact⟨l,rfl,by simpa using hl,hw⟩
theorem X05y {n:Nat} {a:AV} (h:X1x Tryz.prog (n+3) 28 a):∃ x:(List Xg),a=(AV.list false (List.map X5 x))/\(List.length x<=maxLen/\∀ y∈x,Xcq y):=by
 unfold X1x at h;simp only[Tryz.underlying28] at h;obtain⟨es,rfl,hl,hs⟩:=h;obtain⟨l,rfl,hw⟩:=X7b λx hx=>Xrd (n:=n) (hs x hx);exact⟨l,rfl,by simpa using hl,hw⟩
theorem X05q {n:Nat} {a:AV} (h:X1x Tryz.prog (n+7) 52 a):∃ x:Xo,a=(Xa false x)/\X02a x:=by
 unfold X1x at h;simp only[Tryz.underlying52] at h;obtain⟨l,rfl,g0⟩:=h;obtain⟨y0,r0,rfl,h0,g1⟩:=Xx g0;obtain⟨x0,rfl,w0⟩:=X05w (n:=n+4) h0;obtain⟨y1,r1,rfl,h1,g2⟩:=Xx g1;obtain⟨x1,rfl,w1⟩:=Xgx (n:=n+5) h1;obtain⟨y2,r2,rfl,h2,g3⟩:=Xx g2;obtain⟨x2,rfl,w2⟩:=X05v (n:=n+0) h2;obtain⟨y3,r3,rfl,h3,g4⟩:=Xx g3;obtain⟨x3,rfl,w3⟩:=X05u (n:=n+4) h3;obtain⟨y4,r4,rfl,h4,g5⟩:=Xx g4;obtain⟨x4,rfl,w4⟩:=X05t (n:=n+1) h4;obtain⟨y5,r5,rfl,h5,g6⟩:=Xx g5;obtain⟨x5,rfl,w5⟩:=X05s (n:=n+2) h5;obtain⟨y6,r6,rfl,h6,g7⟩:=Xx g6;obtain⟨x6,rfl,w6⟩:=X05r (n:=n+2) h6;obtain⟨y7,r7,rfl,h7,g8⟩:=Xx g7;obtain⟨x7,rfl,w7⟩:=X05y (n:=n+3) h7;obtain rfl:=X5f g8;exact⟨Xo.mk x0 x1 x2 x3 x4 x5 x6 x7,rfl,⟨w0,w1,w2,w3,w4,w5,w6,w7⟩⟩
theorem JoinTakes_run (xs:List AV) (g0:Xtg (λt a=>X1x Tryz.prog 7 t a) [27,52,3,42,3,73] xs):X0b Tryz.prog 7 xs (.sc (.bool true)):=by
 obtain⟨y0,r0,rfl,h0,g1⟩:=Xx g0;obtain⟨x0,rfl,w0⟩:=X05z (n:=3) h0;obtain⟨y1,r1,rfl,h1,g2⟩:=Xx g1;obtain⟨x1,rfl,w1⟩:=X05q (n:=0) h1;obtain⟨y2,r2,rfl,h2,g3⟩:=Xx g2;obtain⟨x2,rfl,w2⟩:=Xgx (n:=6) h2;obtain⟨y3,r3,rfl,h3,g4⟩:=Xx g3;obtain⟨x3,rfl,w3⟩:=Xxe (n:=3) h3;obtain⟨y4,r4,rfl,h4,g5⟩:=Xx g4;obtain⟨x4,rfl,w4⟩:=Xgx (n:=6) h4;obtain⟨y5,r5,rfl,h5,g6⟩:=Xx g5;obtain⟨x5,rfl,w5⟩:=Xxc (n:=3) h5;obtain rfl:=X5f g6;exact Xhe.ok x0 x1 x2 x3 x4 x5 true (Xhf x0 x1 x2 x3 x4 x5 w0 w1 w2 w3 w4 w5)
end Go.Av.Tryz
